import PyProof.Rows.All
import Wide.All
import OpenK.AllK
import Wide.FinOn
import HandS.ForMost
import HandS.Exc
import HandS.ExcOwn
import HandS.EndBits
import HandS.Lambda
import HandS.Codes
import HandS.IsInst
import HandS.StrMore
import HandS.Wide
import HandS.TupLe
import KE.DataEq
import HandS.TupAny
import PyProof.StrLawsIn
import PyProof.EqKinds
import PyProof.NeKinds
import HandS.Conv
import HandS.Style
import KE.KRevSl
import HandS.Flow
import HandS.WordsExc
import KE.GoesNew
import HandS.Zip
import PyProof.Rows.Range3
import KE.IntBitsLaws
import HandS.TupSets
import HandS.SetTxtIn
import PyProof.StrWalks
import PyProof.Rows.SortShellAny
import KE.KDictZip
import HandS.OwnIter
import HandS.Deep
import PyProof.ReprRoads
import PyProof.CallFns
import PyProof.ListStr
import HandS.More
import HandS.SortInts
import KE.KDictDisplayH
import PyProof.TupleOfStr
import KE.KExcSuper
import HandS.ExcInit
import HandS.ExcSuper
import HandS.Nested
import HandS.TryMany
import HandS.ExcField
import HandS.ExcIs
import KE.KNestM
import HandS.EndTab
import HandS.Dict
import KE.SortData
import HandS.Property
import HandS.Star
import KE.KOpsOwn
import HandS.OwnEq
import PyProof.InstNe
import HandS.TupMul
import KE.KDictPairs
import KE.KDictKeyed
import KE.KUnpack
import PyProof.StrLaws
import PySem.Challenge.RW_scatteredpieces_k55_sayings_written
import PyProof.ReprLen
set_option Elab.async false
set_option linter.all false
set_option maxRecDepth 100000
set_option maxHeartbeats 1000000
namespace QL
/-- the name that every code object of the table at P bears (the lambdas of a law's text lie in one def) -/
def lamName (P : PySem.Addr) : PySem.Str := "law.<locals>.<lambda>"
end QL
namespace QL
open PySem PySem.Spec L2
/-- data of the program: PyData -/
abbrev D := PyData
def kD : Key → D
  | .inl i => .int i
  | .inr x => .str x
/-- the script: known to the object, or of the written part -/
def Scr (K : PySem.W.Frag) (H : Hp) (a : Addr) (xs : List V) : Prop := (∃ o, H a = some (.frz o (.lst xs))) ∨
  ∃ (o : Obj) (its : Array Value) (n : Nat), K.lookup a = some o ∧ o.cls = .type "list" ∧ o.dict = none ∧ o.data = .seq its n ∧ its.size ≤ sizeLine ∧ Vals xs its.toList
theorem Scr.seq {K : PySem.W.Frag} {H : Hp} {a : Addr} {xs : List V} (h : Scr K H a xs) : SqL K H a xs := by
  rcases h with ⟨o, h⟩ | h
  · exact .inl (.inr ⟨o, h⟩)
  · exact .inr h
/-- the table at P, each of its code objects with the table's name -/
def TabL (H : Hp) (P : Addr) : Prop := LamX.TabS H P (lamName P)
def TabsL (T : List Addr) (H : Hp) : Prop := ∀ P ∈ T, TabL H P
theorem TabL.ext {H H' : Hp} {P : Addr} (t : TabL H P) (e : ∀ b o, H b = some o → H' b = some o) : TabL H' P := LamX.TabS.ext t e
/-- the ghosts: where the tape stands, where the script stands, its numbers -/
structure Gh where
  T : Option Addr
  sc : Addr
  ns : List Int
  tb : List Addr
/-- a tuple, just so -/
def TupAt (_ : PySem.W.Frag) (H : Hp) (a : Addr) (vs : List V) : Prop := H a = some (.tup vs)
theorem TupAt.sq {K : PySem.W.Frag} {H : Hp} {a : Addr} {vs : List V} (h : TupAt K H a vs) : SqT K H a vs := .inl (.inl h)
/-- a number that cannot be shown: it marks an object's data -/
def bigI : D := .int (2 ^ 2000)
theorem bigI_sh : bigI.showable = false := by decide +kernel
/-- an own class whose instances are data -/
structure ObC (K : PySem.W.Frag) (c : Str) (C : Addr) : Prop where
  ns : PySem.W.nsIn K mainGlobals c = some (some (.ref C))
  ic : C8.InsC K C
  no : ∀ T ∈ ["str", "int", "bool", "list", "tuple", "dict"], PySem.W.kitOne K (.ref C) (.type T) = some false
variable (K : PySem.W.Frag)
mutual
/-- frozen data: the value v stands for d in H; no list or dict of it is one of O -/
def R (O : List Addr) (H : Hp) : D → V → Prop
  | .none, v => v = .non
  | .bool b, v => v = .bl b
  | .int i, v => v = .int i
  | .str x, v => v = .str x
  | .list ds, v => ∃ a vs, v = .ref a ∧ a ∉ O ∧ H a = some (.lst vs) ∧ Rs O H ds vs
  | .tuple ds, v => ∃ a vs, v = .ref a ∧ TupAt K H a vs ∧ Rs O H ds vs
  | .dict kvs, v => ∃ a, v = .ref a ∧ a ∉ O ∧ ((∃ ws, Rd H a (.dK ws) ∧ RK O H kvs ws) ∨ (∃ ws, Rd H a (.dT ws) ∧ RT O H kvs ws) ∨ (∃ C dx ws, H a = some (.ins C dx ws) ∧ RO' O H C kvs ws))
def Rs (O : List Addr) (H : Hp) : List D → List V → Prop
  | [], vs => vs = []
  | d :: ds, vs => ∃ v ws, vs = v :: ws ∧ R O H d v ∧ Rs O H ds ws
def RK (O : List Addr) (H : Hp) : List (D × D) → List (Key × V) → Prop
  | [], ws => ws = []
  | (k, d) :: r, ws => ∃ c v ws', ws = (c, v) :: ws' ∧ k = kD c ∧ R O H d v ∧ RK O H r ws'
def RT (O : List Addr) (H : Hp) : List (D × D) → List (List Key × V) → Prop
  | [], ws => ws = []
  | (k, d) :: r, ws => ∃ c v ws', ws = (c, v) :: ws' ∧ k = .tuple (c.map kD) ∧ R O H d v ∧ RT O H r ws'
/-- the fields of an object -/
def RF (O : List Addr) (H : Hp) : List (D × D) → List (Str × V) → Prop
  | [], ws => ws = []
  | (k, d) :: r, ws => ∃ x v ws', ws = (x, v) :: ws' ∧ k = .str x ∧ R O H d v ∧ RF O H r ws'
/-- an object of the class at C: marked by a key that no dict has -/
def RO' (O : List Addr) (H : Hp) (C : Addr) : List (D × D) → List (Str × V) → Prop
  | [], _ => False
  | (k, d) :: r, ws => k = .list [bigI] ∧ (∃ c, d = .str c ∧ ObC K c C) ∧ RF O H r ws
end
/-- what a slot may own: a list, a dict -/
def LD : HO → Prop
  | .lst _ => True
  | .dK _ => True
  | .dT _ => True
  | .ins _ _ _ => True
  | _ => False
def NoFrz : HO → Prop
  | .frz _ _ => False
  | .tbl _ => False
  | _ => True
/-- no dict: a dict may be locked while it is walked -/
def Fixd : HO → Prop
  | .tbl _ => False
  | .dK _ => False
  | .dT _ => False
  | .frz _ (.dK _) => False
  | .frz _ (.dT _) => False
  | _ => True
def Own (O : List Addr) (H : Hp) : Prop := ∀ a ∈ O, ∃ o, H a = some o ∧ LD o
def Stab (O : List Addr) (H : Hp) (O' : List Addr) (H' : Hp) : Prop :=
  ∀ a, a ∉ O → H a ≠ none → a ∉ O' ∧ (∀ u, NoFrz u → Rd H a u → Rd H' a u) ∧ ∀ u, Fixd u → H a = some u → H' a = some u
theorem Rd.ne {H : Hp} {a : Addr} {u : HO} (h : Rd H a u) : H a ≠ none := by
  rcases h with h | ⟨o, h⟩ <;> rw [h] <;> simp
theorem Own.ntup {O : List Addr} {H : Hp} (ow : Own O H) {a : Addr} {xs : List V} (h : Rd H a (.tup xs)) : a ∉ O := fun ha => by
  obtain ⟨o, ho, l⟩ := ow a ha
  rcases h with h | ⟨q, h⟩ <;> rw [h] at ho <;> cases ho <;> exact l
section
variable {K : PySem.W.Frag} {O O' : List Addr} {H H' : Hp}
mutual
theorem R.stab (ow : Own O H) (st : Stab O H O' H') : ∀ (d : D) (v : V), R K O H d v → R K O' H' d v
  | .none, v, h => by simpa [R] using h
  | .bool b, v, h => by simpa [R] using h
  | .int i, v, h => by simpa [R] using h
  | .str x, v, h => by simpa [R] using h
  | .list ds, v, h => by
    simp only [R] at h ⊢
    obtain ⟨a, vs, e, n, r, h2⟩ := h
    obtain ⟨n', _, k⟩ := st a n (by rw [r]; simp)
    exact ⟨a, vs, e, n', k _ trivial r, Rs.stab ow st ds vs h2⟩
  | .tuple ds, v, h => by
    simp only [R] at h ⊢
    obtain ⟨a, vs, e, h1, h2⟩ := h
    refine ⟨a, vs, e, ?_, Rs.stab ow st ds vs h2⟩
    obtain ⟨n', _, k⟩ := st a (ow.ntup (.inl h1)) (by rw [show H a = _ from h1]; simp)
    exact k _ trivial h1
  | .dict kvs, v, h => by
    simp only [R] at h ⊢
    obtain ⟨a, e, n, h⟩ := h
    rcases h with ⟨ws, r, h⟩ | ⟨ws, r, h⟩ | ⟨C, dx, ws, r, h⟩
    · obtain ⟨n', k, _⟩ := st a n (Rd.ne r)
      exact ⟨a, e, n', .inl ⟨ws, k _ trivial r, RK.stab ow st kvs ws h⟩⟩
    · obtain ⟨n', k, _⟩ := st a n (Rd.ne r)
      exact ⟨a, e, n', .inr (.inl ⟨ws, k _ trivial r, RT.stab ow st kvs ws h⟩)⟩
    · obtain ⟨n', _, k⟩ := st a n (by rw [r]; simp)
      exact ⟨a, e, n', .inr (.inr ⟨C, dx, ws, k _ trivial r, RO'.stab ow st C kvs ws h⟩)⟩
theorem Rs.stab (ow : Own O H) (st : Stab O H O' H') : ∀ (ds : List D) (vs : List V), Rs K O H ds vs → Rs K O' H' ds vs
  | [], vs, h => by simpa [Rs] using h
  | d :: ds, vs, h => by
    simp only [Rs] at h ⊢
    obtain ⟨v, ws, e, h1, h2⟩ := h
    exact ⟨v, ws, e, R.stab ow st d v h1, Rs.stab ow st ds ws h2⟩
theorem RK.stab (ow : Own O H) (st : Stab O H O' H') : ∀ (ds : List (D × D)) (vs : List (Key × V)), RK K O H ds vs → RK K O' H' ds vs
  | [], vs, h => by simpa [RK] using h
  | (k, d) :: ds, vs, h => by
    simp only [RK] at h ⊢
    obtain ⟨c, v, ws, e, h0, h1, h2⟩ := h
    exact ⟨c, v, ws, e, h0, R.stab ow st d v h1, RK.stab ow st ds ws h2⟩
theorem RT.stab (ow : Own O H) (st : Stab O H O' H') : ∀ (ds : List (D × D)) (vs : List (List Key × V)), RT K O H ds vs → RT K O' H' ds vs
  | [], vs, h => by simpa [RT] using h
  | (k, d) :: ds, vs, h => by
    simp only [RT] at h ⊢
    obtain ⟨c, v, ws, e, h0, h1, h2⟩ := h
    exact ⟨c, v, ws, e, h0, R.stab ow st d v h1, RT.stab ow st ds ws h2⟩
theorem RF.stab (ow : Own O H) (st : Stab O H O' H') : ∀ (ds : List (D × D)) (vs : List (Str × V)), RF K O H ds vs → RF K O' H' ds vs
  | [], vs, h => by simpa [RF] using h
  | (k, d) :: ds, vs, h => by
    simp only [RF] at h ⊢
    obtain ⟨c, v, ws, e, h0, h1, h2⟩ := h
    exact ⟨c, v, ws, e, h0, R.stab ow st d v h1, RF.stab ow st ds ws h2⟩
theorem RO'.stab (ow : Own O H) (st : Stab O H O' H') (C : Addr) : ∀ (ds : List (D × D)) (vs : List (Str × V)), RO' K O H C ds vs → RO' K O' H' C ds vs
  | [], vs, h => by simp only [RO'] at h
  | (k, d) :: ds, vs, h => by
    simp only [RO'] at h ⊢
    exact ⟨h.1, h.2.1, RF.stab ow st ds vs h.2.2⟩
end
theorem Stab.weak (h : ∀ a ∈ O', a ∈ O) (hk : ∀ a o, H a = some o → H' a = some o) : Stab O H O' H' := fun a n e =>
  ⟨fun z => n (h a z), fun u _ r => by
    rcases r with r | ⟨o, r⟩
    · exact .inl (hk _ _ r)
    · exact .inr ⟨o, hk _ _ r⟩, fun u _ q => hk _ _ q⟩
/-- the view: whatever is owned -/
theorem R.view (ow : Own O H) {d : D} {v : V} (h : R K O H d v) : R K [] H d v := R.stab ow (Stab.weak (by intro a z; cases z) (fun _ _ e => e)) d v h
end
/-- what a slot, an expression holds: frozen data, or an own list or dict, or the tape -/
inductive SV where
  | fz (d : D) | ol (xs : List D) | od (kvs : List (D × D)) | ot (kvs : List (D × D)) | tape | scr (tb : List Addr) | ob (c : Str) (fs : List (D × D))
/-- an object as data -/
abbrev obD (c : Str) (fs : List (D × D)) : D := .dict ((.list [bigI], .str c) :: fs)
def SV.view : SV → Option D
  | .fz d => some d
  | .ol xs => some (.list xs)
  | .od kvs => some (.dict kvs)
  | .ot kvs => some (.dict kvs)
  | .tape => none
  | .scr _ => none
  | .ob c fs => some (obD c fs)
/-- .. seen by others, too: frozen -/
def SV.frz : SV → SV
  | .fz d => .fz d
  | .ol xs => .fz (.list xs)
  | .od kvs => .fz (.dict kvs)
  | .ot kvs => .fz (.dict kvs)
  | .tape => .tape
  | .scr t => .scr t
  | .ob c fs => .fz (obD c fs)
def SVR (γ : Gh) (O : List Addr) (H : Hp) : SV → V → List Addr → Prop
  | .fz d, v, fp => R K O H d v ∧ fp = []
  | .ol xs, v, fp => ∃ a vs, v = .ref a ∧ H a = some (.lst vs) ∧ Rs K O H xs vs ∧ fp = [a]
  | .od kvs, v, fp => ∃ a ws, v = .ref a ∧ H a = some (.dK ws) ∧ RK K O H kvs ws ∧ fp = [a]
  | .ot kvs, v, fp => ∃ a ws, v = .ref a ∧ H a = some (.dT ws) ∧ RT K O H kvs ws ∧ fp = [a]
  | .tape, v, fp => (∃ a, γ.T = some a ∧ v = .ref a) ∧ fp = []
  | .scr t, v, fp => (v = .ref γ.sc ∧ t = γ.tb ∧ Scr K H γ.sc (γ.ns.map V.int)) ∧ fp = []
  | .ob c kvs, v, fp => ∃ C dx ws, v = .ref γ.sc ∧ H γ.sc = some (.ins C dx ws) ∧ RF K O H kvs ws ∧ fp = [γ.sc] ∧ ObC K c C
def Slots (γ : Gh) (O : List Addr) (H : Hp) : List (Option SV) → St → List Addr → Prop
  | [], σ, fp => σ = [] ∧ fp = []
  | none :: r, σ, fp => ∃ x σ', σ = x :: σ' ∧ Slots γ O H r σ' fp
  | some s :: r, σ, fp => ∃ v σ' f1 f2, σ = some v :: σ' ∧ fp = f1 ++ f2 ∧ SVR K γ O H s v f1 ∧ Slots γ O H r σ' f2
/-- the tape's dict -/
def tapeO (t : Int × Int) : HO := .dK [(.inr (Str.ofString "digits"), .int t.1), (.inr (Str.ofString "mixed"), .int t.2)]
def TapeR (γ : Gh) (H : Hp) : Option (Int × Int) → List Addr → Prop
  | none, fp => fp = []
  | some t, fp => ∃ a, γ.T = some a ∧ H a = some (tapeO t) ∧ fp = [a]
/-- the state of the mirror: the slots, the tape -/
structure S where
  sl : List (Option SV)
  tp : Option (Int × Int)
structure Good (γ : Gh) (Oc : List Addr) (r : S) (σ : St) (H : Hp) (fs : List Addr) : Prop where
  sp : ∃ f1 f2, fs = f1 ++ f2 ∧ Slots K γ (fs ++ Oc) H r.sl σ f1 ∧ TapeR γ H r.tp f2
  nd : (fs ++ Oc).Nodup
  ow : Own (fs ++ Oc) H
  tt : (γ.T ≠ none → r.tp ≠ none) ∧ TabsL γ.tb H
/-- the view: the top may be one's own, what stands in it is frozen -/
def RE (γ : Gh) (O : List Addr) (H : Hp) (d : D) (v : V) : Prop := match d with
  | .list ds => ∃ a vs, v = .ref a ∧ γ.T ≠ some a ∧ H a = some (.lst vs) ∧ Rs K O H ds vs
  | .dict kvs => ∃ a, v = .ref a ∧ γ.T ≠ some a ∧ ((∃ ws, Rd H a (.dK ws) ∧ RK K O H kvs ws) ∨ (∃ ws, Rd H a (.dT ws) ∧ RT K O H kvs ws) ∨ (∃ C dx ws, H a = some (.ins C dx ws) ∧ RO' K O H C kvs ws))
  | d => R K O H d v
section
variable {K : PySem.W.Frag} {γ : Gh} {O O' : List Addr} {H H' : Hp}
theorem SVR.stab (ow : Own O H) (st : Stab O H O' H') {x : SV} {v : V} {fp : List Addr} (hfp : ∀ a ∈ fp, H' a = H a) (h : SVR K γ O H x v fp) : SVR K γ O' H' x v fp := by
  cases x with
  | fz d => exact ⟨R.stab ow st _ _ h.1, h.2⟩
  | ol xs => obtain ⟨a, vs, e, h1, h2, h3⟩ := h; exact ⟨a, vs, e, (hfp a (by rw [h3]; simp)).trans h1, Rs.stab ow st _ _ h2, h3⟩
  | od xs => obtain ⟨a, vs, e, h1, h2, h3⟩ := h; exact ⟨a, vs, e, (hfp a (by rw [h3]; simp)).trans h1, RK.stab ow st _ _ h2, h3⟩
  | ot xs => obtain ⟨a, vs, e, h1, h2, h3⟩ := h; exact ⟨a, vs, e, (hfp a (by rw [h3]; simp)).trans h1, RT.stab ow st _ _ h2, h3⟩
  | ob c xs => obtain ⟨C, dx, vs, e, h1, h2, h3, h4⟩ := h; exact ⟨C, dx, vs, e, (hfp γ.sc (by rw [h3]; simp)).trans h1, RF.stab ow st _ _ h2, h3, h4⟩
  | tape => exact h
  | scr =>
    obtain ⟨⟨e, et, q⟩, z⟩ := h
    refine ⟨⟨e, et, ?_⟩, z⟩
    rcases q with ⟨u, q⟩ | q
    · have n : γ.sc ∉ O := fun hm => by
        obtain ⟨o, ho, l⟩ := ow _ hm
        rw [q] at ho; cases ho; exact l
      exact .inl ⟨u, (st _ n (by rw [q]; simp)).2.2 _ trivial q⟩
    · exact .inr q
theorem Slots.stab (ow : Own O H) (st : Stab O H O' H') : ∀ {sl : List (Option SV)} {σ : St} {fp : List Addr}, (∀ a ∈ fp, H' a = H a) → Slots K γ O H sl σ fp → Slots K γ O' H' sl σ fp
  | [], σ, fp, _, h => h
  | none :: r, σ, fp, hf, h => by
    obtain ⟨x, σ', e, h⟩ := h
    exact ⟨x, σ', e, Slots.stab ow st hf h⟩
  | some s :: r, σ, fp, hf, h => by
    obtain ⟨v, σ', f1, f2, e, e2, h1, h2⟩ := h
    subst e2
    exact ⟨v, σ', f1, f2, e, rfl, h1.stab ow st fun a ha => hf a (List.mem_append_left _ ha), Slots.stab ow st (fun a ha => hf a (List.mem_append_right _ ha)) h2⟩
theorem Slots.len : ∀ {sl : List (Option SV)} {σ : St} {fp : List Addr}, Slots K γ O H sl σ fp → σ.length = sl.length
  | [], σ, fp, h => by rw [h.1]; rfl
  | none :: r, σ, fp, h => by
    obtain ⟨x, σ', e, h⟩ := h
    rw [e, List.length_cons, List.length_cons, h.len]
  | some s :: r, σ, fp, h => by
    obtain ⟨v, σ', f1, f2, e, e2, h1, h2⟩ := h
    rw [e, List.length_cons, List.length_cons, h2.len]
/-- the value's footprint lies in the slots' -/
theorem Slots.at : ∀ {sl : List (Option SV)} {σ : St} {fp : List Addr} {i : Nat} {x : SV}, Slots K γ O H sl σ fp → sl[i]? = some (some x) →
    ∃ v f1 f2 f3, σ[i]? = some (some v) ∧ fp = f1 ++ (f2 ++ f3) ∧ SVR K γ O H x v f2
  | [], σ, fp, i, x, h, e => by simp at e
  | none :: r, σ, fp, 0, x, h, e => by simp at e
  | none :: r, σ, fp, i + 1, x, h, e => by
    obtain ⟨y, σ', e1, h⟩ := h
    obtain ⟨v, f1, f2, f3, a, b, c⟩ := h.at (i := i) (by simpa using e)
    exact ⟨v, f1, f2, f3, by rw [e1]; simpa using a, b, c⟩
  | some s :: r, σ, fp, 0, x, h, e => by
    obtain ⟨v, σ', f1, f2, e1, e2, h1, h2⟩ := h
    simp at e; subst e
    exact ⟨v, [], f1, f2, by rw [e1]; rfl, by rw [e2]; rfl, h1⟩
  | some s :: r, σ, fp, i + 1, x, h, e => by
    obtain ⟨v, σ', f1, f2, e1, e2, h1, h2⟩ := h
    obtain ⟨v', g1, g2, g3, a, b, c⟩ := h2.at (i := i) (by simpa using e)
    exact ⟨v', f1 ++ g1, g2, g3, by rw [e1]; simpa using a, by rw [e2, b, List.append_assoc], c⟩
/-- a slot's value is exchanged, or let go -/
theorem Slots.upd : ∀ {sl : List (Option SV)} {σ : St} {fp : List Addr} {i : Nat}, Slots K γ O H sl σ fp → i < sl.length →
    ∃ f1 f2 f3, fp = f1 ++ (f2 ++ f3) ∧ (∀ y, sl[i]? = some (some y) → ∃ u, σ[i]? = some (some u) ∧ SVR K γ O H y u f2) ∧
      (∀ {O' : List Addr} {H' : Hp} {x : SV} {v : V} {f : List Addr}, Own O H → Stab O H O' H' → (∀ a ∈ f1 ++ f3, H' a = H a) → SVR K γ O' H' x v f → Slots K γ O' H' (sl.set i (some x)) (σ.set i (some v)) (f1 ++ (f ++ f3))) ∧
      (∀ {O' : List Addr} {H' : Hp}, Own O H → Stab O H O' H' → (∀ a ∈ f1 ++ f3, H' a = H a) → Slots K γ O' H' (sl.set i none) σ (f1 ++ f3))
  | [], σ, fp, i, h, l => by simp at l
  | none :: r, σ, fp, 0, h, l => by
    obtain ⟨y, σ', e1, h⟩ := h
    exact ⟨[], [], fp, rfl, fun y e => by simp at e, fun {O' H' x v f} ow st k hx => ⟨v, σ', f, fp, by rw [e1]; rfl, rfl, hx, h.stab ow st (by simpa using k)⟩, fun ow st k => ⟨y, σ', e1, h.stab ow st (by simpa using k)⟩⟩
  | none :: r, σ, fp, i + 1, h, l => by
    obtain ⟨y, σ', e1, h⟩ := h
    obtain ⟨g1, g2, g3, a, b, c, d⟩ := h.upd (i := i) (by simpa using l)
    exact ⟨g1, g2, g3, a, by rw [e1]; simpa using b, fun {O' H' x v f} ow st k hx => ⟨y, σ'.set i (some v), by rw [e1]; rfl, c ow st k hx⟩, fun ow st k => ⟨y, σ', e1, d ow st k⟩⟩
  | some s :: r, σ, fp, 0, h, l => by
    obtain ⟨u, σ', f1, f2, e1, e2, h1, h2⟩ := h
    exact ⟨[], f1, f2, e2, fun y z => by simp at z; subst z; exact ⟨u, by rw [e1]; rfl, h1⟩, fun {O' H' x v f} ow st k hx => ⟨v, σ', f, f2, by rw [e1]; rfl, rfl, hx, h2.stab ow st (by simpa using k)⟩,
      fun ow st k => ⟨some u, σ', e1, h2.stab ow st (by simpa using k)⟩⟩
  | some s :: r, σ, fp, i + 1, h, l => by
    obtain ⟨u, σ', f1, f2, e1, e2, h1, h2⟩ := h
    obtain ⟨g1, g2, g3, a, b, c, d⟩ := h2.upd (i := i) (by simpa using l)
    refine ⟨f1 ++ g1, g2, g3, by rw [e2, a, List.append_assoc], by rw [e1]; simpa using b, fun {O' H' x v f} ow st k hx => ?_, fun {O' H'} ow st k => ?_⟩
    · exact ⟨u, σ'.set i (some v), f1, g1 ++ (f ++ g3), by rw [e1]; rfl, by rw [List.append_assoc], h1.stab ow st fun a ha => k a (by simp [ha]), c ow st (fun a ha => k a (by simp only [List.mem_append] at ha ⊢; rcases ha with ha | ha <;> simp [ha])) hx⟩
    · exact ⟨u, σ', f1, g1 ++ g3, e1, by rw [List.append_assoc], h1.stab ow st fun a ha => k a (by simp [ha]), d ow st (fun a ha => k a (by simp only [List.mem_append] at ha ⊢; rcases ha with ha | ha <;> simp [ha]))⟩
end
end QL
namespace QL
open PySem PySem.Spec L2
inductive Res (α : Type) where
  | ok (a : α) (s : S)
  | exc (c : Str) (f : List (Str × D)) (s : S)
  | bad
def Res.bind {α β : Type} (r : Res α) (k : α → S → Res β) : Res β :=
  match r with
  | .ok a s => k a s
  | .exc c f s => .exc c f s
  | .bad => .bad
def isTbl : HO → Bool
  | .tbl _ => true
  | _ => false
theorem Fixd.nt {u : HO} (h : Fixd u) : isTbl u = false := by cases u <;> first | rfl | exact h.elim
theorem NoFrz.nt {u : HO} (h : NoFrz u) : isTbl u = false := by cases u <;> first | rfl | exact h.elim
theorem LD.nt {u : HO} (h : LD u) : isTbl u = false := by cases u <;> first | rfl | exact h.elim
/-- known: some object, or a table of code -/
def NN (H : Hp) (x : Addr × Bool) : Prop := match x.2 with
  | false => H x.1 ≠ none
  | true => ∃ ps, H x.1 = some (.tbl ps)
theorem NN.kept {H H' : Hp} (k : ∀ a o, H a = some o → H' a = some o) {x : Addr × Bool} (h : NN H x) : NN H' x := by
  obtain ⟨a, b⟩ := x
  cases b with
  | false =>
    show H' a ≠ none
    have h : H a ≠ none := h
    cases e : H a with
    | none => exact absurd e h
    | some o => rw [k a o e]; simp
  | true =>
    obtain ⟨ps, e⟩ := h
    exact ⟨ps, k _ _ e⟩
theorem NN.of {H : Hp} {a : Addr} {o : HO} (h : H a = some o) : NN H (a, false) := show H a ≠ none by rw [h]; simp
theorem nn_upd {H : Hp} {p : Addr} {o o' : HO} (h : H p = some o) (ht : isTbl o = false) {x : Addr × Bool} (n : NN H x) : NN (upd H p o') x := by
  obtain ⟨a, b⟩ := x
  by_cases e : a = p
  · subst e
    cases b with
    | false => exact NN.of upd_same
    | true =>
      obtain ⟨ps, q⟩ := n
      have q : H a = some (.tbl ps) := q
      rw [h] at q
      cases q
      cases ht
  · cases b with
    | false => show upd H p o' a ≠ none; rw [upd_ne e]; exact n
    | true =>
      obtain ⟨ps, q⟩ := n
      exact ⟨ps, by show upd H p o' a = _; rw [upd_ne e]; exact q⟩
/-- all but tables of code is as before -/
structure SameT (H H' : Hp) : Prop where
  kp : ∀ a o, H a = some o → (ht : isTbl o = false := by rfl) → H' a = some o
  th : ∀ x, NN H x → NN H' x
  tb : ∀ P, TabL H P → TabL H' P
theorem SameT.of {H H' : Hp} (k : ∀ a o, H a = some o → H' a = some o) : SameT H H' := ⟨fun a o e _ => k a o e, fun x h => NN.kept k h, fun P h => h.ext k⟩
theorem SameT.refl (H : Hp) : SameT H H := .of fun _ _ e => e
theorem SameT.trans {H H1 H2 : Hp} (a : SameT H H1) (b : SameT H1 H2) : SameT H H2 := ⟨fun x o e ht => b.kp x o (a.kp x o e ht) ht, fun x h => b.th x (a.th x h), fun P h => b.tb P (a.tb P h)⟩
theorem tabs_upd {H : Hp} {p : Addr} {o o' : HO} (h : H p = some o) (ld : LD o) {P : Addr} (t : TabL H P) : TabL (upd H p o') P := by
  obtain ⟨ps, h1, h2, h3⟩ := t
  have n1 : P ≠ p := fun z => by
    rw [z, h] at h1
    cases h1
    exact ld
  refine ⟨ps, by rw [upd_ne n1]; exact h1, h2, fun pos cv hc => ?_⟩
  obtain ⟨c, e1, e2⟩ := h3 pos cv hc
  have n2 : c ≠ p := fun z => by
    rw [z, h] at e2
    cases e2
    exact ld
  exact ⟨c, e1, by rw [upd_ne n2]; exact e2⟩
instance {H H' : Hp} : Coe (∀ a o, H a = some o → H' a = some o) (SameT H H') := ⟨SameT.of⟩
/-- behind an expression: the slots own no more, all but the tape and tables of code is kept -/
structure Stp (T : Option Addr) (fs : List Addr) (H : Hp) (fs' : List Addr) (H' : Hp) : Prop where
  sub : ∀ a ∈ fs', a ∈ fs
  keep : ∀ a o, H a = some o → (T = some a → a ∉ fs) → (ht : isTbl o = false := by rfl) → H' a = some o
  there : ∀ x, NN H x → NN H' x
  tb : ∀ P, TabL H P → TabL H' P
/-- behind a statement -/
structure Evo (fs : List Addr) (H : Hp) (fs' : List Addr) (H' : Hp) : Prop where
  sub : ∀ a ∈ fs', a ∈ fs ∨ H a = none
  keep : ∀ a o, H a = some o → a ∉ fs → (ht : isTbl o = false := by rfl) → H' a = some o
  there : ∀ x, NN H x → NN H' x
  tb : ∀ P, TabL H P → TabL H' P
section
variable {T : Option Addr} {f0 f1 f2 f3 : List Addr} {H0 H1 H2 H3 : Hp}
theorem Stp.refl (T : Option Addr) (fs : List Addr) (H : Hp) : Stp T fs H fs H := ⟨fun _ h => h, fun _ _ h _ _ => h, fun _ h => h, fun _ h => h⟩
theorem Stp.trans (a : Stp T f0 H0 f1 H1) (b : Stp T f1 H1 f2 H2) : Stp T f0 H0 f2 H2 :=
  ⟨fun x h => a.sub x (b.sub x h), fun x o e n ht => b.keep x o (a.keep x o e n ht) (fun t z => n t (a.sub x z)) ht, fun x h => b.there x (a.there x h), fun P h => b.tb P (a.tb P h)⟩
theorem Stp.evo (a : Stp T f0 H0 f1 H1) : Evo f0 H0 f1 H1 := ⟨fun x h => .inl (a.sub x h), fun x o e n ht => a.keep x o e (fun _ => n) ht, a.there, a.tb⟩
theorem Evo.refl (fs : List Addr) (H : Hp) : Evo fs H fs H := ⟨fun _ h => .inl h, fun _ _ h _ _ => h, fun _ h => h, fun _ h => h⟩
theorem Evo.trans (a : Evo f0 H0 f1 H1) (b : Evo f1 H1 f2 H2) : Evo f0 H0 f2 H2 := by
  refine ⟨fun x h => ?_, fun x o e n ht => b.keep x o (a.keep x o e n ht) (fun z => ?_) ht, fun x h => b.there x (a.there x h), fun P h => b.tb P (a.tb P h)⟩
  · rcases b.sub x h with h | h
    · exact a.sub x h
    · cases e : H0 x with
      | none => exact .inr rfl
      | some o => exact absurd h (a.there (x, false) (NN.of e))
  · rcases a.sub x z with h | h
    · exact n h
    · rw [h] at e; cases e
end
variable (K : PySem.W.Frag) (mg : Str → Option Value)
/-- the fields of an exception, its own dict at d -/
def XR (O : List Addr) (H : Hp) (f : List (Str × D)) (d : Option Addr) : Prop :=
  f = [] ∨ ∃ dd ws, d = some dd ∧ H dd = some (.xd ws) ∧ ws.map (·.1) = f.map (·.1) ∧ Rs K O H (f.map (·.2)) (ws.map (·.2))
/-- an exception of the class c -/
structure XP (γ : Gh) (Oc : List Addr) (r' : S) (σ : St) (H : Hp) (fs : List Addr) (H' : Hp) (c : Str) (f : List (Str × D)) (C : Addr) (d : Option Addr) : Prop where
  ex : ∃ fs', Good K γ Oc r' σ H' fs' ∧ Stp γ.T fs H fs' H' ∧ mg c = some (.ref C) ∧ XR K (fs' ++ Oc) H' f d
abbrev Pst (α β : Type) := Gh → List Addr → S → St → Hp → List Addr → Hp → α → β → Prop
/-- posts: a value; a view; arguments; a test; nothing -/
def PV : Pst SV V := fun γ Oc r' σ H fs H' x v => ∃ fs' fp, Good K γ (fp ++ Oc) r' σ H' fs' ∧ SVR K γ (fs' ++ (fp ++ Oc)) H' x v fp ∧ Stp γ.T fs H fs' H' ∧ ∀ a ∈ fp, H a = none
def PB : Pst D V := fun γ Oc r' σ H fs H' d v => ∃ fs', Good K γ Oc r' σ H' fs' ∧ RE K γ (fs' ++ Oc) H' d v ∧ Stp γ.T fs H fs' H'
def PF : Pst D V := fun γ Oc r' σ H fs H' d v => ∃ fs', Good K γ Oc r' σ H' fs' ∧ R K (fs' ++ Oc) H' d v ∧ Stp γ.T fs H fs' H'
def PL : Pst (List D) (List V) := fun γ Oc r' σ H fs H' ds vs => ∃ fs', Good K γ Oc r' σ H' fs' ∧ Rs K (fs' ++ Oc) H' ds vs ∧ Stp γ.T fs H fs' H'
def PTt : Pst Bool Bool := fun γ Oc r' σ H fs H' b c => ∃ fs', Good K γ Oc r' σ H' fs' ∧ c = b ∧ Stp γ.T fs H fs' H'
def SimAt {α β : Type} (W : WX) (P : Pst α β) (γ : Gh) (Oc : List Addr) (σ : St) (H : Hp) (fs : List Addr) (t : (β → Hp → Prop) → Prop) (r : Res α) : Prop :=
  ∀ Q, match r with
    | .ok x r' => (∀ y H', P γ Oc r' σ H fs H' x y → Q y H') → t Q
    | .exc c f r' => (∀ C d H', XP K mg γ Oc r' σ H fs H' c f C d → W (.ref C) d σ H') → t Q
    | .bad => True
def Sim {α β : Type} (W : WX) (P : Pst α β) (t : St → Hp → (β → Hp → Prop) → Prop) (F : S → Res α) : Prop :=
  ∀ γ Oc r σ H fs, Good K γ Oc r σ H fs → SimAt K mg W P γ Oc σ H fs (t σ H) (F r)
section
variable {K : PySem.W.Frag} {mg : Str → Option Value} {W : WX} {γ : Gh} {Oc : List Addr} {r r1 r2 : S} {σ : St} {H H1 H2 : Hp} {fs fs1 : List Addr}
theorem SimAt.bind {α β α2 δ : Type} {P1 : Pst α β} {P2 : Pst α2 δ} {t1 : (β → Hp → Prop) → Prop} {t2 : β → Hp → (δ → Hp → Prop) → Prop} {x : Res α} {F2 : α → S → Res α2}
    (h1 : SimAt K mg W P1 γ Oc σ H fs t1 x) (h2 : ∀ a r1 y H1, P1 γ Oc r1 σ H fs H1 a y → SimAt K mg W P2 γ Oc σ H fs (t2 y H1) (F2 a r1)) :
    SimAt K mg W P2 γ Oc σ H fs (fun Q => t1 fun y H1 => t2 y H1 Q) (x.bind F2) := by
  intro Q
  cases x with
  | bad => trivial
  | exc c f r' => exact h1 _
  | ok a r1 =>
    have eb : (Res.ok a r1).bind F2 = F2 a r1 := rfl
    rw [eb]
    have k := fun y H1 p => h2 a r1 y H1 p Q
    generalize F2 a r1 = z at k ⊢
    cases z with
    | bad => trivial
    | exc c f r' => exact fun hw => h1 _ fun y H1 p => k y H1 p hw
    | ok b r2 => exact fun hq => h1 _ fun y H1 p => k y H1 p hq
/-- the end of a chain: a value made at once -/
theorem SimAt.ret {α β : Type} {P : Pst α β} {a : α} {t : (β → Hp → Prop) → Prop} (h : ∀ Q, (∀ y H', P γ Oc r σ H fs H' a y → Q y H') → t Q) : SimAt K mg W P γ Oc σ H fs t (.ok a r) := h
/-- what is shown from a later state -/
class PstT {α β : Type} (P : Pst α β) : Prop where
  tr : ∀ {γ Oc r' σ H fs fs1 H1 H' x y}, Stp γ.T fs H fs1 H1 → P γ Oc r' σ H1 fs1 H' x y → P γ Oc r' σ H fs H' x y
theorem Stp.none (s : Stp γ.T fs H fs1 H1) {a : Addr} (h : H1 a = none) : H a = none := by
  cases e : H a with
  | none => rfl
  | some o => exact absurd h (s.there (a, false) (NN.of e))
instance : PstT (PV K) := ⟨fun s ⟨f, p, a, b, c, d⟩ => ⟨f, p, a, b, s.trans c, fun x hx => s.none (d x hx)⟩⟩
instance : PstT (PB K) := ⟨fun s ⟨f, a, b, c⟩ => ⟨f, a, b, s.trans c⟩⟩
instance : PstT (PF K) := ⟨fun s ⟨f, a, b, c⟩ => ⟨f, a, b, s.trans c⟩⟩
instance : PstT (PL K) := ⟨fun s ⟨f, a, b, c⟩ => ⟨f, a, b, s.trans c⟩⟩
instance : PstT (PTt K) := ⟨fun s ⟨f, a, b, c⟩ => ⟨f, a, b, s.trans c⟩⟩
theorem XP.tr {r' : S} {H' : Hp} {c : Str} {f : List (Str × D)} {C : Addr} {d : Option Addr} (s : Stp γ.T fs H fs1 H1) (h : XP K mg γ Oc r' σ H1 fs1 H' c f C d) : XP K mg γ Oc r' σ H fs H' c f C d := by
  obtain ⟨f', a, b, m, x⟩ := h
  exact ⟨f', a, s.trans b, m, x⟩
theorem SimAt.tr {α β : Type} {P : Pst α β} [PstT P] {t : (β → Hp → Prop) → Prop} {x : Res α} (s : Stp γ.T fs H fs1 H1) (h : SimAt K mg W P γ Oc σ H1 fs1 t x) : SimAt K mg W P γ Oc σ H fs t x := by
  intro Q
  have z := h Q
  cases x with
  | bad => trivial
  | exc c f r' => exact fun hw => z fun C d H' p => hw C d H' (p.tr s)
  | ok a r1 => exact fun hq => z fun y H' p => hq y H' (PstT.tr s p)
theorem SimAt.imp {α β : Type} {P : Pst α β} {t t' : (β → Hp → Prop) → Prop} {x : Res α} (h : SimAt K mg W P γ Oc σ H fs t x) (hi : ∀ Q, t Q → t' Q) : SimAt K mg W P γ Oc σ H fs t' x := by
  intro Q
  have z := h Q
  cases x with
  | bad => trivial
  | exc c f r' => exact fun hw => hi _ (z hw)
  | ok a r1 => exact fun hq => hi _ (z hq)
/-- a post is weakened -/
theorem SimAt.post {α β : Type} {P P' : Pst α β} {t : (β → Hp → Prop) → Prop} {x : Res α} (h : SimAt K mg W P γ Oc σ H fs t x) (hp : ∀ r' H' a y, P γ Oc r' σ H fs H' a y → P' γ Oc r' σ H fs H' a y) : SimAt K mg W P' γ Oc σ H fs t x := by
  intro Q
  have z := h Q
  cases x with
  | bad => trivial
  | exc c f r' => exact z
  | ok a r1 => exact fun hq => z fun y H' p => hq y H' (hp _ _ _ _ p)
theorem Good.stabSub {fs' : List Addr} (g : Good K γ Oc r σ H fs) (s : Stp γ.T fs H fs' H1) : Stab (fs ++ Oc) H (fs' ++ Oc) H1 := fun a n e => by
  have nf : a ∉ fs := fun z => n (List.mem_append_left _ z)
  refine ⟨fun z => ?_, fun u hu q => ?_, fun u hu q => s.keep a _ q (fun _ => nf) hu.nt⟩
  · rcases List.mem_append.mp z with z | z
    · exact nf (s.sub a z)
    · exact n (List.mem_append_right _ z)
  · rcases q with q | ⟨o, q⟩
    · exact .inl (s.keep a _ q (fun _ => nf) hu.nt)
    · exact .inr ⟨o, s.keep a _ q fun _ => nf⟩
theorem Evo.stab {fs' : List Addr} (s : Evo fs H fs' H1) : Stab (fs ++ Oc) H (fs' ++ Oc) H1 := fun a n e => by
  have nf : a ∉ fs := fun z => n (List.mem_append_left _ z)
  refine ⟨fun z => ?_, fun u hu q => ?_, fun u hu q => s.keep a _ q nf hu.nt⟩
  · rcases List.mem_append.mp z with z | z
    · rcases s.sub a z with z | z
      · exact nf z
      · exact e z
    · exact n (List.mem_append_right _ z)
  · rcases q with q | ⟨o, q⟩
    · exact .inl (s.keep a _ q nf hu.nt)
    · exact .inr ⟨o, s.keep a _ q nf⟩
/-- the tape is one's own -/
theorem Good.tape (g : Good K γ Oc r σ H fs) {a : Addr} (h : γ.T = some a) : a ∈ fs ∧ ∃ t, r.tp = some t ∧ H a = some (tapeO t) := by
  obtain ⟨⟨f1, f2, e, sl, tp⟩, nd, ow, tt⟩ := g
  cases q : r.tp with
  | none => exact absurd q (tt.1 (by rw [h]; simp))
  | some t =>
    rw [q] at tp
    obtain ⟨b, e1, e2, e3⟩ := tp
    rw [h] at e1; cases e1
    exact ⟨by rw [e, e3]; simp, t, rfl, e2⟩
theorem R.toE (g : Good K γ Oc r σ H fs) {d : D} {v : V} (h : R K (fs ++ Oc) H d v) : RE K γ (fs ++ Oc) H d v := by
  have nt : ∀ a, a ∉ fs ++ Oc → γ.T ≠ some a := fun a n e => n (List.mem_append_left _ (g.tape e).1)
  cases d with
  | list ds =>
    simp only [R] at h
    obtain ⟨a, vs, e, n, q, h2⟩ := h
    exact ⟨a, vs, e, nt a n, q, h2⟩
  | dict kvs =>
    simp only [R] at h
    obtain ⟨a, e, n, h⟩ := h
    exact ⟨a, e, nt a n, h⟩
  | none => exact h
  | bool _ => exact h
  | int _ => exact h
  | str _ => exact h
  | tuple _ => exact h
theorem RE.keep {fs' : List Addr} (g : Good K γ Oc r σ H fs) (s : Stp γ.T fs H fs' H1) {d : D} {v : V} (h : RE K γ (fs ++ Oc) H d v) : RE K γ (fs' ++ Oc) H1 d v := by
  have st := g.stabSub s
  have kp : ∀ {a u}, γ.T ≠ some a → Rd H a u → (ht : isTbl u = false := by rfl) → Rd H1 a u := fun {a u} n q ht => by
    rcases q with q | ⟨o, q⟩
    · exact .inl (s.keep a _ q (fun z => absurd z n) ht)
    · exact .inr ⟨o, s.keep a _ q fun z => absurd z n⟩
  cases d with
  | list ds =>
    obtain ⟨a, vs, e, n, q, h2⟩ := h
    exact ⟨a, vs, e, n, s.keep a _ q fun z => absurd z n, Rs.stab g.ow st _ _ h2⟩
  | dict kvs =>
    obtain ⟨a, e, n, h⟩ := h
    refine ⟨a, e, n, ?_⟩
    rcases h with ⟨ws, q, h⟩ | ⟨ws, q, h⟩ | ⟨C, dx, ws, q, h⟩
    · exact .inl ⟨ws, kp n q, RK.stab g.ow st _ _ h⟩
    · exact .inr (.inl ⟨ws, kp n q, RT.stab g.ow st _ _ h⟩)
    · exact .inr (.inr ⟨C, dx, ws, s.keep a _ q fun z => absurd z n, RO'.stab g.ow st C _ _ h⟩)
  | none => exact R.stab g.ow st _ _ h
  | bool _ => exact R.stab g.ow st _ _ h
  | int _ => exact R.stab g.ow st _ _ h
  | str _ => exact R.stab g.ow st _ _ h
  | tuple _ => exact R.stab g.ow st _ _ h
/-- to be read whole -/
theorem RE.all {O : List Addr} (ow : Own O H) {d : D} {v : V} (h : RE K γ O H d v) : R K [] H d v := by
  have st : Stab O H [] H := Stab.weak (by intro a z; cases z) (fun _ _ e => e)
  cases d with
  | list ds =>
    obtain ⟨a, vs, e, n, q, h2⟩ := h
    simp only [R]
    exact ⟨a, vs, e, by simp, q, Rs.stab ow st _ _ h2⟩
  | dict kvs =>
    obtain ⟨a, e, n, h⟩ := h
    simp only [R]
    refine ⟨a, e, by simp, ?_⟩
    rcases h with ⟨ws, q, h⟩ | ⟨ws, q, h⟩ | ⟨C, dx, ws, q, h⟩
    · exact .inl ⟨ws, q, RK.stab ow st _ _ h⟩
    · exact .inr (.inl ⟨ws, q, RT.stab ow st _ _ h⟩)
    · exact .inr (.inr ⟨C, dx, ws, q, RO'.stab ow st C _ _ h⟩)
  | none => exact R.stab ow st _ _ h
  | bool _ => exact R.stab ow st _ _ h
  | int _ => exact R.stab ow st _ _ h
  | str _ => exact R.stab ow st _ _ h
  | tuple _ => exact R.stab ow st _ _ h
theorem Good.slotE (g : Good K γ Oc r σ H fs) {i : Nat} {x : SV} {d : D} (h : r.sl[i]? = some (some x)) (hd : x.view = some d) : ∃ v, σ[i]? = some (some v) ∧ RE K γ (fs ++ Oc) H d v := by
  obtain ⟨⟨f1, f2, e, sl, tp⟩, nd, ow, tt⟩ := id g
  obtain ⟨v, a1, a2, a3, e1, e2, e3⟩ := sl.at h
  refine ⟨v, e1, ?_⟩
  have own : ∀ a, a2 = [a] → γ.T ≠ some a := fun a ea hT => by
    obtain ⟨hm, t, q1, q2⟩ := g.tape hT
    rw [q1] at tp
    obtain ⟨b, b1, b2, b3⟩ := tp
    rw [hT] at b1; cases b1
    have n1 := (List.nodup_append.mp nd).1
    rw [e] at n1
    have n2 := (List.nodup_append.mp n1).2.2
    exact n2 a (by rw [e2, ea]; simp) a (by rw [b3]; simp) rfl
  cases x with
  | fz d' =>
    simp only [SV.view, Option.some.injEq] at hd
    subst hd
    exact R.toE g e3.1
  | ol xs =>
    simp only [SV.view, Option.some.injEq] at hd
    subst hd
    obtain ⟨a, vs, q1, q2, q3, q4⟩ := e3
    exact ⟨a, vs, q1, own a q4, q2, q3⟩
  | od xs =>
    simp only [SV.view, Option.some.injEq] at hd
    subst hd
    obtain ⟨a, vs, q1, q2, q3, q4⟩ := e3
    exact ⟨a, q1, own a q4, .inl ⟨vs, .inl q2, q3⟩⟩
  | ot xs =>
    simp only [SV.view, Option.some.injEq] at hd
    subst hd
    obtain ⟨a, vs, q1, q2, q3, q4⟩ := e3
    exact ⟨a, q1, own a q4, .inr (.inl ⟨vs, .inl q2, q3⟩)⟩
  | tape => simp [SV.view] at hd
  | scr => simp [SV.view] at hd
  | ob c xs =>
    simp only [SV.view, Option.some.injEq] at hd
    subst hd
    obtain ⟨C, dx, vs, q1, q2, q3, q4, q5⟩ := e3
    exact ⟨_, q1, own _ q4, .inr (.inr ⟨C, dx, vs, q2, by simp only [RO']; exact ⟨trivial, ⟨c, rfl, q5⟩, q3⟩⟩)⟩
theorem Own.mono {O O' : List Addr} (h : Own O H) (s : ∀ a ∈ O', a ∈ O) : Own O' H := fun a z => h a (s a z)
/-- a temporary is let go -/
theorem Good.drop {fp : List Addr} (g : Good K γ (fp ++ Oc) r σ H fs) : Good K γ Oc r σ H fs := by
  obtain ⟨⟨f1, f2, e, sl, tp⟩, nd, ow, tt⟩ := g
  have sub : ∀ a ∈ fs ++ Oc, a ∈ fs ++ (fp ++ Oc) := fun a z => by
    rcases List.mem_append.mp z with z | z
    · exact List.mem_append_left _ z
    · exact List.mem_append_right _ (List.mem_append_right _ z)
  refine ⟨⟨f1, f2, e, sl.stab ow (Stab.weak sub fun _ _ z => z) (fun _ _ => rfl), tp⟩, ?_, ow.mono sub, tt⟩
  exact nd.sublist (List.Sublist.append (List.Sublist.refl _) (List.sublist_append_right _ _))
/-- a value, frozen -/
theorem SVR.frz {fp : List Addr} {x : SV} {v : V} (nd : (fs ++ (fp ++ Oc)).Nodup) (ow : Own (fs ++ (fp ++ Oc)) H) (h : SVR K γ (fs ++ (fp ++ Oc)) H x v fp) :
    match x.view with | some d => R K (fs ++ Oc) H d v | none => True := by
  have sub : ∀ a ∈ fs ++ Oc, a ∈ fs ++ (fp ++ Oc) := fun a z => by
    rcases List.mem_append.mp z with z | z
    · exact List.mem_append_left _ z
    · exact List.mem_append_right _ (List.mem_append_right _ z)
  have st : Stab (fs ++ (fp ++ Oc)) H (fs ++ Oc) H := Stab.weak sub fun _ _ z => z
  have out : ∀ a, fp = [a] → a ∉ fs ++ Oc := fun a e z => by
    subst e
    obtain ⟨n1, n2, n3⟩ := List.nodup_append.mp nd
    obtain ⟨m1, m2, m3⟩ := List.nodup_append.mp n2
    rcases List.mem_append.mp z with z | z
    · exact n3 a z a (by simp) rfl
    · exact m3 a (by simp) a z rfl
  cases x with
  | fz d => exact R.stab ow st _ _ h.1
  | ol xs =>
    obtain ⟨a, vs, e, h1, h2, h3⟩ := h
    show R K (fs ++ Oc) H (.list xs) v
    simp only [R]
    exact ⟨a, vs, e, out a h3, h1, Rs.stab ow st _ _ h2⟩
  | od xs =>
    obtain ⟨a, vs, e, h1, h2, h3⟩ := h
    show R K (fs ++ Oc) H (.dict xs) v
    simp only [R]
    exact ⟨a, e, out a h3, .inl ⟨vs, .inl h1, RK.stab ow st _ _ h2⟩⟩
  | ot xs =>
    obtain ⟨a, vs, e, h1, h2, h3⟩ := h
    show R K (fs ++ Oc) H (.dict xs) v
    simp only [R]
    exact ⟨a, e, out a h3, .inr (.inl ⟨vs, .inl h1, RT.stab ow st _ _ h2⟩)⟩
  | tape => trivial
  | scr => trivial
  | ob c xs =>
    obtain ⟨C, dx, vs, e, h1, h2, h3, h4⟩ := h
    show R K (fs ++ Oc) H (obD c xs) v
    simp only [R]
    exact ⟨_, e, out _ h3, .inr (.inr ⟨C, dx, vs, h1, by simp only [RO']; exact ⟨trivial, ⟨c, rfl, h4⟩, RF.stab ow st _ _ h2⟩⟩)⟩
/-- a value's data -/
def asD {α : Type} (x : SV) (r : S) (k : D → S → Res α) : Res α := match x.view with
  | some d => k d r
  | none => .bad
/-- F, frozen; F, seen -/
def fD (F : S → Res SV) : S → Res D := fun r => (F r).bind fun x r => asD x r fun d r => .ok d r
theorem Sim.fz {t : TE} {F : S → Res SV} (h : Sim K mg W (PV K) t F) : Sim K mg W (PF K) t (fD F) := by
  intro γ Oc r σ H fs g
  refine SimAt.bind (t2 := fun y H1 Q => Q y H1) (h γ Oc r σ H fs g) fun x r1 y H1 p => ?_
  obtain ⟨fs', fp, g', v', s, n⟩ := p
  have z := v'.frz g'.nd g'.ow
  unfold asD
  cases e : x.view with
  | none => exact fun Q => trivial
  | some d =>
    rw [e] at z
    exact fun Q hq => hq y H1 ⟨fs', g'.drop, z, s⟩
theorem Sim.vw {t : TE} {F : S → Res D} (h : Sim K mg W (PF K) t F) : Sim K mg W (PB K) t F := fun γ Oc r σ H fs g =>
  (h γ Oc r σ H fs g).post fun r' H' a y ⟨fs', g', v', s⟩ => ⟨fs', g', R.toE g' v', s⟩
end
end QL
namespace QL
open PySem PySem.Spec L2
section
variable {K : PySem.W.Frag} {mg : Str → Option Value} {W : WX} {γ : Gh} {Oc : List Addr} {r r1 r2 : S} {σ : St} {H H' H1 H2 : Hp} {fs fs1 fp : List Addr}
theorem Stp.same (T : Option Addr) (fs : List Addr) (k : SameT H H') : Stp T fs H fs H' := ⟨fun _ h => h, fun a o e _ ht => k.kp a o e ht, k.th, k.tb⟩
theorem Good.grow (g : Good K γ Oc r σ H fs) (k : SameT H H') (n : ∀ a ∈ fp, H a = none) (nd : fp.Nodup) (ow : Own fp H') : Good K γ (fp ++ Oc) r σ H' fs := by
  obtain ⟨⟨f1, f2, e, sl, tp⟩, nd0, ow0, tt⟩ := id g
  have kk : ∀ a ∈ fs ++ Oc, H' a = H a := fun a h => by
    obtain ⟨o, ho, ld⟩ := ow0 a h
    rw [k.kp a o ho ld.nt, ho]
  have out : ∀ a ∈ fp, a ∉ fs ++ Oc := fun a h z => by
    obtain ⟨o, ho, _⟩ := ow0 a z
    rw [n a h] at ho; cases ho
  have mem : ∀ a, a ∈ fs ++ (fp ++ Oc) → a ∈ fp ∨ a ∈ fs ++ Oc := fun a h => by
    simp only [List.mem_append] at h ⊢
    rcases h with h | h | h
    · exact .inr (.inl h)
    · exact .inl h
    · exact .inr (.inr h)
  have st : Stab (fs ++ Oc) H (fs ++ (fp ++ Oc)) H' := fun a h e => by
    refine ⟨fun z => ?_, fun u hu q => ?_, fun u hu q => k.kp _ _ q hu.nt⟩
    · rcases mem a z with z | z
      · exact e (n a z)
      · exact h z
    · rcases q with q | ⟨o, q⟩
      · exact .inl (k.kp _ _ q hu.nt)
      · exact .inr ⟨o, k.kp _ _ q⟩
  refine ⟨⟨f1, f2, e, sl.stab ow0 st fun a h => kk a (by rw [e]; simp [h]), ?_⟩, ?_, fun a h => ?_, tt.1, fun p hp => k.tb _ (tt.2 p hp)⟩
  · cases q : r.tp with
    | none => rw [q] at tp; exact tp
    | some t =>
      rw [q] at tp
      obtain ⟨a, e1, e2, e3⟩ := tp
      exact ⟨a, e1, k.kp _ _ e2, e3⟩
  · obtain ⟨n1, n2, n3⟩ := List.nodup_append.mp nd0
    refine List.nodup_append.mpr ⟨n1, List.nodup_append.mpr ⟨nd, n2, fun a h b h' q => ?_⟩, fun a h b h' q => ?_⟩
    · subst q; exact out a h (List.mem_append_right _ h')
    · subst q
      rcases List.mem_append.mp h' with z | z
      · exact out a z (List.mem_append_left _ h)
      · exact n3 a h a z rfl
  · rcases mem a h with h | h
    · exact ow a h
    · obtain ⟨o, ho, l⟩ := ow0 a h
      exact ⟨o, k.kp a o ho l.nt, l⟩
theorem upd_kept {p : Addr} {o : HO} (h : H p = none) : ∀ a u, H a = some u → upd H p o a = some u := fun a u e => by
  rw [upd_ne (ne_of_none e h)]; exact e
theorem Rs.sameStab (g : Good K γ Oc r σ H fs) (k : SameT H H') (n : ∀ a ∈ fp, H a = none) : Stab (fs ++ Oc) H (fs ++ (fp ++ Oc)) H' := fun a h e => by
  refine ⟨fun z => ?_, fun u hu q => ?_, fun u hu q => k.kp _ _ q hu.nt⟩
  · simp only [List.mem_append] at z h
    rcases z with z | z | z
    · exact h (.inl z)
    · exact e (n a z)
    · exact h (.inr z)
  · rcases q with q | ⟨o, q⟩
    · exact .inl (k.kp _ _ q hu.nt)
    · exact .inr ⟨o, k.kp _ _ q⟩
inductive OV where
  | fz (d : D) | nl (ds : List D) | nt (ds : List D) | nd (kvs : List (D × D))
def OVQ (K : PySem.W.Frag) (O : List Addr) (H : Hp) (z : OV) (Q : VK) : Prop := match z with
  | .fz d => ∀ v, R K O H d v → Q v H
  | .nl ds => ∀ p vs, H p = none → Rs K O H ds vs → Q (.ref p) (upd H p (.lst vs))
  | .nt ds => ∀ p vs, H p = none → Rs K O H ds vs → Q (.ref p) (upd H p (.tup vs))
  | .nd kvs => ∀ p ws, H p = none → RK K O H kvs ws → Q (.ref p) (upd H p (.dK ws))
def ovS : OV → SV
  | .fz d => .fz d
  | .nl ds => .ol ds
  | .nt ds => .fz (.tuple ds)
  | .nd kvs => .od kvs
theorem ovq_of (g : Good K γ Oc r σ H fs) {z : OV} {Q : VK} (hq : ∀ y H', PV K γ Oc r σ H fs H' (ovS z) y → Q y H') : OVQ K (fs ++ Oc) H z Q := by
  cases z with
  | fz d => exact fun v h => hq v H ⟨fs, [], g, ⟨h, rfl⟩, Stp.refl _ _ _, by simp⟩
  | nl ds =>
    intro p vs hp h
    have k := upd_kept (o := .lst vs) hp
    have n : ∀ a ∈ [p], H a = none := by simpa using hp
    refine hq _ _ ⟨fs, [p], g.grow k n (by simp) (by simp [Own, upd_same, LD]), ⟨p, vs, rfl, upd_same, Rs.stab g.ow (Rs.sameStab g k n) _ _ h, rfl⟩, Stp.same _ _ k, n⟩
  | nt ds =>
    intro p vs hp h
    have k := upd_kept (o := .tup vs) hp
    have n : ∀ a ∈ ([] : List Addr), H a = none := by simp
    refine hq _ _ ⟨fs, [], g.grow k n (by simp) (by simp [Own]), ⟨?_, rfl⟩, Stp.same _ _ k, n⟩
    simp only [R]
    exact ⟨p, vs, rfl, upd_same, Rs.stab g.ow (Rs.sameStab g k n) _ _ h⟩
  | nd ds =>
    intro p vs hp h
    have k := upd_kept (o := .dK vs) hp
    have n : ∀ a ∈ [p], H a = none := by simpa using hp
    refine hq _ _ ⟨fs, [p], g.grow k n (by simp) (by simp [Own, upd_same, LD]), ⟨p, vs, rfl, upd_same, RK.stab g.ow (Rs.sameStab g k n) _ _ h, rfl⟩, Stp.same _ _ k, n⟩
theorem Rs.len {O : List Addr} : ∀ {ds : List D} {vs : List V}, Rs K O H ds vs → vs.length = ds.length
  | [], vs, h => by simp only [Rs] at h; rw [h]; rfl
  | d :: ds, vs, h => by
    simp only [Rs] at h
    obtain ⟨v, ws, e, _, h⟩ := h
    rw [e, List.length_cons, List.length_cons, h.len]
theorem Rs.get {O : List Addr} : ∀ {ds : List D} {vs : List V} {i : Nat} {d : D}, Rs K O H ds vs → ds[i]? = some d → ∃ v, vs[i]? = some v ∧ R K O H d v
  | [], vs, i, d, h, e => by simp at e
  | d :: ds, vs, 0, d', h, e => by
    simp only [Rs] at h
    obtain ⟨v, ws, q, h1, h⟩ := h
    simp at e; subst e
    exact ⟨v, by rw [q]; rfl, h1⟩
  | d :: ds, vs, i + 1, d', h, e => by
    simp only [Rs] at h
    obtain ⟨v, ws, q, h1, h⟩ := h
    obtain ⟨u, a, b⟩ := h.get (i := i) (by simpa using e)
    exact ⟨u, by rw [q]; simpa using a, b⟩
theorem Rs.app {O : List Addr} : ∀ {ds es : List D} {vs ws : List V}, Rs K O H ds vs → Rs K O H es ws → Rs K O H (ds ++ es) (vs ++ ws)
  | [], es, vs, ws, h, h' => by simp only [Rs] at h; rw [h]; simpa using h'
  | d :: ds, es, vs, ws, h, h' => by
    simp only [Rs, List.cons_append] at h ⊢
    obtain ⟨v, us, q, h1, h⟩ := h
    exact ⟨v, us ++ ws, by rw [q]; rfl, h1, h.app h'⟩
theorem Rs.take {O : List Addr} : ∀ {ds : List D} {vs : List V} (n : Nat), Rs K O H ds vs → Rs K O H (ds.take n) (vs.take n)
  | [], vs, n, h => by simp only [Rs] at h; rw [h]; simp [Rs]
  | d :: ds, vs, 0, h => by simp [Rs]
  | d :: ds, vs, n + 1, h => by
    simp only [Rs, List.take_succ_cons] at h ⊢
    obtain ⟨v, us, q, h1, h⟩ := h
    exact ⟨v, us.take n, by rw [q]; rfl, h1, h.take n⟩
theorem Rs.drop {O : List Addr} : ∀ {ds : List D} {vs : List V} (n : Nat), Rs K O H ds vs → Rs K O H (ds.drop n) (vs.drop n)
  | [], vs, n, h => by simp only [Rs] at h; rw [h]; simp [Rs]
  | d :: ds, vs, 0, h => by simpa using h
  | d :: ds, vs, n + 1, h => by
    simp only [Rs, List.drop_succ_cons] at h ⊢
    obtain ⟨v, us, q, h1, h⟩ := h
    rw [q]
    exact h.drop n
theorem Rs.rev {O : List Addr} : ∀ {ds : List D} {vs : List V}, Rs K O H ds vs → Rs K O H ds.reverse vs.reverse
  | [], vs, h => by simp only [Rs] at h; rw [h]; simp [Rs]
  | d :: ds, vs, h => by
    simp only [Rs, List.reverse_cons] at h ⊢
    obtain ⟨v, us, q, h1, h⟩ := h
    rw [q, List.reverse_cons]
    refine h.rev.app ?_
    simp only [Rs]
    exact ⟨v, [], rfl, h1, rfl⟩
theorem Rs.rep {O : List Addr} {ds : List D} {vs : List V} (h : Rs K O H ds vs) : ∀ n, Rs K O H (List.replicate n ds).flatten (List.replicate n vs).flatten
  | 0 => by simp [Rs]
  | n + 1 => by
    rw [List.replicate_succ, List.replicate_succ, List.flatten_cons, List.flatten_cons]
    exact h.app (Rs.rep h n)
theorem Rs.at {O : List Addr} {ds : List D} {vs : List V} {i : Int} {d : D} (h : Rs K O H ds vs) (e : atI ds i = some d) : ∃ v, atI vs i = some v ∧ R K O H d v := by
  unfold atI at e ⊢
  rw [h.len]
  cases q : ixN ds.length i with
  | none => rw [q] at e; cases e
  | some j =>
    rw [q] at e
    exact h.get e
/-- ints, texts -/
def intsD : List D → Option (List Int)
  | [] => some []
  | .int i :: r => (intsD r).map (i :: ·)
  | _ => none
def strsD : List D → Option (List Str)
  | [] => some []
  | .str i :: r => (strsD r).map (i :: ·)
  | _ => none
theorem Rs.ints {O : List Addr} : ∀ {ds : List D} {vs : List V} {ns : List Int}, Rs K O H ds vs → intsD ds = some ns → vs = ns.map V.int
  | [], vs, ns, h, e => by
    simp only [Rs] at h
    simp only [intsD, Option.some.injEq] at e
    rw [h, ← e]; rfl
  | .int i :: ds, vs, ns, h, e => by
    simp only [Rs] at h
    obtain ⟨v, us, q, h1, h⟩ := h
    simp only [intsD, Option.map_eq_some_iff] at e
    obtain ⟨ms, e1, e2⟩ := e
    simp only [R] at h1
    rw [q, ← e2, h1, h.ints e1]; rfl
  | .none :: ds, vs, ns, h, e => by simp [intsD] at e
  | .bool _ :: ds, vs, ns, h, e => by simp [intsD] at e
  | .str _ :: ds, vs, ns, h, e => by simp [intsD] at e
  | .list _ :: ds, vs, ns, h, e => by simp [intsD] at e
  | .tuple _ :: ds, vs, ns, h, e => by simp [intsD] at e
  | .dict _ :: ds, vs, ns, h, e => by simp [intsD] at e
theorem Rs.strs {O : List Addr} : ∀ {ds : List D} {vs : List V} {ns : List Str}, Rs K O H ds vs → strsD ds = some ns → vs = ns.map V.str
  | [], vs, ns, h, e => by
    simp only [Rs] at h
    simp only [strsD, Option.some.injEq] at e
    rw [h, ← e]; rfl
  | .str i :: ds, vs, ns, h, e => by
    simp only [Rs] at h
    obtain ⟨v, us, q, h1, h⟩ := h
    simp only [strsD, Option.map_eq_some_iff] at e
    obtain ⟨ms, e1, e2⟩ := e
    simp only [R] at h1
    rw [q, ← e2, h1, h.strs e1]; rfl
  | .none :: ds, vs, ns, h, e => by simp [strsD] at e
  | .bool _ :: ds, vs, ns, h, e => by simp [strsD] at e
  | .int _ :: ds, vs, ns, h, e => by simp [strsD] at e
  | .list _ :: ds, vs, ns, h, e => by simp [strsD] at e
  | .tuple _ :: ds, vs, ns, h, e => by simp [strsD] at e
  | .dict _ :: ds, vs, ns, h, e => by simp [strsD] at e
theorem Rs.ofStrs {O : List Addr} : ∀ ns : List Str, Rs K O H (ns.map PyData.str) (ns.map V.str)
  | [] => by simp [Rs]
  | i :: r => by
    simp only [Rs, List.map_cons]
    exact ⟨_, _, rfl, by simp [R], Rs.ofStrs r⟩
end
/-- a value: its rule and its mirror -/
structure EX (X : Cx) (W : WX) (e : Expr) (t : TE) (F : S → Res SV) : Prop where
  pe : PE X e t
  sim : Sim X.K X.mg W (PV X.K) t F
/-- .. to be read -/
structure BX (X : Cx) (W : WX) (e : Expr) (t : TE) (F : S → Res D) : Prop where
  pe : PE X e t
  sim : Sim X.K X.mg W (PB X.K) t F
/-- .. frozen -/
structure FX (X : Cx) (W : WX) (e : Expr) (t : TE) (F : S → Res D) : Prop where
  pe : PE X e t
  sim : Sim X.K X.mg W (PF X.K) t F
/-- a test -/
structure TX (X : Cx) (W : WX) (e : Expr) (t : TT) (F : S → Res Bool) : Prop where
  pe : PT X e t
  sim : Sim X.K X.mg W (PTt X.K) t F
/-- arguments, frozen -/
structure AX (X : Cx) (W : WX) (es : List Expr) (t : TA) (F : S → Res (List D)) : Prop where
  pe : PA X es t
  sim : Sim X.K X.mg W (PL X.K) t F
section
variable {X : Cx} {W : WX} {e a b c : Expr} {ta tb tc : TE} {fa fb : S → Res D} {F : S → Res SV} {pos : Pos}
theorem EX.toF (h : EX X W e ta F) : FX X W e ta (fD F) := ⟨h.pe, h.sim.fz⟩
theorem FX.toB (h : FX X W e ta fa) : BX X W e ta fa := ⟨h.pe, h.sim.vw⟩
theorem EX.toB (h : EX X W e ta F) : BX X W e ta (fD F) := h.toF.toB
/-- frozen data as a value -/
def eD (G : S → Res D) : S → Res SV := fun r => (G r).bind fun d r => .ok (.fz d) r
theorem FX.toE (h : FX X W e ta fa) : EX X W e ta (eD fa) := by
  refine ⟨h.pe, fun γ Oc r σ H fs g => ?_⟩
  refine SimAt.bind (t2 := fun y H1 Q => Q y H1) (h.sim γ Oc r σ H fs g) fun d r1 y H1 p => ?_
  obtain ⟨fs', g', v', s⟩ := p
  exact fun Q hq => hq y H1 ⟨fs', [], g', ⟨v', rfl⟩, s, by simp⟩
def fC (d : D) : S → Res D := fun r => .ok d r
theorem simC {K : PySem.W.Frag} {mg : Str → Option Value} {v : V} {d : D} (h : ∀ O H, R K O H d v) : Sim K mg W (PF K) (tC v) (fC d) := fun γ Oc r σ H fs g Q hq =>
  hq v H ⟨fs, g, h _ _, Stp.refl _ _ _⟩
theorem fx_int {i : Int} {j} : FX X W (.Constant (.int i) j pos) (tC (.int i)) (fC (.int i)) := ⟨pe_int, simC fun _ _ => by simp [R]⟩
theorem fx_bl {i : Bool} {j} : FX X W (.Constant (.bool i) j pos) (tC (.bl i)) (fC (.bool i)) := ⟨pe_bl, simC fun _ _ => by simp [R]⟩
theorem fx_non {j} : FX X W (.Constant .none j pos) (tC .non) (fC .none) := ⟨pe_non, simC fun _ _ => by simp [R]⟩
theorem fx_str {i : Str} {j} : FX X W (.Constant (.str i) j pos) (tC (.str i)) (fC (.str i)) := ⟨pe_str, simC fun _ _ => by simp [R]⟩
/-- a module's constant -/
theorem fx_glob {x : Str} {v : V} {u : Value} {d : D} (hg : Gl X x) (hm : X.mg x = some u) (r : RelV v u) (h : ∀ K O H, R K O H d v) (hd : (x == ("__debug__" : Str)) = false := by decide) : FX X W (.Name x pos) (tC v) (fC d) :=
  ⟨pe_glob hg hm r hd, simC fun _ _ => h _ _ _⟩
/-- read -/
def gV (i : Nat) : S → Res D := fun r => match r.sl[i]? with
  | some (some x) => asD x r fun d r => .ok d r
  | _ => .bad
/-- taken: frozen from now on -/
def fV (i : Nat) : S → Res D := fun r => match r.sl[i]? with
  | some (some x) => asD x r fun d r => .ok d { r with sl := r.sl.set i (some (.fz d)) }
  | _ => .bad
theorem bx_var {i : Nat} (h : PE X e (tVar i)) : BX X W e (tVar i) (gV i) := by
  refine ⟨h, fun γ Oc r σ H fs g Q => ?_⟩
  unfold gV
  cases q : r.sl[i]? with
  | none => trivial
  | some o =>
    cases o with
    | none => trivial
    | some x =>
      unfold asD
      dsimp only
      cases e : x.view with
      | none => trivial
      | some d =>
        intro hq
        obtain ⟨v, h1, h2⟩ := g.slotE q e
        exact ⟨v, h1, hq v H ⟨fs, g, h2, Stp.refl _ _ _⟩⟩
/-- a slot is frozen -/
theorem Good.freeze {K : PySem.W.Frag} {γ : Gh} {Oc : List Addr} {r : S} {σ : St} {H : Hp} {fs : List Addr} (g : Good K γ Oc r σ H fs) {i : Nat} {x : SV} {d : D} (h : r.sl[i]? = some (some x)) (hd : x.view = some d) :
    ∃ v fs', σ[i]? = some (some v) ∧ (∀ a ∈ fs', a ∈ fs) ∧ Good K γ Oc { r with sl := r.sl.set i (some (.fz d)) } σ H fs' ∧ R K (fs' ++ Oc) H d v := by
  obtain ⟨⟨f1, f2, e, sl, tp⟩, nd, ow, tt⟩ := id g
  have hi : i < r.sl.length := (List.getElem?_eq_some_iff.mp h).1
  obtain ⟨a1, a2, a3, e2, e3, hset, _⟩ := sl.upd hi
  obtain ⟨v, e1, e3⟩ := e3 _ h
  have sub : ∀ a ∈ ((a1 ++ a3) ++ f2) ++ Oc, a ∈ fs ++ Oc := fun a z => by
    rw [e, e2]; simp only [List.mem_append] at z ⊢
    rcases z with ((z | z) | z) | z <;> simp [z]
  have ndp : (((a1 ++ a3) ++ f2) ++ Oc).Nodup := by
    refine nd.sublist ?_
    rw [e, e2]
    exact (((List.Sublist.refl a1).append (List.sublist_append_right a2 a3)).append (List.Sublist.refl f2)).append (List.Sublist.refl Oc)
  have st : Stab (fs ++ Oc) H (((a1 ++ a3) ++ f2) ++ Oc) H := Stab.weak sub fun _ _ z => z
  have out : ∀ a, a2 = [a] → a ∉ ((a1 ++ a3) ++ f2) ++ Oc := fun a q z => by
    have n := nd
    rw [e, e2, q] at n
    simp only [List.append_assoc] at n z
    have n2 := List.nodup_append.mp n
    rcases List.mem_append.mp z with z | z
    · exact n2.2.2 a z a (by simp) rfl
    · have n3 := n2.2.1
      rw [List.singleton_append] at n3
      exact (List.nodup_cons.mp n3).1 z
  have rv : R K (((a1 ++ a3) ++ f2) ++ Oc) H d v := by
    cases x with
    | fz d' => simp only [SV.view, Option.some.injEq] at hd; subst hd; exact R.stab ow st _ _ e3.1
    | ol xs =>
      simp only [SV.view, Option.some.injEq] at hd; subst hd
      obtain ⟨a, vs, q1, q2, q3, q4⟩ := e3
      simp only [R]
      exact ⟨a, vs, q1, out a q4, q2, Rs.stab ow st _ _ q3⟩
    | od xs =>
      simp only [SV.view, Option.some.injEq] at hd; subst hd
      obtain ⟨a, vs, q1, q2, q3, q4⟩ := e3
      simp only [R]
      exact ⟨a, q1, out a q4, .inl ⟨vs, .inl q2, RK.stab ow st _ _ q3⟩⟩
    | ot xs =>
      simp only [SV.view, Option.some.injEq] at hd; subst hd
      obtain ⟨a, vs, q1, q2, q3, q4⟩ := e3
      simp only [R]
      exact ⟨a, q1, out a q4, .inr (.inl ⟨vs, .inl q2, RT.stab ow st _ _ q3⟩)⟩
    | tape => simp [SV.view] at hd
    | scr => simp [SV.view] at hd
    | ob c xs =>
      simp only [SV.view, Option.some.injEq] at hd; subst hd
      obtain ⟨C, dx, vs, q1, q2, q3, q4, q5⟩ := e3
      simp only [R]
      exact ⟨_, q1, out _ q4, .inr (.inr ⟨C, dx, vs, q2, by simp only [RO']; exact ⟨trivial, ⟨c, rfl, q5⟩, RF.stab ow st _ _ q3⟩⟩)⟩
  have sl2 := hset (x := .fz d) (v := v) (f := []) ow st (fun _ _ => rfl) ⟨rv, rfl⟩
  have eσ : σ.set i (some v) = σ := by
    obtain ⟨hj, e4⟩ := List.getElem?_eq_some_iff.mp e1
    rw [← e4, List.set_getElem_self]
  rw [eσ] at sl2
  exact ⟨v, (a1 ++ a3) ++ f2, e1, fun a z => by rw [e, e2]; simp only [List.mem_append] at z ⊢; rcases z with (z | z) | z <;> simp [z], ⟨⟨a1 ++ a3, f2, rfl, sl2, tp⟩, ndp, ow.mono sub, tt⟩, rv⟩
theorem fx_var {i : Nat} (h : PE X e (tVar i)) : FX X W e (tVar i) (fV i) := by
  refine ⟨h, fun γ Oc r σ H fs g Q => ?_⟩
  unfold fV
  cases q : r.sl[i]? with
  | none => trivial
  | some o =>
    cases o with
    | none => trivial
    | some x =>
      unfold asD
      dsimp only
      cases e : x.view with
      | none => trivial
      | some d =>
        intro hq
        obtain ⟨v, fs', h1, h2, h3, h4⟩ := g.freeze q e
        exact ⟨v, h1, hq v H ⟨fs', h3, h4, h2, fun _ _ z _ _ => z, fun _ z => z, fun _ z => z⟩⟩
end
end QL
namespace QL
open PySem PySem.Spec L2
section
variable {X : Cx} {W : WX} {e a b c : Expr} {ta tb tc : TE} {fa fb fc : S → Res D} {F : S → Res SV} {pos : Pos}
def ovR (z : Option OV) (r : S) : Res SV := match z with
  | some z => .ok (ovS z) r
  | none => .bad
/-- an operation's rule answers as op says -/
def OpS (K : PySem.W.Frag) (rr : R2) (op : D → D → Option OV) : Prop :=
  ∀ (γ : Gh) (O : List Addr) (H : Hp) (x y : D) (v w : V) (z : OV) (Q : VK), Own O H → RE K γ O H x v → RE K γ O H y w → op x y = some z → OVQ K O H z Q → rr v w H Q
def fOp (op : D → D → Option OV) (fa fb : S → Res D) : S → Res SV := fun r => (fa r).bind fun x r => (fb r).bind fun y r => ovR (op x y) r
theorem sim_op {K : PySem.W.Frag} {mg : Str → Option Value} {rr : R2} {op : D → D → Option OV} (ho : OpS K rr op) (ha : Sim K mg W (PB K) ta fa) (hb : Sim K mg W (PB K) tb fb) : Sim K mg W (PV K) (tOp rr ta tb) (fOp op fa fb) := by
  intro γ Oc r σ H fs g
  refine SimAt.bind (t2 := fun x H1 Q => tb σ H1 fun y H2 => rr x y H2 Q) (ha γ Oc r σ H fs g) fun d r1 v H1 ⟨fs1, g1, v1, s1⟩ => ?_
  refine SimAt.tr s1 (SimAt.bind (t2 := fun y H2 Q => rr v y H2 Q) (hb γ Oc r1 σ H1 fs1 g1) fun d2 r2 w H2 ⟨fs2, g2, v2, s2⟩ => ?_)
  refine SimAt.tr s2 fun Q => ?_
  unfold ovR
  cases q : op d d2 with
  | none => trivial
  | some z => exact fun hq => ho γ (fs2 ++ Oc) H2 d d2 v w z Q g2.ow (v1.keep g1 s2) v2 q (ovq_of g2 hq)
theorem ex_op {op : D → D → Option OV} {o : Operator} {rr : R2} (ho : OpR X (binaryOp o) rr) (hs : OpS X.K rr op) (ha : BX X W a ta fa) (hb : BX X W b tb fb) : EX X W (.BinOp a o b pos) (tOp rr ta tb) (fOp op fa fb) :=
  ⟨pe_op ho ha.pe hb.pe, sim_op hs ha.sim hb.sim⟩
theorem ex_cmp {op : D → D → Option OV} {o : CmpOp} {rr : R2} (ho : OpR X (compareOp o) rr) (hs : OpS X.K rr op) (ha : BX X W a ta fa) (hb : BX X W b tb fb) (hm : behindInMarks o b = false) : EX X W (.Compare a [o] [b] pos) (tOp rr ta tb) (fOp op fa fb) :=
  ⟨pe_cmpR ho ha.pe hb.pe hm, sim_op hs ha.sim hb.sim⟩
theorem OpR.or {f : Value → Value → Sem Value} {r1 r2 : R2} (h1 : OpR X f r1) (h2 : OpR X f r2) : OpR X f (fun x y H Q => r1 x y H Q ∨ r2 x y H Q) := fun pins s σ H x y v u Q I rx ry h => by
  rcases h with h | h
  · exact h1 pins s σ H x y v u Q I rx ry h
  · exact h2 pins s σ H x y v u Q I rx ry h
end
def tx (l : List Nat) : Str := ⟨l.toArray⟩
theorem tx_cps (l : List Nat) : (tx l).cps.toList = l := rfl
theorem tx_len (l : List Nat) : (tx l).length = l.length := by simp [tx, Str.length]
theorem Str.tx (x : Str) : x = tx x.cps.toList := by cases x; rfl
def dAdd : D → D → Option OV
  | .int i, .int j => some (.fz (.int (i + j)))
  | .str x, .str y => if x.length + y.length ≤ sizeLine then some (.fz (.str (x ++ y))) else none
  | .list x, .list y => if x.length + y.length ≤ sizeLine then some (.nl (x ++ y)) else none
  | .tuple x, .tuple y => if x.length + y.length ≤ sizeLine then (if x.length = 0 then some (.fz (.tuple y)) else if y.length = 0 then some (.fz (.tuple x)) else some (.nt (x ++ y))) else none
  | _, _ => none
def rAdd (K : PySem.W.Frag) : R2 := fun x y H Q => (rI0 (fun i j => .int (i + j))) x y H Q ∨ (∃ i j, x = .str i ∧ y = .str j ∧ i.length + j.length ≤ sizeLine ∧ Q (.str (i ++ j)) H) ∨ rCat x y H Q ∨ rCatA K x y H Q
theorem op_addA {X : Cx} : OpR X (binaryOp .Add) (rAdd X.K) := OpR.or op_add (OpR.or op_add_str (OpR.or op_cat op_catA))
theorem ops_add {K : PySem.W.Frag} : OpS K (rAdd K) dAdd := by
  intro γ O H x y v w z Q ow hx hy e hq
  unfold dAdd at e
  split at e
  · rename_i i j
    cases e
    simp only [RE, R] at hx hy
    exact .inl ⟨i, j, hx, hy, hq _ (by simp [R])⟩
  · rename_i i j
    split at e
    · rename_i hl
      cases e
      simp only [RE, R] at hx hy
      exact .inr (.inl ⟨i, j, hx, hy, hl, hq _ (by simp [R])⟩)
    · cases e
  · rename_i i j
    split at e
    · rename_i hl
      cases e
      obtain ⟨a, vs, q1, n1, q2, q3⟩ := hx
      obtain ⟨a', vs', q1', n1', q2', q3'⟩ := hy
      exact .inr (.inr (.inl ⟨a, a', vs, vs', q1, q1', q2, q2', by rw [q3.len, q3'.len]; exact hl, fun p hp => hq p _ hp (q3.app q3')⟩))
    · cases e
  · rename_i i j
    split at e
    · rename_i hl
      simp only [RE, R] at hx hy
      obtain ⟨a, vs, q1, q2, q3⟩ := id hx
      obtain ⟨a', vs', q1', q2', q3'⟩ := id hy
      have l1 := q3.len
      have l2 := q3'.len
      refine .inr (.inr (.inr ⟨a, a', vs, vs', q1, q1', TupAt.sq q2, TupAt.sq q2', by rw [l1, l2]; exact hl, fun h => ?_, fun h h' => ?_, fun h h' p hp => ?_⟩))
      · subst h
        rw [if_pos (by rw [← l1]; rfl)] at e
        cases e
        rw [← q1']
        exact hq _ (by simp only [R]; exact hy)
      · subst h'
        rw [if_neg (by rw [← l1]; exact fun z => h (List.length_eq_zero_iff.mp z)), if_pos (by rw [← l2]; rfl)] at e
        cases e
        rw [← q1]
        exact hq _ (by simp only [R]; exact hx)
      · rw [if_neg (by rw [← l1]; exact fun z => h (List.length_eq_zero_iff.mp z)), if_neg (by rw [← l2]; exact fun z => h' (List.length_eq_zero_iff.mp z))] at e
        cases e
        exact hq p _ hp (q3.app q3')
    · cases e
  · cases e
def dSub : D → D → Option OV
  | .int i, .int j => some (.fz (.int (i - j)))
  | _, _ => none
theorem ops_sub {K : PySem.W.Frag} : OpS K (rI0 fun i j => .int (i - j)) dSub := by
  intro γ O H x y v w z Q ow hx hy e hq
  unfold dSub at e
  split at e
  · rename_i i j
    cases e
    simp only [RE, R] at hx hy
    exact ⟨i, j, hx, hy, hq _ (by simp [R])⟩
  · cases e
/-- bits of an int -/
abbrev bitsI (i : Int) : Nat := Builtin.Int.intBits i
def dMul : D → D → Option OV
  | .int i, .int j => if bitsI i + bitsI j ≤ 134217728 then some (.fz (.int (i * j))) else none
  | .str x, .int n => if x.length * n.toNat ≤ sizeLine ∧ -(2 ^ 40) < n ∧ n < 2 ^ 40 then some (.fz (.str (tx (List.replicate n.toNat x.cps.toList).flatten))) else none
  | .list x, .int n => if x.length * n.toNat ≤ sizeLine ∧ -(2 ^ 40) < n ∧ n < 2 ^ 40 then some (.nl (List.replicate n.toNat x).flatten) else none
  | _, _ => none
def CMulB (i j : Int) : Prop := bitsI i + bitsI j ≤ 134217728
theorem CMulB.ok {i j : Int} (h : CMulB i j) : IntMulOk i j := PyProof.Rows.mulOk_of_bits (Nat.le_refl _) (Nat.le_refl _) h
theorem op_mulB {X : Cx} : OpR X (binaryOp .Mult) (rI CMulB fun i j => .int (i * j)) := opI fun _ _ _ _ _ _ _ hc q => PyProof.Rows.mul_int q hc.ok
def rMulS : R2 := fun x y H Q => ∃ z n, x = .str z ∧ y = .int n ∧ (z.length * n.toNat ≤ sizeLine ∧ -(2 ^ 40) < n ∧ n < 2 ^ 40) ∧ Q (.str (tx (List.replicate n.toNat z.cps.toList).flatten)) H
theorem foldl_app (x : Array Nat) : ∀ (n : Nat) (acc : Array Nat), ((List.replicate n x).foldl (· ++ ·) acc).toList = acc.toList ++ (List.replicate n x.toList).flatten
  | 0, acc => by simp
  | n + 1, acc => by
    rw [List.replicate_succ, List.foldl_cons, foldl_app x n, List.replicate_succ, List.flatten_cons, Array.toList_append, List.append_assoc]
theorem mul_tx (x : Str) (n : Int) : Txt.mul x n = tx (List.replicate n.toNat x.cps.toList).flatten := by
  unfold Txt.mul
  split
  · rename_i h
    have : n.toNat = 0 := by omega
    rw [this]; rfl
  · rename_i h
    split
    · rename_i h2
      simp only [Bool.or_eq_true, beq_iff_eq] at h2
      rcases h2 with h2 | h2
      · rw [h2]
        simp only [Int.toNat_one, List.replicate_one, List.flatten_cons, List.flatten_nil, List.append_nil]
        exact Str.tx x
      · have e : x.cps.toList = [] := by
          have : x.cps.size = 0 := h2
          simpa using this
        rw [e]
        have e3 : ∀ k : Nat, (List.replicate k ([] : List Nat)).flatten = [] := fun k => by induction k with
          | zero => rfl
          | succ k ih => rw [List.replicate_succ, List.flatten_cons, ih]; rfl
        rw [e3, ← e]
        exact Str.tx x
    · have e := foldl_app x.cps n.toNat #[]
      simp only [List.nil_append] at e
      unfold tx
      rw [← e]
theorem op_mulS {X : Cx} : OpR X (binaryOp .Mult) rMulS := by
  intro pins s σ H x y v u Q I rx ry h
  obtain ⟨z, n, rfl, rfl, ⟨h1, h2, h3⟩, q⟩ := h
  obtain ⟨t, rfl⟩ := rx
  obtain ⟨t', rfl⟩ := ry
  have hz : sizeLine = 16777216 := by decide
  refine PySem.SB.mul ⟨?_, fun a b => ?_, fun a b => ?_⟩ fun tk k => ⟨.str _, H, I.tok _, ⟨_, rfl⟩, by rw [mul_tx]; exact q⟩
  · simp only [Bool.or_eq_false_iff, decide_eq_false_iff_not]
    have e : (2 : Int) ^ 63 = 9223372036854775808 := by decide
    have e2 : (2 : Int) ^ 40 = 1099511627776 := by decide
    rw [e2] at h2 h3
    rw [e]
    omega
  · intro hh
    have n1 : 1 ≤ n := by omega
    have e : ((2 : Int) ^ 63 - 1) = 9223372036854775807 := by decide
    rw [e] at hh
    have h4 : (z.length : Int) * n ≤ 16777216 := by
      have : (z.length * n.toNat : Nat) ≤ 16777216 := by rw [← hz]; exact h1
      have e5 : ((z.length * n.toNat : Nat) : Int) = (z.length : Int) * n := by
        rw [Int.natCast_mul, Int.toNat_of_nonneg (by omega)]
      omega
    have h6 : (z.length : Int) ≤ 9223372036854775807 / n := by
      refine (Int.le_ediv_iff_mul_le (by omega)).mpr ?_
      omega
    omega
  · unfold Builtin.Str.tooLong
    have : z.length * n.toNat ≤ 16777216 := by rw [← hz]; exact h1
    first
      | (simp only [decide_eq_false_iff_not]; omega)
      | (simp only [decide_eq_false_iff_not]; rw [hz]; omega)
      | simp [hz]; omega
def rMul : R2 := fun x y H Q => (rI CMulB fun i j => .int (i * j)) x y H Q ∨ rMulS x y H Q ∨ rRep x y H Q
theorem op_mulA {X : Cx} : OpR X (binaryOp .Mult) rMul := OpR.or op_mulB (OpR.or op_mulS op_rep)
theorem RE.tracked {K : PySem.W.Frag} {γ : Gh} {O : List Addr} {H : Hp} {ds : List D} {v : V} (h : RE K γ O H (.list ds) v) : ∃ a vs, v = .ref a ∧ H a = some (.lst vs) ∧ Rs K O H ds vs := by
  obtain ⟨a, vs, e, n, q, h⟩ := h
  exact ⟨a, vs, e, q, h⟩
end QL
namespace QM
open PySem PySem.Spec L2 QL
theorem txl {l : List Nat} : (tx l).length = l.length := tx_len l
theorem txc {l : List Nat} : (tx l).cps = l.toArray := rfl
theorem subAt_tx (l m : List Nat) (i : Nat) : Builtin.Str.subAt (tx l) (tx m) i = decide ((l.drop i).take m.length = m) := by
  unfold Builtin.Str.subAt
  rw [Bool.eq_iff_iff, beq_iff_eq, decide_eq_true_eq]
  have e1 : (tx l).cps.extract i (i + (tx m).length) = ((l.drop i).take m.length).toArray := by
    rw [txl, txc, List.extract_toArray, List.extract_eq_take_drop]
    congr 2
    omega
  rw [e1, txc]
  constructor
  · intro h
    have := congrArg Array.toList h
    simpa using this
  · intro h; rw [h]
theorem take1 {l : List Nat} {i c : Nat} : (l.drop i).take 1 = [c] ↔ l[i]? = some c := by
  rw [← List.head?_drop]
  cases l.drop i with
  | nil => simp
  | cons a r => simp
def occP (s sub : Str) (hi : Nat) (i : Nat) : Bool := decide (i + sub.length ≤ hi) && Builtin.Str.subAt s sub i
theorem occ_full (s sub : Str) (hi x f : Nat) : ∀ l : List Nat, (forIn l ((#[x] : Array Nat), f) (StrLaws.occBody s sub hi 1)).run.fst = #[x]
  | [] => rfl
  | a :: l => by
    rw [List.forIn_cons]
    unfold StrLaws.occBody
    have c : ¬ (((((#[x] : Array Nat), f).fst.size < 1 ∧ ((#[x] : Array Nat), f).snd ≤ a) ∧ a + sub.length ≤ hi) ∧ Builtin.Str.subAt s sub a = true) := fun h => by
      have := h.1.1.1
      simp at this
    rw [if_neg c]
    exact occ_full s sub hi x f l
theorem occ_first (s sub : Str) (hi : Nat) : ∀ (l : List Nat) (free : Nat), (∀ i ∈ l, free ≤ i) → (forIn l ((#[] : Array Nat), free) (StrLaws.occBody s sub hi 1)).run.fst.toList = (l.find? (occP s sub hi)).toList
  | [], free, _ => rfl
  | a :: l, free, h => by
    rw [List.forIn_cons, List.find?_cons]
    have ha := h a List.mem_cons_self
    by_cases hp : occP s sub hi a = true
    · rw [hp]
      unfold occP at hp
      simp only [Bool.and_eq_true, decide_eq_true_eq] at hp
      unfold StrLaws.occBody
      rw [if_pos ⟨⟨⟨by simp, ha⟩, hp.1⟩, hp.2⟩]
      show (forIn l ((#[].push a : Array Nat), a + sub.length) (StrLaws.occBody s sub hi 1)).run.fst.toList = _
      rw [show (#[].push a : Array Nat) = #[a] from rfl, occ_full]
      rfl
    · rw [Bool.not_eq_true] at hp
      rw [hp]
      have c : ¬ (((((#[] : Array Nat), free).fst.size < 1 ∧ ((#[] : Array Nat), free).snd ≤ a) ∧ a + sub.length ≤ hi) ∧ Builtin.Str.subAt s sub a = true) := fun h => by
        unfold occP at hp
        rw [decide_eq_true h.1.2, h.2] at hp
        cases hp
      unfold StrLaws.occBody
      rw [if_neg c]
      exact occ_first s sub hi l free fun i hi' => h i (List.mem_cons_of_mem _ hi')
theorem occ1 (s sub : Str) (lo hi : Nat) : Builtin.Str.occurrences s sub lo hi 1 = ((List.range' lo (hi + 1 - lo)).find? (occP s sub hi)).toList := by
  rw [StrLaws.occ_eq]
  exact occ_first s sub hi _ lo fun i h => (List.mem_range'_1.mp h).1
theorem last_eq (s sub : Str) (lo hi : Nat) : Builtin.Str.lastOccurrence s sub lo hi = (List.range' lo (hi + 1 - lo)).foldl (fun acc i => if occP s sub hi i = true then some i else acc) none := by
  unfold Builtin.Str.lastOccurrence
  simp only [Std.Legacy.Range.forIn_eq_forIn_range', Std.Legacy.Range.size]
  have e : (hi + 1 - lo + 1 - 1) / 1 = hi + 1 - lo := by omega
  rw [e]
  have gen : ∀ (l : List Nat) (acc : Option Nat), (forIn (m := Id) l acc fun i r => do
      if i + sub.length ≤ hi ∧ Builtin.Str.subAt s sub i = true then pure (ForInStep.yield (some i)) else pure (ForInStep.yield r)).run = l.foldl (fun acc i => if occP s sub hi i = true then some i else acc) acc := by
    intro l
    induction l with
    | nil => intro acc; rfl
    | cons a l ih =>
      intro acc
      rw [List.forIn_cons, List.foldl_cons]
      unfold occP
      by_cases h : a + sub.length ≤ hi ∧ Builtin.Str.subAt s sub a = true
      · rw [if_pos h, if_pos (by simp [h])]
        exact ih (some a)
      · rw [if_neg h, if_neg (by simpa using h)]
        exact ih acc
  have := gen (List.range' lo (hi + 1 - lo)) none
  simp at this ⊢
  exact this
/-- the first c from s on -/
def nxt (l : List Nat) (c s : Nat) : Option Nat := (List.range' s (l.length + 1 - s)).find? fun i => decide (l[i]? = some c)
/-- the last c ahead of n -/
def prv (l : List Nat) (c : Nat) : Nat → Option Nat
  | 0 => none
  | n + 1 => if l[n]? = some c then some n else prv l c n
def optI : Option Nat → Int
  | some k => (k : Int)
  | none => -1
theorem occP_one (l : List Nat) (c hi i : Nat) : occP (tx l) (tx [c]) hi i = (decide (i + 1 ≤ hi) && decide (l[i]? = some c)) := by
  unfold occP
  rw [subAt_tx]
  have : ((l.drop i).take [c].length = [c]) = (l[i]? = some c) := propext take1
  simp only [this]
  rfl
theorem find3_one (l : List Nat) (c : Nat) (i : Int) (h : 0 ≤ i) : Txt.find3 (tx l) (tx [c]) i = optI (nxt l c i.toNat) := by
  have ef : fromIndex (tx l).length i = i.toNat := by
    unfold fromIndex
    rw [if_neg (by omega)]
    omega
  have eo : Builtin.Str.occurrences (tx l) (tx [c]) i.toNat (tx l).length 1 = (nxt l c i.toNat).toList := by
    rw [occ1, txl]
    unfold nxt
    congr 2
    funext k
    rw [occP_one]
    by_cases hk : l[k]? = some c
    · have := (List.getElem?_eq_some_iff.mp hk).1
      simp [hk]; omega
    · simp [hk]
  unfold Txt.find3
  rw [ef, eo]
  cases nxt l c i.toNat <;> rfl
theorem nxt_some {l : List Nat} {c s k : Nat} (h : nxt l c s = some k) : s ≤ k ∧ l[k]? = some c ∧ ∀ j, s ≤ j → j < k → l[j]? ≠ some c := by
  unfold nxt at h
  have hm := List.mem_of_find?_eq_some h
  have hp := List.find?_some h
  simp only [decide_eq_true_eq] at hp
  refine ⟨(List.mem_range'_1.mp hm).1, hp, fun j h1 h2 e => ?_⟩
  obtain ⟨_, as, bs, e1, e2⟩ := List.find?_eq_some_iff_append.mp h
  have hk := (List.mem_range'_1.mp hm).2
  have hj : j ∈ as := by
    have hlen : as.length = k - s := by
      have g1 : (List.range' s (l.length + 1 - s))[as.length]? = some k := by rw [e1]; simp
      rw [List.getElem?_range'] at g1
      · simp at g1; omega
      · have := congrArg List.length e1
        simp at this
        omega
    have g2 : (List.range' s (l.length + 1 - s))[j - s]? = some j := by
      rw [List.getElem?_range' (by omega)]
      simp; omega
    rw [e1, List.getElem?_append_left (by omega)] at g2
    exact List.mem_of_getElem? g2
  have := e2 j hj
  simp [e] at this
theorem nxt_none {l : List Nat} {c s : Nat} (h : nxt l c s = none) : ∀ j, s ≤ j → l[j]? ≠ some c := fun j hj e => by
  unfold nxt at h
  have := List.find?_eq_none.mp h j (List.mem_range'_1.mpr ⟨hj, by have := (List.getElem?_eq_some_iff.mp e).1; omega⟩)
  simp [e] at this
theorem nxt_is {l : List Nat} {c s k : Nat} (h1 : s ≤ k) (h2 : l[k]? = some c) (h3 : ∀ j, s ≤ j → j < k → l[j]? ≠ some c) : nxt l c s = some k := by
  cases e : nxt l c s with
  | none => exact absurd h2 (nxt_none e k h1)
  | some q =>
    obtain ⟨a, b, d⟩ := nxt_some e
    rcases Nat.lt_trichotomy q k with z | z | z
    · exact absurd b (h3 q a z)
    · rw [z]
    · exact absurd h2 (d k h1 z)
theorem prv_some {l : List Nat} {c : Nat} : ∀ {n k : Nat}, prv l c n = some k → k < n ∧ l[k]? = some c ∧ ∀ j, k < j → j < n → l[j]? ≠ some c
  | 0, k, h => by simp [prv] at h
  | n + 1, k, h => by
    unfold prv at h
    split at h
    · rename_i e
      cases h
      exact ⟨Nat.lt_succ_self _, e, fun j a b => by omega⟩
    · rename_i e
      obtain ⟨a, b, d⟩ := prv_some h
      refine ⟨by omega, b, fun j h1 h2 => ?_⟩
      by_cases hj : j = n
      · rw [hj]; exact e
      · exact d j h1 (by omega)
theorem prv_none {l : List Nat} {c : Nat} : ∀ {n : Nat}, prv l c n = none → ∀ j, j < n → l[j]? ≠ some c
  | 0, h, j, hj => by omega
  | n + 1, h, j, hj => by
    unfold prv at h
    split at h
    · cases h
    · rename_i e
      by_cases hjn : j = n
      · rw [hjn]; exact e
      · exact prv_none h j (by omega)
theorem rfind_one (l : List Nat) (c : Nat) (j : Int) (h : 0 ≤ j) (hj : j ≤ l.length) : Txt.rfindIn (tx l) (tx [c]) 0 j = optI (prv l c j.toNat) := by
  have e1 : fromIndex (tx l).length 0 = 0 := by simp [fromIndex]
  have e2 : toIndexW (tx l).length j = j.toNat := by
    unfold toIndexW
    rw [if_neg (by omega), txl]
    omega
  have gen : ∀ n m : Nat, m ≤ n + 1 → (List.range' 0 m).foldl (fun acc i => if occP (tx l) (tx [c]) n i = true then some i else acc) none = prv l c (min m n) := by
    intro n m
    induction m with
    | zero => intro _; simp [prv]
    | succ m ih =>
      intro hm
      rw [List.range'_concat, List.foldl_append, ih (by omega)]
      simp only [List.foldl_cons, List.foldl_nil, occP_one, Nat.one_mul, Nat.zero_add]
      by_cases hmn : m + 1 ≤ n
      · rw [Nat.min_eq_left hmn, Nat.min_eq_left (by omega)]
        simp [prv, hmn]
      · rw [Nat.min_eq_right (by omega), Nat.min_eq_right (by omega)]
        simp [hmn]
  have eo : Builtin.Str.lastOccurrence (tx l) (tx [c]) 0 j.toNat = prv l c j.toNat := by
    rw [last_eq, Nat.sub_zero, gen _ _ (Nat.le_refl _), Nat.min_eq_right (Nat.le_succ _)]
  unfold Txt.rfindIn
  rw [e1, e2, eo]
  cases prv l c j.toNat <;> rfl
def nxtF : List Nat → Nat → Nat → Option Nat
  | [], _, _ => none
  | a :: r, c, k => if a = c then some k else nxtF r c (k + 1)
theorem nxtF_some : ∀ {l : List Nat} {c k j : Nat}, nxtF l c k = some j → k ≤ j ∧ l[j - k]? = some c ∧ ∀ i, i < j - k → l[i]? ≠ some c
  | [], c, k, j, h => by simp [nxtF] at h
  | a :: r, c, k, j, h => by
    unfold nxtF at h
    split at h
    · rename_i e
      cases h
      refine ⟨Nat.le_refl _, by simp [e], fun i hi => by omega⟩
    · rename_i e
      obtain ⟨h1, h2, h3⟩ := nxtF_some h
      refine ⟨by omega, ?_, fun i hi => ?_⟩
      · rw [show j - k = j - (k + 1) + 1 by omega]; simpa using h2
      · cases i with
        | zero => simpa using e
        | succ i => simpa using h3 i (by omega)
theorem nxtF_none : ∀ {l : List Nat} {c k : Nat}, nxtF l c k = none → ∀ i : Nat, l[i]? ≠ some c
  | [], c, k, h, i => by simp
  | a :: r, c, k, h, i => by
    unfold nxtF at h
    split at h
    · cases h
    · rename_i e
      cases i with
      | zero => simpa using e
      | succ i => simpa using nxtF_none h i
theorem nxt_fast (l : List Nat) (c s : Nat) : nxt l c s = nxtF (l.drop s) c s := by
  cases e : nxtF (l.drop s) c s with
  | none =>
    cases q : nxt l c s with
    | none => rfl
    | some k =>
      obtain ⟨h1, h2, _⟩ := nxt_some q
      have := nxtF_none e (k - s)
      rw [List.getElem?_drop, show s + (k - s) = k by omega] at this
      exact absurd h2 this
  | some k =>
    obtain ⟨h1, h2, h3⟩ := nxtF_some e
    rw [List.getElem?_drop, show s + (k - s) = k by omega] at h2
    refine nxt_is h1 h2 fun j a b => ?_
    have := h3 (j - s) (by omega)
    rw [List.getElem?_drop, show s + (j - s) = j by omega] at this
    exact this
def lastF : List Nat → Nat → Nat → Nat → Option Nat → Option Nat
  | _, _, _, 0, acc => acc
  | [], _, _, _, acc => acc
  | a :: r, c, k, n + 1, acc => lastF r c (k + 1) n (if a = c then some k else acc)
theorem lastF_eq (l : List Nat) (c : Nat) : ∀ (r : List Nat) (k n : Nat), l.drop k = r → n ≤ r.length → lastF r c k n (prv l c k) = prv l c (k + n)
  | r, k, 0, _, _ => by cases r <;> rfl
  | [], k, n + 1, _, h => by simp at h
  | a :: r, k, n + 1, e, h => by
    have ek : l[k]? = some a := by
      have := congrArg List.head? e
      rw [List.head?_drop] at this
      simpa using this
    have er : l.drop (k + 1) = r := by
      have := congrArg (List.drop 1) e
      rw [List.drop_drop] at this
      simpa using this
    have ep : (if a = c then some k else prv l c k) = prv l c (k + 1) := by
      conv => rhs; unfold prv
      rw [ek]
      by_cases q : a = c
      · rw [if_pos q, if_pos (by rw [q])]
      · rw [if_neg q, if_neg (by simpa using q)]
    show lastF r c (k + 1) n (if a = c then some k else prv l c k) = _
    rw [ep, lastF_eq l c r (k + 1) n er (by simpa using h)]
    congr 1
    omega
theorem prv_fast (l : List Nat) (c n : Nat) (h : n ≤ l.length) : prv l c n = lastF l c 0 n none := by
  have := lastF_eq l c l 0 n (by simp) h
  rw [show prv l c 0 = none from rfl, Nat.zero_add] at this
  exact this.symm
def find3f (a b : Str) (i : Int) : Int := match b.cps.toList with
  | [c] => if 0 ≤ i then optI (nxtF (a.cps.toList.drop i.toNat) c i.toNat) else Txt.find3 a b i
  | _ => Txt.find3 a b i
theorem find3f_eq (a b : Str) (i : Int) : find3f a b i = Txt.find3 a b i := by
  unfold find3f
  split
  · rename_i c e
    split
    · rename_i h
      have ea := Str.tx a
      have eb := Str.tx b
      rw [e] at eb
      rw [← nxt_fast, ← find3_one _ _ _ h, ← ea, ← eb]
    · rfl
  · rfl
def rfind4f (a b : Str) (i j : Int) : Int := match b.cps.toList with
  | [c] => if i = 0 ∧ 0 ≤ j ∧ j ≤ a.cps.toList.length then optI (lastF a.cps.toList c 0 j.toNat none) else Txt.rfindIn a b i j
  | _ => Txt.rfindIn a b i j
theorem rfind4f_eq (a b : Str) (i j : Int) : rfind4f a b i j = Txt.rfindIn a b i j := by
  unfold rfind4f
  split
  · rename_i c e
    split
    · rename_i h
      obtain ⟨h1, h2, h3⟩ := h
      have ea := Str.tx a
      have eb := Str.tx b
      rw [e] at eb
      subst h1
      rw [← prv_fast _ _ _ (by omega), ← rfind_one _ _ _ h2 h3, ← ea, ← eb]
    · rfl
  · rfl
def inF (x z : Str) : Bool := match x.cps.toList with
  | [c] => z.cps.toList.any fun d => decide (d = c)
  | _ => !(Builtin.Str.occurrences z x 0 z.length 1).isEmpty
theorem inF_eq (x z : Str) : inF x z = !(Builtin.Str.occurrences z x 0 z.length 1).isEmpty := by
  unfold inF
  split
  · rename_i c e
    have eb := Str.tx x
    rw [e] at eb
    rw [eb]
    refine Eq.trans ?_ (StrLaws.found_one z c).symm
    rw [Bool.eq_iff_iff, List.any_eq_true, decide_eq_true_eq]
    constructor
    · rintro ⟨d, hd, q⟩
      have q := of_decide_eq_true q
      rw [← q]; exact hd
    · intro h
      exact ⟨c, h, decide_eq_true rfl⟩
  · rfl
end QM
namespace QE
open PySem PySem.SeqAt
theorem dict_eq_declines_str (l : Addr) (es : Array DictEntry) (n : Nat) (dd : Option Addr) (sl : Array (Option Value)) (b : Str) (u : Tok) :
    Meets (Builtin.«dict.__eq__» ⟨[.ref l, .str b u], []⟩) (fun _ R s => s.heap.get? l = some { cls := .type "dict", dict := dd, data := .dict es n, slots := sl } ∧ R (.ok (.ret .notImplemented)) s) :=
  .of_wp fun prog w A R s h => by obtain ⟨hp, g, d, tk, os⟩ := s; obtain ⟨hl, h⟩ := h; have f1 := F.sub_str_dict; wp_walk using wpAny_loadPart' hl; exact ⟨_, rfl, h⟩
theorem str_eq_declines_dict (b : Str) (u : Tok) (l : Addr) (c : Value) (es : Array DictEntry) (n : Nat) (dd : Option Addr) (sl : Array (Option Value)) :
    Meets (Builtin.«str.__eq__» ⟨[.str b u, .ref l], []⟩) (fun _ R s => s.heap.get? l = some { cls := c, dict := dd, data := .dict es n, slots := sl } ∧ R (.ok (.ret .notImplemented)) s) :=
  .of_wp fun prog w A R s h => by obtain ⟨hp, g, d, tk, os⟩ := s; obtain ⟨hl, h⟩ := h; wp_walk using wpAny_loadPart' hl, wpAny_load hl; exact ⟨_, rfl, h⟩
theorem dict_ne_declines_str (l : Addr) (es : Array DictEntry) (n : Nat) (dd : Option Addr) (sl : Array (Option Value)) (b : Str) (u : Tok) :
    Meets (Builtin.«dict.__ne__» ⟨[.ref l, .str b u], []⟩) (fun _ R s => s.heap.get? l = some { cls := .type "dict", dict := dd, data := .dict es n, slots := sl } ∧ R (.ok (.ret .notImplemented)) s) :=
  .of_wp fun prog w A R s h => by obtain ⟨hp, g, d, tk, os⟩ := s; obtain ⟨hl, h⟩ := h; have f1 := F.sub_str_dict; wp_walk using wpAny_loadPart' hl; exact ⟨_, rfl, h⟩
theorem str_ne_declines_dict (b : Str) (u : Tok) (l : Addr) (c : Value) (es : Array DictEntry) (n : Nat) (dd : Option Addr) (sl : Array (Option Value)) :
    Meets (Builtin.«str.__ne__» ⟨[.str b u, .ref l], []⟩) (fun _ R s => s.heap.get? l = some { cls := c, dict := dd, data := .dict es n, slots := sl } ∧ R (.ok (.ret .notImplemented)) s) :=
  .of_wp fun prog w A R s h => by obtain ⟨hp, g, d, tk, os⟩ := s; obtain ⟨hl, h⟩ := h; wp_walk using wpAny_loadPart' hl, wpAny_load hl; exact ⟨_, rfl, h⟩
variable {A : Around} {s : Shared} {l : Addr} {es : Array DictEntry} {n : Nat} {dd : Option Addr} {sl : Array (Option Value)}
theorem rc_dict_str (b : Str) (u : Tok) (ho : s.heap.get? l = some { cls := .type "dict", dict := dd, data := .dict es n, slots := sl }) (hu : A.units < cLine) : RcAt A s (.ref l) (.str b u) false := fun prog w E Q h =>
  rc_eq_decline_or (k := false) ⟨_, ho, rfl⟩ (typeIs_str s b u) (by decide) F.sub_str_dict F.slot_dict_eq F.slot_str_eq_refl
    (fun _ hq => call_meets F.slot_dict_eq ⟨_, ho, rfl⟩ F.entry_dict_eq (F.args_dict_eq_2 _ _) (dict_eq_declines_str l es n dd sl b u) ⟨ho, hq⟩)
    (fun _ hq => call_meets F.slot_str_eq_refl (typeIs_str s b u) F.entry_str_eq (F.args_str_eq_2 _ _) (str_eq_declines_dict b u l (.type "dict") es n dd sl) ⟨ho, hq⟩)
    (fun _ hq => wpAny_of_eq (rfl : isSame (.ref l) (.str b u) = pure false) hq) (.inr hu) h
theorem rc_str_dict (b : Str) (u : Tok) (ho : s.heap.get? l = some { cls := .type "dict", dict := dd, data := .dict es n, slots := sl }) (hu : A.units < cLine) : RcAt A s (.str b u) (.ref l) false := fun prog w E Q h =>
  rc_eq_decline_or (k := false) (typeIs_str s b u) ⟨_, ho, rfl⟩ (by decide) F.sub_dict_str F.slot_str_eq F.slot_dict_eq_refl
    (fun _ hq => call_meets F.slot_str_eq (typeIs_str s b u) F.entry_str_eq (F.args_str_eq_2 _ _) (str_eq_declines_dict b u l (.type "dict") es n dd sl) ⟨ho, hq⟩)
    (fun _ hq => call_meets F.slot_dict_eq_refl ⟨_, ho, rfl⟩ F.entry_dict_eq (F.args_dict_eq_2 _ _) (dict_eq_declines_str l es n dd sl b u) ⟨ho, hq⟩)
    (fun _ hq => wpAny_of_eq (rfl : isSame (.str b u) (.ref l) = pure false) hq) (.inr hu) h
theorem rn_dict_str (b : Str) (u : Tok) (ho : s.heap.get? l = some { cls := .type "dict", dict := dd, data := .dict es n, slots := sl }) (hu : A.units < cLine) : RcNeAt A s (.ref l) (.str b u) true := fun prog w E Q h =>
  rc_ne_decline_or (k := false) ⟨_, ho, rfl⟩ (typeIs_str s b u) (by decide) F.sub_str_dict F.slot_dict_ne F.slot_str_ne_refl
    (fun _ hq => call_meets F.slot_dict_ne ⟨_, ho, rfl⟩ F.entry_dict_ne (F.args_dict_ne_2 _ _) (dict_ne_declines_str l es n dd sl b u) ⟨ho, hq⟩)
    (fun _ hq => call_meets F.slot_str_ne_refl (typeIs_str s b u) F.entry_str_ne (F.args_str_ne_2 _ _) (str_ne_declines_dict b u l (.type "dict") es n dd sl) ⟨ho, hq⟩)
    (fun _ hq => wpAny_of_eq (rfl : isSame (.ref l) (.str b u) = pure false) hq) (.inr hu) h
theorem rn_str_dict (b : Str) (u : Tok) (ho : s.heap.get? l = some { cls := .type "dict", dict := dd, data := .dict es n, slots := sl }) (hu : A.units < cLine) : RcNeAt A s (.str b u) (.ref l) true := fun prog w E Q h =>
  rc_ne_decline_or (k := false) (typeIs_str s b u) ⟨_, ho, rfl⟩ (by decide) F.sub_dict_str F.slot_str_ne F.slot_dict_ne_refl
    (fun _ hq => call_meets F.slot_str_ne (typeIs_str s b u) F.entry_str_ne (F.args_str_ne_2 _ _) (str_ne_declines_dict b u l (.type "dict") es n dd sl) ⟨ho, hq⟩)
    (fun _ hq => call_meets F.slot_dict_ne_refl ⟨_, ho, rfl⟩ F.entry_dict_ne (F.args_dict_ne_2 _ _) (dict_ne_declines_str l es n dd sl b u) ⟨ho, hq⟩)
    (fun _ hq => wpAny_of_eq (rfl : isSame (.str b u) (.ref l) = pure false) hq) (.inr hu) h
end QE
namespace QL
open PySem PySem.Spec L2
theorem ops_mul {K : PySem.W.Frag} : OpS K rMul dMul := by
  intro γ O H x y v w z Q ow hx hy e hq
  unfold dMul at e
  split at e
  · rename_i i j
    split at e
    · rename_i hl
      cases e
      simp only [RE, R] at hx hy
      exact .inl ⟨i, j, hx, hy, hl, hq _ (by simp [R])⟩
    · cases e
  · rename_i i j
    split at e
    · rename_i hl
      cases e
      simp only [RE, R] at hx hy
      exact .inr (.inl ⟨i, j, hx, hy, hl, hq _ (by simp [R])⟩)
    · cases e
  · rename_i i j
    split at e
    · rename_i hl
      cases e
      obtain ⟨a, vs, q1, q2, q3⟩ := hx.tracked
      simp only [RE, R] at hy
      have e2 : (2 : Int) ^ 40 = 1099511627776 := by decide
      have e3 : (2 : Int) ^ 63 = 9223372036854775808 := by decide
      obtain ⟨h1, h2, h3⟩ := hl
      rw [e2] at h2 h3
      exact .inr (.inr ⟨a, j, vs, q1, hy, q2, by rw [e3]; omega, by rw [e3]; omega, by rw [q3.len]; exact h1, fun p hp => hq p _ hp (q3.rep _)⟩)
    · cases e
  · cases e
def dFdiv : D → D → Option OV
  | .int i, .int j => if 0 < j ∧ j < 1000000000000000000000000000000 then some (.fz (.int (i / j))) else none
  | _, _ => none
theorem ops_fdiv {K : PySem.W.Frag} : OpS K (rI CDivW fun i j => .int (i / j)) dFdiv := by
  intro γ O H x y v w z Q ow hx hy e hq
  unfold dFdiv at e
  split at e
  · rename_i i j
    split at e
    · rename_i hl
      cases e
      simp only [RE, R] at hx hy
      have e2 : (2 : Nat) ^ 100 = 1267650600228229401496703205376 := by decide
      exact ⟨i, j, hx, hy, wide_div (b := 100) hl.1 (by rw [e2]; omega) (by decide) (by decide), hq _ (by simp [R])⟩
    · cases e
  · cases e
def dMod : D → D → Option OV
  | .int i, .int j => if 0 < j then some (.fz (.int (i % j))) else none
  | _, _ => none
theorem ops_mod {K : PySem.W.Frag} : OpS K (rI (fun _ j => 0 < j) fun i j => .int (i % j)) dMod := by
  intro γ O H x y v w z Q ow hx hy e hq
  unfold dMod at e
  split at e
  · rename_i i j
    split at e
    · rename_i hl
      cases e
      simp only [RE, R] at hx hy
      exact ⟨i, j, hx, hy, hl, hq _ (by simp [R])⟩
    · cases e
  · cases e
def CPowB (i j : Int) : Prop := 0 ≤ j ∧ (bitsI i : Int) * j ≤ 2 ^ 27
theorem op_powB {X : Cx} : OpR X (binaryOp .Pow) (rI CPowB fun i j => .int (i ^ j.toNat)) := opI fun _ _ _ _ _ _ _ hc q => PyProof.Rows.pow_int hc.1 hc.2 q
def dPow : D → D → Option OV
  | .int i, .int j => if 0 ≤ j ∧ (bitsI i : Int) * j ≤ 2 ^ 27 then some (.fz (.int (i ^ j.toNat))) else none
  | _, _ => none
theorem ops_pow {K : PySem.W.Frag} : OpS K (rI CPowB fun i j => .int (i ^ j.toNat)) dPow := by
  intro γ O H x y v w z Q ow hx hy e hq
  unfold dPow at e
  split at e
  · rename_i i j
    split at e
    · rename_i hl
      cases e
      simp only [RE, R] at hx hy
      exact ⟨i, j, hx, hy, hl, hq _ (by simp [R])⟩
    · cases e
  · cases e
def okD (d : D) : Bool := d.plain && decide (d.depth ≤ 60)
section
variable {K : PySem.W.Frag} {O : List Addr} {H : Hp}
mutual
theorem R.dp : ∀ (d : D) (v : V), d.plain = true → R K O H d v → Dp K H v d
  | .none, v, _, h => by simp only [R] at h; subst h; exact .non
  | .bool b, v, _, h => by simp only [R] at h; subst h; exact .bl b
  | .int b, v, _, h => by simp only [R] at h; subst h; exact .int b
  | .str b, v, _, h => by simp only [R] at h; subst h; exact .str b
  | .list ds, v, p, h => by
    simp only [R] at h
    obtain ⟨a, vs, e, n, q, h⟩ := h
    subst e
    exact .lst (.inl (.inl q)) (Rs.dp ds vs (by simpa [PyData.plain] using p) h)
  | .tuple ds, v, p, h => by
    simp only [R] at h
    obtain ⟨a, vs, e, q, h⟩ := h
    subst e
    exact .tup (.inl (.inl q)) (Rs.dp ds vs (by simpa [PyData.plain] using p) h)
  | .dict kvs, v, p, h => by simp [PyData.plain] at p
theorem Rs.dp : ∀ (ds : List D) (vs : List V), PyData.plainAll ds = true → Rs K O H ds vs → DpAll K H vs ds
  | [], vs, _, h => by simp only [Rs] at h; subst h; exact .nil
  | d :: ds, vs, p, h => by
    simp only [Rs] at h
    obtain ⟨v, ws, e, h1, h2⟩ := h
    subst e
    have p' : d.plain = true ∧ PyData.plainAll ds = true := by simpa [PyData.plainAll] using p
    exact .cons (R.dp d v p'.1 h1) (Rs.dp ds ws p'.2 h2)
end
end
def rEqQ (K : PySem.W.Frag) (f : Bool → Bool) : R2 := fun x y H Q => ∃ d e, Dp K H x d ∧ Dp K H y e ∧ okD d = true ∧ okD e = true ∧ Q (.bl (f (PyData.eqv d e))) H
/-- a dictionary that we hold in mind -/
def IsDc (H : Hp) (a : Addr) : Prop := (∃ ws, Rd H a (.dK ws)) ∨ (∃ ws, Rd H a (.dT ws))
def rEqX (K : PySem.W.Frag) (f : Bool → Bool) : R2 := fun x y H Q =>
  ((∃ a b, x = .ref a ∧ y = .str b ∧ IsDc H a) ∨ (∃ a b, x = .str b ∧ y = .ref a ∧ IsDc H a) ∨
   (∃ a b xs ys, x = .ref a ∧ y = .ref b ∧ SqL K H a xs ∧ SqL K H b ys ∧ xs.length ≠ ys.length) ∨
   (∃ a b xs ys, x = .ref a ∧ y = .ref b ∧ SqT K H a xs ∧ SqT K H b ys ∧ xs.length ≠ ys.length ∧ (xs = [] ∨ ys = []))) ∧ Q (.bl (f false)) H
def rEqP (K : PySem.W.Frag) (f : Bool → Bool) : R2 := fun x y H Q => rEqQ K f x y H Q ∨ rEqX K f x y H Q
theorem IsDc.obj {P : PySem.Program} {w : PySem.World} {h : Heap} {H : Hp} {a : Addr} (ok : HOk P w H h) (q : IsDc H a) : ∃ dd es n sl, h.get? a = some { cls := .type "dict", dict := dd, data := .dict es n, slots := sl } := by
  rcases q with ⟨ws, q⟩ | ⟨ws, q⟩
  · obtain ⟨_, hsys, xs, rel, o, es, ep, h1, h2, h3, _, h5, _⟩ := dk_rd ok q
    obtain ⟨cls, dd, data, sl⟩ := o
    cases h2.1
    cases h3
    exact ⟨dd, es, ep, sl, h1⟩
  · obtain ⟨_, hsys, xs, rel, o, es, ep, h1, h2, h3, h4, _, _⟩ := dt_rd ok q
    obtain ⟨cls, dd, data, sl⟩ := o
    cases h2.1
    cases h3
    exact ⟨dd, es, ep, sl, h1⟩
theorem sz_ne {xs ys : List V} {is js : List Value} (h1 : Vals xs is) (h2 : Vals ys js) (h : xs.length ≠ ys.length) : (is.toArray.size != js.toArray.size) = true := by
  have a := h1.length
  have b := h2.length
  rw [bne_iff_ne]
  simp only [List.size_toArray]
  omega
theorem min_0 {xs ys : List V} {is js : List Value} (h1 : Vals xs is) (h2 : Vals ys js) (h : xs = [] ∨ ys = []) : min is.toArray.size js.toArray.size = 0 := by
  have a := h1.length
  have b := h2.length
  simp only [List.size_toArray]
  rcases h with rfl | rfl
  · simp only [List.length_nil] at a; omega
  · simp only [List.length_nil] at b; omega
theorem okD_room {A : Around} {d e : D} (hd : okD d = true) (hu : A.units + 64 < cLine) : A.units + min d.depth e.depth < cLine := by
  unfold okD at hd
  simp only [Bool.and_eq_true, decide_eq_true_eq] at hd
  have := Nat.min_le_left d.depth e.depth
  omega
theorem okD_plain {d : D} (hd : okD d = true) : d.plain = true := by
  unfold okD at hd
  simp only [Bool.and_eq_true, decide_eq_true_eq] at hd
  exact hd.1
theorem op_eqQ {X : Cx} (hu : X.A.units + 64 < cLine) : OpR X (compareOp .Eq) (rEqQ X.K id) := by
  intro pins s σ H x y v u Q I rx ry h
  obtain ⟨d, e, hd, he, h1, h2, q⟩ := h
  obtain ⟨as, r1⟩ := Dp.reads I d x v hd rx
  obtain ⟨bs, r2⟩ := Dp.reads I e y u he ry
  exact SeqAt.eq_plain r1 r2 (okD_plain h1) (okD_plain h2) (okD_room h1 hu) ⟨.bl _, H, I, rfl, q⟩
theorem op_neQ {X : Cx} (hu : X.A.units + 64 < cLine) : OpR X (compareOp .NotEq) (rEqQ X.K not) := by
  intro pins s σ H x y v u Q I rx ry h
  obtain ⟨d, e, hd, he, h1, h2, q⟩ := h
  obtain ⟨as, r1⟩ := Dp.reads I d x v hd rx
  obtain ⟨bs, r2⟩ := Dp.reads I e y u he ry
  exact SeqAt.ne_plain r1 r2 (okD_plain h1) (okD_plain h2) (okD_room h1 hu) ⟨.bl _, H, I, rfl, q⟩
theorem op_eqX {X : Cx} (hu : X.A.units + 64 < cLine) : OpR X (compareOp .Eq) (rEqX X.K id) := by
  intro pins s σ H x y v u Q I rx ry h
  have hu' : X.A.units < cLine := by omega
  obtain ⟨h, q⟩ := h
  rcases h with ⟨a, b, rfl, rfl, hd⟩ | ⟨a, b, rfl, rfl, hd⟩ | ⟨a, b, xs, ys, rfl, rfl, h1, h2, h3⟩ | ⟨a, b, xs, ys, rfl, rfl, h1, h2, h3, h4⟩
  · cases (show v = Value.ref a from rx)
    obtain ⟨t, rfl⟩ := (show ∃ t, u = Value.str b t from ry)
    obtain ⟨dd, es, n, sl, ho⟩ := hd.obj I.hok
    exact QE.rc_dict_str b t ho hu' _ _ _ _ ⟨.bl _, H, I, rfl, q⟩
  · cases (show u = Value.ref a from ry)
    obtain ⟨t, rfl⟩ := (show ∃ t, v = Value.str b t from rx)
    obtain ⟨dd, es, n, sl, ho⟩ := hd.obj I.hok
    exact QE.rc_str_dict b t ho hu' _ _ _ _ ⟨.bl _, H, I, rfl, q⟩
  · cases (show v = Value.ref a from rx)
    cases (show u = Value.ref b from ry)
    obtain ⟨is, v1, ⟨o, n, e1, c1, _, d1⟩, _⟩ := I.list h1
    obtain ⟨js, v2, ⟨o2, n2, e2, c2, _, d2⟩, _⟩ := I.list h2
    exact SeqAt.RcAt.lists_lengths (items := is.toArray) (items2 := js.toArray) ⟨o, e1, c1, n, d1⟩ ⟨o2, e2, c2, n2, d2⟩ (sz_ne v1 v2 h3) hu' _ _ _ _ ⟨.bl _, H, I, rfl, q⟩
  · cases (show v = Value.ref a from rx)
    cases (show u = Value.ref b from ry)
    obtain ⟨is, v1, ⟨o, e1, c1, n, d1⟩, _⟩ := I.tuple h1
    obtain ⟨js, v2, ⟨o2, e2, c2, n2, d2⟩, _⟩ := I.tuple h2
    have z := min_0 v1 v2 h4
    have z2 := sz_ne v1 v2 h3
    have k := SeqAt.RcAt.tuples (A := X.A) (s := s) (items := is.toArray) (items2 := js.toArray) (e := fun _ => true) ⟨o, e1, c1, n, d1⟩ ⟨o2, e2, c2, n2, d2⟩ hu' (fun j p q => absurd z (by omega))
    rw [z, show (is.toArray.size == js.toArray.size) = false from by rw [bne, Bool.not_eq_true'] at z2; exact z2] at k
    exact k _ _ _ _ ⟨.bl _, H, I, rfl, q⟩
theorem op_neX {X : Cx} (hu : X.A.units + 64 < cLine) : OpR X (compareOp .NotEq) (rEqX X.K not) := by
  intro pins s σ H x y v u Q I rx ry h
  have hu' : X.A.units < cLine := by omega
  obtain ⟨h, q⟩ := h
  rcases h with ⟨a, b, rfl, rfl, hd⟩ | ⟨a, b, rfl, rfl, hd⟩ | ⟨a, b, xs, ys, rfl, rfl, h1, h2, h3⟩ | ⟨a, b, xs, ys, rfl, rfl, h1, h2, h3, h4⟩
  · cases (show v = Value.ref a from rx)
    obtain ⟨t, rfl⟩ := (show ∃ t, u = Value.str b t from ry)
    obtain ⟨dd, es, n, sl, ho⟩ := hd.obj I.hok
    exact QE.rn_dict_str b t ho hu' _ _ _ _ ⟨.bl _, H, I, rfl, q⟩
  · cases (show u = Value.ref a from ry)
    obtain ⟨t, rfl⟩ := (show ∃ t, v = Value.str b t from rx)
    obtain ⟨dd, es, n, sl, ho⟩ := hd.obj I.hok
    exact QE.rn_str_dict b t ho hu' _ _ _ _ ⟨.bl _, H, I, rfl, q⟩
  · cases (show v = Value.ref a from rx)
    cases (show u = Value.ref b from ry)
    obtain ⟨is, v1, ⟨o, n, e1, c1, _, d1⟩, _⟩ := I.list h1
    obtain ⟨js, v2, ⟨o2, n2, e2, c2, _, d2⟩, _⟩ := I.list h2
    exact SeqAt.RcNeAt.lists_lengths (items := is.toArray) (items2 := js.toArray) ⟨o, e1, c1, n, d1⟩ ⟨o2, e2, c2, n2, d2⟩ (sz_ne v1 v2 h3) hu' _ _ _ _ ⟨.bl _, H, I, rfl, q⟩
  · cases (show v = Value.ref a from rx)
    cases (show u = Value.ref b from ry)
    obtain ⟨is, v1, ⟨o, e1, c1, n, d1⟩, _⟩ := I.tuple h1
    obtain ⟨js, v2, ⟨o2, e2, c2, n2, d2⟩, _⟩ := I.tuple h2
    have z := min_0 v1 v2 h4
    have z2 := sz_ne v1 v2 h3
    have k := SeqAt.RcNeAt.tuples (A := X.A) (s := s) (items := is.toArray) (items2 := js.toArray) (e := fun _ => true) ⟨o, e1, c1, n, d1⟩ ⟨o2, e2, c2, n2, d2⟩ hu' (fun j p q => absurd z (by omega))
    rw [z, show (is.toArray.size == js.toArray.size) = false from by rw [bne, Bool.not_eq_true'] at z2; exact z2] at k
    exact k _ _ _ _ ⟨.bl _, H, I, rfl, q⟩
theorem op_eqP {X : Cx} (hu : X.A.units + 64 < cLine) : OpR X (compareOp .Eq) (rEqP X.K id) := OpR.or (op_eqQ hu) (op_eqX hu)
theorem op_neP {X : Cx} (hu : X.A.units + 64 < cLine) : OpR X (compareOp .NotEq) (rEqP X.K not) := OpR.or (op_neQ hu) (op_neX hu)
/-- .. told fast -/
def flat0 : D → Bool
  | .list _ => false
  | .dict _ => false
  | .tuple _ => false
  | _ => true
theorem flat0_ok {d : D} (h : flat0 d = true) : d.plain = true ∧ d.depth = 0 := by
  cases d with
  | list _ => cases h
  | dict _ => cases h
  | tuple _ => cases h
  | _ => exact ⟨rfl, rfl⟩
theorem flat0_all : ∀ {ds : List D}, ds.all flat0 = true → PyData.plainAll ds = true ∧ PyData.depthAll ds = 0
  | [], _ => ⟨rfl, rfl⟩
  | d :: ds, h => by
    simp only [List.all_cons, Bool.and_eq_true] at h
    obtain ⟨a, b⟩ := flat0_ok h.1
    obtain ⟨c, e⟩ := flat0_all h.2
    simp only [PyData.plainAll, PyData.depthAll, a, b, c, e]
    exact ⟨rfl, by simp⟩
def okF : D → Bool
  | .int _ => true
  | .str _ => true
  | .bool _ => true
  | .none => true
  | .list ds => if ds.all flat0 = true then true else okD (.list ds)
  | .tuple ds => if ds.all flat0 = true then true else okD (.tuple ds)
  | d => okD d
theorem okF_eq (d : D) : okF d = okD d := by
  cases d with
  | list ds =>
    show (if ds.all flat0 = true then true else okD (.list ds)) = _
    split
    · rename_i h
      obtain ⟨a, b⟩ := flat0_all h
      simp [okD, PyData.plain, PyData.depth, a, b]
    · rfl
  | tuple ds =>
    show (if ds.all flat0 = true then true else okD (.tuple ds)) = _
    split
    · rename_i h
      obtain ⟨a, b⟩ := flat0_all h
      simp [okD, PyData.plain, PyData.depth, a, b]
    · rfl
  | _ => rfl
def eq0 : D → D → Bool
  | .int i, .int j => decide (i = j)
  | .str x, .str y => decide (x.cps.toList = y.cps.toList)
  | x, y => PyData.eqv x y
theorem eq0_eq (x y : D) : eq0 x y = PyData.eqv x y := by
  unfold eq0
  split
  · rename_i i j
    show _ = (i == j)
    rw [Bool.eq_iff_iff]; simp
  · rename_i a b
    show _ = (a == b)
    rw [Bool.eq_iff_iff, decide_eq_true_eq, beq_iff_eq]
    constructor
    · intro h
      have ea := Str.tx a
      have eb := Str.tx b
      rw [ea, eb, h]
    · intro h; rw [h]
  · rfl
def eqL : List D → List D → Bool
  | [], [] => true
  | x :: xs, y :: ys => eq0 x y && eqL xs ys
  | _, _ => false
theorem eqL_eq : ∀ xs ys : List D, eqL xs ys = PyData.eqvAll xs ys
  | [], [] => by simp [eqL, PyData.eqvAll]
  | x :: xs, y :: ys => by simp [eqL, PyData.eqvAll, eqL_eq xs ys, eq0_eq]
  | [], y :: ys => by simp [eqL, PyData.eqvAll]
  | x :: xs, [] => by simp [eqL, PyData.eqvAll]
def eqF : D → D → Bool
  | .list x, .list y => eqL x y
  | .tuple x, .tuple y => eqL x y
  | x, y => eq0 x y
theorem eqF_eq (x y : D) : eqF x y = PyData.eqv x y := by
  unfold eqF
  split
  · rw [eqL_eq]; simp [PyData.eqv]
  · rw [eqL_eq]; simp [PyData.eqv]
  · exact eq0_eq _ _
/-- an object's data -/
def isOb : List (D × D) → Bool
  | (.list _, _) :: _ => true
  | _ => false
/-- a dict that is no object -/
class NoOb (kvs : List (D × D)) : Prop where
  h : isOb kvs = false
instance : NoOb [] := ⟨rfl⟩
instance {x : Str} {d : D} {r : List (D × D)} : NoOb ((.str x, d) :: r) := ⟨rfl⟩
instance {x : Int} {d : D} {r : List (D × D)} : NoOb ((.int x, d) :: r) := ⟨rfl⟩
instance {x : Bool} {d : D} {r : List (D × D)} : NoOb ((.bool x, d) :: r) := ⟨rfl⟩
instance {x : List D} {d : D} {r : List (D × D)} : NoOb ((.tuple x, d) :: r) := ⟨rfl⟩
theorem noOb {K : PySem.W.Frag} {O : List Addr} {H : Hp} {a : Addr} {kvs : List (D × D)} (h : isOb kvs = false) {P : Prop} (q : ∃ C dx ws, H a = some (.ins C dx ws) ∧ RO' K O H C kvs ws) : P := by
  obtain ⟨C, dx, ws, _, q⟩ := q
  cases kvs with
  | nil => simp only [RO'] at q
  | cons p r =>
    obtain ⟨k, d⟩ := p
    simp only [RO'] at q
    rw [q.1] at h
    cases h
/-- x == y, x != y -/
def unEq : D → D → Bool
  | .dict kvs, .str _ => !isOb kvs
  | .str _, .dict kvs => !isOb kvs
  | .list xs, .list ys => decide (xs.length ≠ ys.length)
  | .tuple xs, .tuple ys => decide (xs.length ≠ ys.length) && (decide (xs.length = 0) || decide (ys.length = 0))
  | _, _ => false
def dEqF (f : Bool → Bool) (x y : D) : Option OV := if okF x = true ∧ okF y = true then some (.fz (.bool (f (eqF x y)))) else if unEq x y = true then some (.fz (.bool (f false))) else none
abbrev dEq := dEqF id
abbrev dNe := dEqF not
theorem ops_eq {K : PySem.W.Frag} {f : Bool → Bool} : OpS K (rEqP K f) (dEqF f) := by
  intro γ O H x y v w z Q ow hx hy e hq
  unfold dEqF at e
  rw [okF_eq, okF_eq, eqF_eq] at e
  split at e
  · rename_i hl
    cases e
    exact .inl ⟨x, y, R.dp _ _ (okD_plain hl.1) (hx.all ow), R.dp _ _ (okD_plain hl.2) (hy.all ow), hl.1, hl.2, hq _ (by simp [R])⟩
  · split at e
    · rename_i hl
      cases e
      have hq' := hq (.bl (f false)) (by simp [R])
      refine .inr ⟨?_, hq'⟩
      unfold unEq at hl
      split at hl
      · simp only [RE, R] at hx hy
        obtain ⟨a, e, _, h⟩ := hx
        refine .inl ⟨a, _, e, hy, ?_⟩
        rcases h with ⟨ws, h, _⟩ | ⟨ws, h, _⟩ | h
        · exact .inl ⟨ws, h⟩
        · exact .inr ⟨ws, h⟩
        · exact noOb (by simpa using hl) h
      · simp only [RE, R] at hx hy
        obtain ⟨a, e, _, h⟩ := hy
        refine .inr (.inl ⟨a, _, hx, e, ?_⟩)
        rcases h with ⟨ws, h, _⟩ | ⟨ws, h, _⟩ | h
        · exact .inl ⟨ws, h⟩
        · exact .inr ⟨ws, h⟩
        · exact noOb (by simpa using hl) h
      · simp only [RE] at hx hy
        obtain ⟨a, vs, e, _, h1, h2⟩ := hx
        obtain ⟨b, ws, e', _, h3, h4⟩ := hy
        refine .inr (.inr (.inl ⟨a, b, vs, ws, e, e', .of h1, .of h3, ?_⟩))
        rw [h2.len, h4.len]
        exact of_decide_eq_true hl
      · rename_i p q
        simp only [RE, R] at hx hy
        obtain ⟨a, vs, e, h1, h2⟩ := hx
        obtain ⟨b, ws, e', h3, h4⟩ := hy
        simp only [Bool.and_eq_true, Bool.or_eq_true, decide_eq_true_eq] at hl
        refine .inr (.inr (.inr ⟨a, b, vs, ws, e, e', ?_, ?_, ?_, ?_⟩))
        · exact .inl (.inl h1)
        · exact .inl (.inl h3)
        · rw [h2.len, h4.len]; exact hl.1
        · rcases hl.2 with h | h
          · exact .inl (List.length_eq_zero_iff.mp (by rw [h2.len]; exact h))
          · exact .inr (List.length_eq_zero_iff.mp (by rw [h4.len]; exact h))
      · cases hl
    · cases e
/-- < <= > >= of ints, of texts -/
def dOrd (fi : Int → Int → Bool) (ft : List Nat → List Nat → Bool) : D → D → Option OV
  | .int i, .int j => some (.fz (.bool (fi i j)))
  | .str x, .str y => some (.fz (.bool (ft x.cps.toList y.cps.toList)))
  | _, _ => none
def rOrd (fi : Int → Int → Bool) (ft : List Nat → List Nat → Bool) : R2 := fun x y H Q => (rI0 fun i j => .bl (fi i j)) x y H Q ∨ (fun x y H Q => ∃ i j : Str, x = .str i ∧ y = .str j ∧ Q (.bl (ft i.cps.toList j.cps.toList)) H) x y H Q
theorem ops_ord {K : PySem.W.Frag} {fi : Int → Int → Bool} {ft : List Nat → List Nat → Bool} : OpS K (rOrd fi ft) (dOrd fi ft) := by
  intro γ O H x y v w z Q ow hx hy e hq
  unfold dOrd at e
  split at e
  · rename_i i j
    cases e
    simp only [RE, R] at hx hy
    exact .inl ⟨i, j, hx, hy, hq _ (by simp [R])⟩
  · rename_i i j
    cases e
    simp only [RE, R] at hx hy
    exact .inr ⟨i, j, hx, hy, hq _ (by simp [R])⟩
  · cases e
abbrev dLt := dOrd (fun i j => decide (i < j)) (fun x y => decide (x < y))
abbrev dLe := dOrd (fun i j => decide (i ≤ j)) (fun x y => !decide (y < x))
abbrev dGt := dOrd (fun i j => decide (j < i)) (fun x y => decide (y < x))
abbrev dGe := dOrd (fun i j => decide (j ≤ i)) (fun x y => !decide (x < y))
theorem op_ltA {X : Cx} : OpR X (compareOp .Lt) (rOrd (fun i j => decide (i < j)) (fun x y => decide (x < y))) := OpR.or op_lt op_lt_str
theorem op_leA {X : Cx} : OpR X (compareOp .LtE) (rOrd (fun i j => decide (i ≤ j)) (fun x y => !decide (y < x))) := OpR.or op_le op_le_str
theorem op_gtA {X : Cx} : OpR X (compareOp .Gt) (rOrd (fun i j => decide (j < i)) (fun x y => decide (y < x))) := OpR.or op_gt op_gt_str
theorem op_geA {X : Cx} : OpR X (compareOp .GtE) (rOrd (fun i j => decide (j ≤ i)) (fun x y => !decide (x < y))) := OpR.or op_ge op_ge_str
/-- x in y: of a text, a list, a tuple -/
def strIn (x z : Str) : Bool := QM.inF x z
def dInF (f : Bool → Bool) : D → D → Option OV
  | .str x, .str z => some (.fz (.bool (f (strIn x z))))
  | x, .list ds => if okF x = true ∧ okF (.list ds) = true then some (.fz (.bool (f (ds.any fun y => eqF y x)))) else none
  | x, .tuple ds => if okF x = true ∧ okF (.tuple ds) = true then some (.fz (.bool (f (ds.any fun y => eqF y x)))) else none
  | _, _ => none
abbrev dNotIn := dInF not
def rInP (K : PySem.W.Frag) (f : Bool → Bool) : R2 := fun x y H Q => (∃ i j : Str, x = .str i ∧ y = .str j ∧ Q (.bl (f (strIn i j))) H) ∨
  (∃ d ds, Dp K H x d ∧ (Dp K H y (.list ds) ∨ Dp K H y (.tuple ds)) ∧ okD d = true ∧ okD (.list ds) = true ∧ Q (.bl (f (ds.any fun z => PyData.eqv z d))) H)
theorem okD_in {A : Around} {d : D} {ds : List D} (h : okD (.list ds) = true) (hu : A.units + 64 < cLine) : PyData.plainAll ds = true ∧ A.units + 1 + min (PyData.depthAll ds) d.depth < cLine := by
  unfold okD at h
  simp only [PyData.plain, PyData.depth, Bool.and_eq_true, decide_eq_true_eq] at h
  have := Nat.min_le_left (PyData.depthAll ds) d.depth
  obtain ⟨h1, h2⟩ := h
  have h3 := of_decide_eq_true h2
  exact ⟨h1, by omega⟩
theorem okD_tup (ds : List D) : okD (.tuple ds) = okD (.list ds) := by simp [okD, PyData.plain, PyData.depth]
theorem op_notInP {X : Cx} (hu : X.A.units + 64 < cLine) : OpR X (compareOp .NotIn) (rInP X.K not) := by
  intro pins s σ H x y v u Q I rx ry h
  rcases h with ⟨i, j, e1, e2, q⟩ | ⟨d, ds, hd, he, h1, h2, q⟩
  · exact op_notin_str pins s σ H x y v u Q I rx ry ⟨i, j, e1, e2, by rw [← QM.inF_eq]; exact q⟩
  · obtain ⟨as, r1⟩ := Dp.reads I d x v hd rx
    obtain ⟨hp, hr⟩ := okD_in (d := d) h2 hu
    rcases he with he | he
    · obtain ⟨bs, r2⟩ := Dp.reads I _ y u he ry
      exact SeqAt.notIn_list_data r2 r1 hp (okD_plain h1) hr ⟨.bl _, H, I, rfl, q⟩
    · obtain ⟨bs, r2⟩ := Dp.reads I _ y u he ry
      exact SeqAt.notIn_tuple_data r2 r1 hp (okD_plain h1) hr ⟨.bl _, H, I, rfl, q⟩
theorem ops_in {K : PySem.W.Frag} {f : Bool → Bool} : OpS K (rInP K f) (dInF f) := by
  intro γ O H x y v w z Q ow hx hy e hq
  unfold dInF at e
  split at e
  · rename_i i j
    cases e
    simp only [RE, R] at hx hy
    exact .inl ⟨i, j, hx, hy, hq _ (by simp [R])⟩
  · rename_i ds
    simp only [okF_eq, eqF_eq] at e
    split at e
    · rename_i hl
      cases e
      exact .inr ⟨x, ds, R.dp _ _ (okD_plain hl.1) (hx.all ow), .inl (R.dp _ _ (okD_plain hl.2) (hy.all ow)), hl.1, hl.2, hq _ (by simp [R])⟩
    · cases e
  · rename_i ds
    simp only [okF_eq, eqF_eq] at e
    split at e
    · rename_i hl
      cases e
      exact .inr ⟨x, ds, R.dp _ _ (okD_plain hl.1) (hx.all ow), .inr (R.dp _ _ (okD_plain hl.2) (hy.all ow)), hl.1, by rw [← okD_tup]; exact hl.2, hq _ (by simp [R])⟩
    · cases e
  · cases e
/-- is None, is True -/
def isD (x y : D) : Option Bool := match x, y with
  | .none, .none => some true
  | _, .none => some false
  | .bool a, .bool b => some (decide (a = b))
  | _, _ => none
def dIsF (f : Bool → Bool) (x y : D) : Option OV := (isD x y).map fun b => .fz (.bool (f b))
abbrev dIs := dIsF id
abbrev dIsNot := dIsF not
def rIsF (f : Bool → Bool) : R2 := fun x y H Q => (y = .non ∧ Q (.bl (f (decide (x = .non)))) H) ∨ (∃ a b, x = .bl a ∧ y = .bl b ∧ Q (.bl (f (decide (a = b)))) H)
theorem op_isA {X : Cx} : OpR X (compareOp .Is) (rIsF id) := OpR.or op_isN op_is_bl
theorem op_isNotA {X : Cx} : OpR X (compareOp .IsNot) (rIsF not) := OpR.or op_notN op_isnot_bl
def isN : D → Bool
  | .none => true
  | _ => false
theorem RE.non_iff {K : PySem.W.Frag} {γ : Gh} {O : List Addr} {H : Hp} {x : D} {v : V} (h : RE K γ O H x v) : decide (v = .non) = isN x := by
  cases x with
  | none => simp only [RE, R] at h; subst h; rfl
  | bool _ => simp only [RE, R] at h; subst h; rfl
  | int _ => simp only [RE, R] at h; subst h; rfl
  | str _ => simp only [RE, R] at h; subst h; rfl
  | list _ => obtain ⟨a, vs, e, _⟩ := h; subst e; rfl
  | tuple _ => simp only [RE, R] at h; obtain ⟨a, vs, e, _⟩ := h; subst e; rfl
  | dict _ => obtain ⟨a, e, _⟩ := h; subst e; rfl
theorem ops_is {K : PySem.W.Frag} {f : Bool → Bool} : OpS K (rIsF f) (dIsF f) := by
  intro γ O H x y v w z Q ow hx hy e hq
  unfold dIsF at e
  simp only [Option.map_eq_some_iff] at e
  obtain ⟨b, e1, e2⟩ := e
  subst e2
  have q := hq (.bl (f b)) (by simp [R])
  have nn := hx.non_iff
  unfold isD at e1
  split at e1
  · cases e1
    simp only [RE, R] at hy
    exact .inl ⟨hy, by rw [nn]; exact q⟩
  · rename_i hne
    cases e1
    simp only [RE, R] at hy
    refine .inl ⟨hy, ?_⟩
    have : isN x = false := by
      cases x with
      | none => exact absurd rfl hne
      | _ => rfl
    rw [nn, this]; exact q
  · rename_i a b' 
    cases e1
    simp only [RE, R] at hx hy
    exact .inr ⟨a, b', hx, hy, q⟩
  · cases e1
section
variable {X : Cx} {W : WX} {e a b c : Expr} {ta tb tc : TE} {fa fb fc : S → Res D} {F : S → Res SV} {pos : Pos}
/-- a < b <= c -/
def fChain (op op' : D → D → Option OV) (fa fb fc : S → Res D) : S → Res SV := fun r => (fa r).bind fun x r => (fb r).bind fun y r => match op x y with
  | some (.fz (.bool true)) => (fc r).bind fun z r => ovR (op' y z) r
  | some (.fz (.bool false)) => .ok (.fz (.bool false)) r
  | _ => .bad
theorem ex_chain {o o' : CmpOp} {rr rr' : R2} {op op' : D → D → Option OV} (ho : OpR X (compareOp o) rr) (hs : OpS X.K rr op) (ho' : OpR X (compareOp o') rr') (hs' : OpS X.K rr' op') (ha : BX X W a ta fa) (hb : BX X W b tb fb) (hc : BX X W c tc fc)
    (hm : PE X (.Compare a [o, o'] [b, c] pos) (tChain rr rr' ta tb tc)) : EX X W (.Compare a [o, o'] [b, c] pos) (tChain rr rr' ta tb tc) (fChain op op' fa fb fc) := by
  refine ⟨hm, fun γ Oc r σ H fs g => ?_⟩
  refine SimAt.bind (t2 := fun x H1 Q => tb σ H1 fun y H2 => rr x y H2 fun z H3 => ∃ k, z = .bl k ∧ (if k = true then tc σ H3 fun w' H4 => rr' y w' H4 Q else Q (.bl false) H3)) (ha.sim γ Oc r σ H fs g) fun d r1 v H1 ⟨fs1, g1, v1, s1⟩ => ?_
  refine SimAt.tr s1 (SimAt.bind (t2 := fun y H2 Q => rr v y H2 fun z H3 => ∃ k, z = .bl k ∧ (if k = true then tc σ H3 fun w' H4 => rr' y w' H4 Q else Q (.bl false) H3)) (hb.sim γ Oc r1 σ H1 fs1 g1) fun d2 r2 w H2 ⟨fs2, g2, v2, s2⟩ => ?_)
  refine SimAt.tr s2 fun Q => ?_
  split
  · rename_i x r' eq
    intro hq
    split at eq
    · rename_i q
      refine hs γ (fs2 ++ Oc) H2 d d2 v w _ _ g2.ow (v1.keep g1 s2) v2 q fun u hu => ?_
      simp only [R] at hu
      refine ⟨true, hu, ?_⟩
      rw [if_pos rfl]
      have z : SimAt X.K X.mg W (PV X.K) γ Oc σ H2 fs2 (fun Q => tc σ H2 fun w' H4 => rr' w w' H4 Q) ((fc r2).bind fun z r => ovR (op' d2 z) r) := by
        refine SimAt.bind (t2 := fun y H3 Q => rr' w y H3 Q) (hc.sim γ Oc r2 σ H2 fs2 g2) fun d3 r3 w3 H3 ⟨fs3, g3, v3, s3⟩ => ?_
        refine SimAt.tr s3 fun Q => ?_
        unfold ovR
        cases q : op' d2 d3 with
        | none => trivial
        | some z => exact fun hq => hs' γ (fs3 ++ Oc) H3 d2 d3 w w3 z Q g3.ow (v2.keep g2 s3) v3 q (ovq_of g3 hq)
      have z2 := z Q
      rw [eq] at z2
      exact z2 hq
    · rename_i q
      cases eq
      refine hs γ (fs2 ++ Oc) H2 d d2 v w _ _ g2.ow (v1.keep g1 s2) v2 q fun u hu => ?_
      simp only [R] at hu
      refine ⟨false, hu, ?_⟩
      rw [if_neg (by simp)]
      exact hq _ _ ⟨fs2, [], g2, ⟨by simp [R], rfl⟩, Stp.refl _ _ _, by simp⟩
    · cases eq
  · rename_i c f r' eq
    intro hw
    split at eq
    · rename_i q
      refine hs γ (fs2 ++ Oc) H2 d d2 v w _ _ g2.ow (v1.keep g1 s2) v2 q fun u hu => ?_
      simp only [R] at hu
      refine ⟨true, hu, ?_⟩
      rw [if_pos rfl]
      have z : SimAt X.K X.mg W (PV X.K) γ Oc σ H2 fs2 (fun Q => tc σ H2 fun w' H4 => rr' w w' H4 Q) ((fc r2).bind fun z r => ovR (op' d2 z) r) := by
        refine SimAt.bind (t2 := fun y H3 Q => rr' w y H3 Q) (hc.sim γ Oc r2 σ H2 fs2 g2) fun d3 r3 w3 H3 ⟨fs3, g3, v3, s3⟩ => ?_
        refine SimAt.tr s3 fun Q => ?_
        unfold ovR
        cases q : op' d2 d3 with
        | none => trivial
        | some z => exact fun hq => hs' γ (fs3 ++ Oc) H3 d2 d3 w w3 z Q g3.ow (v2.keep g2 s3) v3 q (ovq_of g3 hq)
      have z2 := z Q
      rw [eq] at z2
      exact z2 hw
    · cases eq
    · cases eq
  · trivial
/-- -a -/
def dNeg : D → Option OV
  | .int i => some (.fz (.int (-i)))
  | _ => none
def fOp1 (op : D → Option OV) (fa : S → Res D) : S → Res SV := fun r => (fa r).bind fun x r => ovR (op x) r
/-- a one-place reading -/
def Op1S (K : PySem.W.Frag) (rr : V → Hp → VK → Prop) (op : D → Option OV) : Prop :=
  ∀ (γ : Gh) (O : List Addr) (H : Hp) (x : D) (v : V) (z : OV) (Q : VK), Own O H → RE K γ O H x v → op x = some z → OVQ K O H z Q → rr v H Q
theorem sim_op1 {K : PySem.W.Frag} {mg : Str → Option Value} {rr : V → Hp → VK → Prop} {op : D → Option OV} (ho : Op1S K rr op) (ha : Sim K mg W (PB K) ta fa) : Sim K mg W (PV K) (fun σ H Q => ta σ H fun x H1 => rr x H1 Q) (fOp1 op fa) := by
  intro γ Oc r σ H fs g
  refine SimAt.bind (t2 := fun x H1 Q => rr x H1 Q) (ha γ Oc r σ H fs g) fun d r1 v H1 ⟨fs1, g1, v1, s1⟩ => ?_
  refine SimAt.tr s1 fun Q => ?_
  unfold ovR
  cases q : op d with
  | none => trivial
  | some z => exact fun hq => ho γ (fs1 ++ Oc) H1 d v z Q g1.ow v1 q (ovq_of g1 hq)
theorem ex_neg (ha : BX X W a ta fa) : EX X W (.UnaryOp .USub a pos) (tUn (rU fun i => .int (-i)) ta) (fOp1 dNeg fa) := by
  refine ⟨pe_un un_neg ha.pe, sim_op1 (rr := rU fun i => .int (-i)) (fun γ O H x v z Q ow hx e hq => ?_) ha.sim⟩
  unfold dNeg at e
  split at e
  · rename_i i
    cases e
    simp only [RE, R] at hx
    exact ⟨i, hx, hq _ (by simp [R])⟩
  · cases e
/-- a value True, False as a test -/
def tV (F : S → Res D) : S → Res Bool := fun r => (F r).bind fun d r => match d with
  | .bool b => .ok b r
  | _ => .bad
theorem tx_val (h : BX X W e ta fa) (he : ∀ whole, isTrue e X.env whole = (do let v ← whole; standAt e.pos; holding [v] (truthy v)) := by intro _; rfl) : TX X W e (tB ta) (tV fa) := by
  refine ⟨pt_val h.pe he, fun γ Oc r σ H fs g => ?_⟩
  refine SimAt.bind (t2 := fun x H1 Q => ∃ c, x = .bl c ∧ Q c H1) (h.sim γ Oc r σ H fs g) fun d r1 v H1 ⟨fs1, g1, v1, s1⟩ => ?_
  refine SimAt.tr s1 fun Q => ?_
  cases d with
  | bool b =>
    simp only [RE, R] at v1
    exact fun hq => ⟨b, v1, hq b H1 ⟨fs1, g1, rfl, Stp.refl _ _ _⟩⟩
  | _ => trivial
def tNotF (F : S → Res Bool) : S → Res Bool := fun r => (F r).bind fun b r => .ok (!b) r
def tAndF (F G : S → Res Bool) : S → Res Bool := fun r => (F r).bind fun b r => if b then G r else .ok false r
def tOrF (F G : S → Res Bool) : S → Res Bool := fun r => (F r).bind fun b r => if b then .ok true r else G r
variable {tA tB' : TT} {FA FB : S → Res Bool} {rest : List Expr}
theorem sim_tnot {K : PySem.W.Frag} {mg : Str → Option Value} (h : Sim K mg W (PTt K) tA FA) : Sim K mg W (PTt K) (tNot tA) (tNotF FA) := by
  intro γ Oc r σ H fs g
  refine SimAt.bind (t2 := fun c H1 Q => Q (!c) H1) (h γ Oc r σ H fs g) fun b r1 c H1 ⟨fs1, g1, v1, s1⟩ => ?_
  exact SimAt.tr s1 fun Q hq => hq _ _ ⟨fs1, g1, by rw [v1], Stp.refl _ _ _⟩
theorem sim_tand {K : PySem.W.Frag} {mg : Str → Option Value} (h : Sim K mg W (PTt K) tA FA) (h' : Sim K mg W (PTt K) tB' FB) : Sim K mg W (PTt K) (tAnd tA tB') (tAndF FA FB) := by
  intro γ Oc r σ H fs g
  refine SimAt.bind (t2 := fun c H1 Q => if c = true then tB' σ H1 Q else Q false H1) (h γ Oc r σ H fs g) fun b r1 c H1 ⟨fs1, g1, v1, s1⟩ => ?_
  refine SimAt.tr s1 ?_
  subst v1
  cases c with
  | true => exact h' γ Oc r1 σ H1 fs1 g1
  | false => exact fun Q hq => hq _ _ ⟨fs1, g1, rfl, Stp.refl _ _ _⟩
theorem sim_tor {K : PySem.W.Frag} {mg : Str → Option Value} (h : Sim K mg W (PTt K) tA FA) (h' : Sim K mg W (PTt K) tB' FB) : Sim K mg W (PTt K) (tOr tA tB') (tOrF FA FB) := by
  intro γ Oc r σ H fs g
  refine SimAt.bind (t2 := fun c H1 Q => if c = true then Q true H1 else tB' σ H1 Q) (h γ Oc r σ H fs g) fun b r1 c H1 ⟨fs1, g1, v1, s1⟩ => ?_
  refine SimAt.tr s1 ?_
  subst v1
  cases c with
  | false => exact h' γ Oc r1 σ H1 fs1 g1
  | true => exact fun Q hq => hq _ _ ⟨fs1, g1, rfl, Stp.refl _ _ _⟩
theorem tx_not (h : TX X W a tA FA) : TX X W (.UnaryOp .Not a pos) (tNot tA) (tNotF FA) := ⟨pt_not h.pe, sim_tnot h.sim⟩
/-- a chain of and, or, as a test -/
structure WXt (X : Cx) (W : WX) (e : Expr) (t : TT) (F : S → Res Bool) : Prop where
  pe : PW X e t
  sim : Sim X.K X.mg W (PTt X.K) t F
theorem WXt.t (h : WXt X W e tA FA) : TX X W e tA FA := ⟨h.pe.pt, h.sim⟩
theorem wx_and1 (h : TX X W a tA FA) : WXt X W (.BoolOp .And [a] pos) tA FA := ⟨pw_and1 h.pe, h.sim⟩
theorem wx_or1 (h : TX X W a tA FA) : WXt X W (.BoolOp .Or [a] pos) tA FA := ⟨pw_or1 h.pe, h.sim⟩
theorem wx_and (h : TX X W a tA FA) (h' : WXt X W (.BoolOp .And (b :: rest) pos) tB' FB) : WXt X W (.BoolOp .And (a :: b :: rest) pos) (tAnd tA tB') (tAndF FA FB) := ⟨pw_and h.pe h'.pe, sim_tand h.sim h'.sim⟩
theorem wx_or (h : TX X W a tA FA) (h' : WXt X W (.BoolOp .Or (b :: rest) pos) tB' FB) : WXt X W (.BoolOp .Or (a :: b :: rest) pos) (tOr tA tB') (tOrF FA FB) := ⟨pw_or h.pe h'.pe, sim_tor h.sim h'.sim⟩
def eAndF (fa : S → Res D) (G : S → Res SV) : S → Res SV := fun r => (fa r).bind fun x r => match x with
  | .bool true => G r
  | .bool false => Res.ok (SV.fz (PyData.bool false)) r
  | _ => Res.bad
def eOrF (fa : S → Res D) (G : S → Res SV) : S → Res SV := fun r => (fa r).bind fun x r => match x with
  | .bool false => G r
  | .bool true => Res.ok (SV.fz (PyData.bool true)) r
  | _ => Res.bad
def eNotF (fa : S → Res D) : S → Res SV := fun r => (fa r).bind fun x r => match x with
  | .bool b => Res.ok (SV.fz (PyData.bool (!b))) r
  | _ => Res.bad
theorem ex_one {op} (h : EX X W a ta F) : EX X W (.BoolOp op [a] pos) ta F := ⟨pe_one h.pe, h.sim⟩
theorem ex_and {G : S → Res SV} (h : BX X W a ta fa) (h' : EX X W (.BoolOp .And (b :: rest) pos) tb G) : EX X W (.BoolOp .And (a :: b :: rest) pos) (tAndV ta tb) (eAndF fa G) := by
  refine ⟨pe_and h.pe h'.pe, fun γ Oc r σ H fs g => ?_⟩
  refine SimAt.bind (t2 := fun x H1 Q => ∃ c, x = .bl c ∧ if c = true then tb σ H1 Q else Q (.bl false) H1) (h.sim γ Oc r σ H fs g) fun d r1 v H1 ⟨fs1, g1, v1, s1⟩ => ?_
  refine SimAt.tr s1 ?_
  cases d with
  | bool b =>
    simp only [RE, R] at v1
    cases b with
    | true =>
      exact (h'.sim γ Oc r1 σ H1 fs1 g1).imp fun Q z => ⟨true, v1, by rw [if_pos rfl]; exact z⟩
    | false => exact fun Q hq => ⟨false, v1, by rw [if_neg (by simp)]; exact hq _ _ ⟨fs1, [], g1, ⟨by simp [R], rfl⟩, Stp.refl _ _ _, by simp⟩⟩
  | _ => exact fun Q => trivial
/-- a if t else b -/
def eIfF (T : S → Res Bool) (F G : S → Res SV) : S → Res SV := fun r => (T r).bind fun b r => if b then F r else G r
theorem ex_if {F G : S → Res SV} (hc : TX X W c tA FA) (ha : EX X W a ta F) (hb : EX X W b tb G) : EX X W (.IfExp c a b pos) (tIf tA ta tb) (eIfF FA F G) := by
  refine ⟨pe_ifExp hc.pe ha.pe hb.pe, fun γ Oc r σ H fs g => ?_⟩
  refine SimAt.bind (t2 := fun c H1 Q => if c = true then ta σ H1 Q else tb σ H1 Q) (hc.sim γ Oc r σ H fs g) fun b r1 c H1 ⟨fs1, g1, v1, s1⟩ => ?_
  refine SimAt.tr s1 ?_
  subst v1
  cases c with
  | true => exact ha.sim γ Oc r1 σ H1 fs1 g1
  | false => exact hb.sim γ Oc r1 σ H1 fs1 g1
end
end QL
namespace QL
open PySem PySem.Spec L2
section
variable {X : Cx} {W : WX} {e a b c : Expr} {es : List Expr} {ta tb tc : TE} {tl : TA} {fa fb fc : S → Res D} {F : S → Res SV} {FL : S → Res (List D)} {pos : Pos}
def aNil : S → Res (List D) := fun r => .ok [] r
def aCons (fa : S → Res D) (F : S → Res (List D)) : S → Res (List D) := fun r => (fa r).bind fun d r => (F r).bind fun ds r => .ok (d :: ds) r
theorem ax_nil : AX X W [] tNil aNil := ⟨pa_nil, fun γ Oc r σ H fs g Q hq => hq [] H ⟨fs, g, by simp [Rs], Stp.refl _ _ _⟩⟩
theorem ax_cons (h : FX X W e ta fa) (h' : AX X W es tl FL) (hs : starEach (e :: es) X.env = (false, eval e X.env) :: starEach es X.env := by rfl) : AX X W (e :: es) (tCons ta tl) (aCons fa FL) := by
  refine ⟨pa_cons h.pe h'.pe hs, fun γ Oc r σ H fs g => ?_⟩
  refine SimAt.bind (t2 := fun x H1 Q => tl σ H1 fun xs H2 => Q (x :: xs) H2) (h.sim γ Oc r σ H fs g) fun d r1 v H1 ⟨fs1, g1, v1, s1⟩ => ?_
  refine SimAt.tr s1 (SimAt.bind (t2 := fun xs H2 Q => Q (v :: xs) H2) (h'.sim γ Oc r1 σ H1 fs1 g1) fun ds r2 vs H2 ⟨fs2, g2, v2, s2⟩ => ?_)
  refine SimAt.tr s2 fun Q hq => hq _ _ ⟨fs2, g2, ?_, Stp.refl _ _ _⟩
  simp only [Rs]
  exact ⟨v, vs, rfl, R.stab g1.ow (g1.stabSub s2) _ _ v1, v2⟩
def eLst (F : S → Res (List D)) : S → Res SV := fun r => (F r).bind fun ds r => if ds.length ≤ sizeLine then .ok (.ol ds) r else .bad
def eTup (F : S → Res (List D)) : S → Res SV := fun r => (F r).bind fun ds r => if ds.length ≤ sizeLine then .ok (.fz (.tuple ds)) r else .bad
theorem ex_lst (h : AX X W es tl FL) : EX X W (.List es pos) (tLst tl) (eLst FL) := by
  refine ⟨pe_lst h.pe, fun γ Oc r σ H fs g => ?_⟩
  refine SimAt.bind (t2 := fun (xs : List V) (H1 : Hp) (Q : VK) => xs.length ≤ sizeLine ∧ ∀ p, H1 p = none → Q (V.ref p) (upd H1 p (HO.lst xs))) (h.sim γ Oc r σ H fs g) fun ds r1 vs H1 ⟨fs1, g1, v1, s1⟩ => ?_
  refine SimAt.tr s1 ?_
  split
  · rename_i hl
    intro Q hq
    exact ⟨by rw [v1.len]; exact hl, fun p hp => ovq_of (z := .nl ds) g1 hq p vs hp v1⟩
  · exact fun Q => trivial
theorem ex_tup {tp : Option Expr} (h : AX X W es tl FL) (hp : PE X e (tTup tl)) : EX X W e (tTup tl) (eTup FL) := by
  refine ⟨hp, fun γ Oc r σ H fs g => ?_⟩
  refine SimAt.bind (t2 := fun (xs : List V) (H1 : Hp) (Q : VK) => xs.length ≤ sizeLine ∧ ∀ p, H1 p = none → Q (V.ref p) (upd H1 p (HO.tup xs))) (h.sim γ Oc r σ H fs g) fun ds r1 vs H1 ⟨fs1, g1, v1, s1⟩ => ?_
  refine SimAt.tr s1 ?_
  split
  · rename_i hl
    intro Q hq
    exact ⟨by rw [v1.len]; exact hl, fun p hp => ovq_of (z := .nt ds) g1 hq p vs hp v1⟩
  · exact fun Q => trivial
/-- {} -/
def eDK : S → Res SV := fun r => .ok (.od []) r
def eDT : S → Res SV := fun r => .ok (.ot []) r
theorem ex_dk : EX X W (.Dict [] [] pos) tDNewK eDK := by
  refine ⟨pe_dnewK, fun γ Oc r σ H fs g Q hq p hp => ?_⟩
  exact ovq_of (z := .nd []) g hq p [] hp (by simp [RK])
def dIx : D → D → Option OV
  | .list ds, .int i => (atI ds i).map .fz
  | .tuple ds, .int i => (atI ds i).map .fz
  | .str z, .int i => if z.length ≤ sizeLine then (atI z.cps.toList i).map fun c => .fz (.str (tx [c])) else none
  | _, _ => none
theorem ops_ix {K : PySem.W.Frag} : OpS K (rIx K) dIx := by
  intro γ O H x y v w z Q ow hx hy e hq
  unfold dIx at e
  split at e
  · rename_i ds i
    simp only [Option.map_eq_some_iff] at e
    obtain ⟨d, e1, e2⟩ := e
    subst e2
    obtain ⟨a, vs, q1, q2, q3⟩ := hx.tracked
    simp only [RE, R] at hy
    obtain ⟨u, h1, h2⟩ := q3.at e1
    exact .inl ⟨a, vs, i, u, q1, hy, .inl (.inl q2), h1, hq u h2⟩
  · rename_i ds i
    simp only [Option.map_eq_some_iff] at e
    obtain ⟨d, e1, e2⟩ := e
    subst e2
    simp only [RE, R] at hx hy
    obtain ⟨a, vs, q1, q2, q3⟩ := hx
    obtain ⟨u, h1, h2⟩ := q3.at e1
    exact .inr (.inl ⟨a, vs, i, u, q1, hy, TupAt.sq q2, h1, hq u h2⟩)
  · rename_i s i
    split at e
    · rename_i hl
      simp only [Option.map_eq_some_iff] at e
      obtain ⟨c, e1, e2⟩ := e
      subst e2
      simp only [RE, R] at hx hy
      exact .inr (.inr ⟨s, i, c, hx, hy, hl, e1, hq _ (by simp [R]; rfl)⟩)
    · cases e
  · cases e
theorem ex_ix (ha : BX X W a ta fa) (hb : BX X W b tb fb) (hs : PlainIx b) : EX X W (.Subscript a b pos) (tOp (rIx X.K) ta tb) (fOp dIx fa fb) :=
  ⟨pe_ix ix_seq ha.pe hb.pe hs, sim_op ops_ix ha.sim hb.sim⟩
def cutL {α : Type} (xs : List α) (lo hi : Option Int) : List α := (xs.drop (HT.sIx xs.length 0 lo)).take (HT.sIx xs.length xs.length hi - HT.sIx xs.length 0 lo)
def dSl (x : D) (lo hi : Option Int) : Option OV := match x with
  | .list ds => some (.nl (cutL ds lo hi))
  | .str z => if z.length ≤ sizeLine then some (.fz (.str (tx (cutL z.cps.toList lo hi)))) else none
  | .tuple ds => if HT.sIx ds.length 0 lo = 0 ∧ HT.sIx ds.length ds.length hi = ds.length then some (.fz (.tuple ds)) else some (.nt (cutL ds lo hi))
  | _ => none
/-- a slice's part -/
structure OX (X : Cx) (W : WX) (e : Option Expr) (t : TO) (F : S → Res (Option Int)) : Prop where
  pe : PO X e t
  sim : Sim X.K X.mg W (fun γ Oc r' σ H fs H' (b : Option Int) (c : Option Int) => ∃ fs', Good X.K γ Oc r' σ H' fs' ∧ c = b ∧ Stp γ.T fs H fs' H') t F
def oNon : S → Res (Option Int) := fun r => .ok none r
def oSom (fa : S → Res D) : S → Res (Option Int) := fun r => (fa r).bind fun d r => match d with
  | .int i => Res.ok (some i) r
  | _ => Res.bad
theorem ox_none : OX X W none tNoPart oNon := ⟨po_none, fun γ Oc r σ H fs g Q hq => hq _ _ ⟨fs, g, rfl, Stp.refl _ _ _⟩⟩
theorem ox_some (h : BX X W e ta fa) : OX X W (some e) (tPart ta) (oSom fa) := by
  refine ⟨po_some h.pe, fun γ Oc r σ H fs g => ?_⟩
  refine SimAt.bind (t2 := fun (x : V) H1 (Q : Option Int → Hp → Prop) => ∃ i, x = V.int i ∧ Q (some i) H1) (h.sim γ Oc r σ H fs g) fun d r1 v H1 ⟨fs1, g1, v1, s1⟩ => ?_
  intro Q
  cases d with
  | int i =>
    simp only [RE, R] at v1
    exact fun hq => ⟨i, v1, hq _ _ ⟨fs1, g1, rfl, s1⟩⟩
  | _ => trivial
def rSl (K : PySem.W.Frag) : V → Option Int → Option Int → Hp → VK → Prop := fun x lo hi H Q => rSlL K x lo hi H Q ∨ rSlS x lo hi H Q ∨ rSlA K x lo hi H Q
theorem sl_any : SlR X (rSl X.K) := SlR.or sl_list (SlR.or sl_str sl_tupA)
def fSl (fa : S → Res D) (fl fh : S → Res (Option Int)) : S → Res SV := fun r => (fa r).bind fun x r => (fl r).bind fun l r => (fh r).bind fun h r => ovR (dSl x l h) r
theorem Rs.cut {K : PySem.W.Frag} {O : List Addr} {H : Hp} {ds : List D} {vs : List V} (h : Rs K O H ds vs) (lo hi : Option Int) : Rs K O H (cutL ds lo hi) (cutV vs lo hi) := by
  unfold cutL cutV
  rw [h.len]
  exact (h.drop _).take _
theorem ex_sl {lo hi : Option Expr} {tlo thi : TO} {fl fh : S → Res (Option Int)} {p2 : Pos} (ha : BX X W a ta fa) (hl : OX X W lo tlo fl) (hh : OX X W hi thi fh) : EX X W (.Subscript a (.Slice lo hi none p2) pos) (tSl (rSl X.K) ta tlo thi) (fSl fa fl fh) := by
  refine ⟨pe_slice sl_any ha.pe hl.pe hh.pe, fun γ Oc r σ H fs g => ?_⟩
  refine SimAt.bind (t2 := fun x H1 Q => tlo σ H1 fun l H2 => thi σ H2 fun u H3 => rSl X.K x l u H3 Q) (ha.sim γ Oc r σ H fs g) fun d r1 v H1 ⟨fs1, g1, v1, s1⟩ => ?_
  refine SimAt.tr s1 (SimAt.bind (t2 := fun l H2 Q => thi σ H2 fun u H3 => rSl X.K v l u H3 Q) (hl.sim γ Oc r1 σ H1 fs1 g1) fun l r2 l' H2 ⟨fs2, g2, v2, s2⟩ => ?_)
  refine SimAt.tr s2 (SimAt.bind (t2 := fun u H3 Q => rSl X.K v l' u H3 Q) (hh.sim γ Oc r2 σ H2 fs2 g2) fun u r3 u' H3 ⟨fs3, g3, v3, s3⟩ => ?_)
  refine SimAt.tr s3 fun Q => ?_
  subst v2 v3
  have vv := (v1.keep g1 s2).keep g2 s3
  unfold ovR
  cases q : dSl d l' u' with
  | none => trivial
  | some z =>
    intro hq
    have hq := ovq_of g3 hq
    unfold dSl at q
    cases d with
    | list ds =>
      cases q
      obtain ⟨p, vs, q1, q2, q3⟩ := vv.tracked
      exact .inl ⟨p, vs, q1, .inl (.inl q2), fun p hp => hq p _ hp (q3.cut _ _)⟩
    | str s =>
      simp only at q
      split at q
      · rename_i hl
        cases q
        simp only [RE, R] at vv
        exact .inr (.inl ⟨s, vv, hl, hq _ (by simp only [R]; rfl)⟩)
      · cases q
    | tuple ds =>
      simp only [RE, R] at vv
      obtain ⟨p, vs, q1, q2, q3⟩ := vv
      refine .inr (.inr ⟨p, vs, q1, TupAt.sq q2, fun h => ?_, fun h => ?_⟩)
      · rw [q3.len] at h
        simp only [h, and_self, if_true] at q
        cases q
        exact hq _ (by simp only [R]; exact ⟨p, vs, rfl, q2, q3⟩)
      · rw [q3.len] at h
        simp only [if_neg h] at q
        cases q
        exact fun p' hp => hq p' _ hp (q3.cut _ _)
    | _ => cases q
def dRev : D → Option OV
  | .list ds => some (.nl ds.reverse)
  | .str z => if z.length ≤ sizeLine then some (.fz (.str (tx z.cps.toList.reverse))) else none
  | _ => none
end
end QL
namespace QL
open PySem PySem.Spec L2
inductive RS where
  | nx (s : S) | bk (s : S) | ct (s : S) | rt (v : SV) (s : S) | exc (c : Str) (f : List (Str × D)) (s : S) | bad
def Res.bindS {α : Type} (r : Res α) (k : α → S → RS) : RS :=
  match r with
  | .ok a s => k a s
  | .exc c f s => .exc c f s
  | .bad => .bad
variable (K : PySem.W.Frag) (mg : Str → Option Value)
def NP (γ : Gh) (Oc : List Addr) (r' : S) (H : Hp) (fs : List Addr) (σ' : St) (H' : Hp) : Prop := ∃ fs', Good K γ Oc r' σ' H' fs' ∧ Evo fs H fs' H'
def RP (γ : Gh) (Oc : List Addr) (r' : S) (H : Hp) (fs : List Addr) (x : SV) (v : V) (H' : Hp) : Prop :=
  ∃ σ' fs' fp, Good K γ (fp ++ Oc) r' σ' H' fs' ∧ SVR K γ (fs' ++ (fp ++ Oc)) H' x v fp ∧ Evo fs H (fs' ++ fp) H'
def XPs (γ : Gh) (Oc : List Addr) (r' : S) (H : Hp) (fs : List Addr) (σ' : St) (H' : Hp) (c : Str) (f : List (Str × D)) (C : Addr) (d : Option Addr) : Prop :=
  ∃ fs', Good K γ Oc r' σ' H' fs' ∧ Evo fs H fs' H' ∧ mg c = some (.ref C) ∧ XR K (fs' ++ Oc) H' f d
def SimSAt (W : WX) (γ : Gh) (Oc : List Addr) (H : Hp) (fs : List Addr) (t : Ends → Prop) (R : RS) : Prop :=
  ∀ E : Ends, match R with
    | .nx r' => (∀ σ' H', NP K γ Oc r' H fs σ' H' → E.nx σ' H') → t E
    | .bk r' => (∀ σ' H', NP K γ Oc r' H fs σ' H' → E.bk σ' H') → t E
    | .ct r' => (∀ σ' H', NP K γ Oc r' H fs σ' H' → E.ct σ' H') → t E
    | .rt x r' => (∀ v H', RP K γ Oc r' H fs x v H' → E.rt v H') → t E
    | .exc c f r' => (∀ C d σ' H', XPs K mg γ Oc r' H fs σ' H' c f C d → W (.ref C) d σ' H') → t E
    | .bad => True
def SimS (W : WX) (t : TS) (F : S → RS) : Prop :=
  ∀ γ Oc r σ H fs, Good K γ Oc r σ H fs → SimSAt K mg W γ Oc H fs (fun E => t E σ H) (F r)
section
variable {K : PySem.W.Frag} {mg : Str → Option Value} {W : WX} {γ : Gh} {Oc : List Addr} {r r1 r2 : S} {σ : St} {H H' H1 H2 : Hp} {fs fs1 fp : List Addr}
theorem NP.tr {r' : S} {σ' : St} (s : Evo fs H fs1 H1) (h : NP K γ Oc r' H1 fs1 σ' H') : NP K γ Oc r' H fs σ' H' := by
  obtain ⟨f, g, e⟩ := h
  exact ⟨f, g, s.trans e⟩
theorem RP.tr {r' : S} {x : SV} {v : V} (s : Evo fs H fs1 H1) (h : RP K γ Oc r' H1 fs1 x v H') : RP K γ Oc r' H fs x v H' := by
  obtain ⟨σ', f, p, g, z, e⟩ := h
  exact ⟨σ', f, p, g, z, s.trans e⟩
theorem XPs.tr {r' : S} {σ' : St} {c : Str} {f : List (Str × D)} {C : Addr} {d : Option Addr} (s : Evo fs H fs1 H1) (h : XPs K mg γ Oc r' H1 fs1 σ' H' c f C d) : XPs K mg γ Oc r' H fs σ' H' c f C d := by
  obtain ⟨f, g, e, z⟩ := h
  exact ⟨f, g, s.trans e, z⟩
theorem XP.ps {r' : S} {c : Str} {f : List (Str × D)} {C : Addr} {d : Option Addr} (h : XP K mg γ Oc r' σ H fs H' c f C d) : XPs K mg γ Oc r' H fs σ H' c f C d := by
  obtain ⟨f, g, e, z⟩ := h
  exact ⟨f, g, e.evo, z⟩
theorem SimSAt.tr {t : Ends → Prop} {R : RS} (s : Evo fs H fs1 H1) (h : SimSAt K mg W γ Oc H1 fs1 t R) : SimSAt K mg W γ Oc H fs t R := by
  intro E
  have z := h E
  cases R with
  | bad => trivial
  | nx r' => exact fun q => z fun σ' H' p => q _ _ (p.tr s)
  | bk r' => exact fun q => z fun σ' H' p => q _ _ (p.tr s)
  | ct r' => exact fun q => z fun σ' H' p => q _ _ (p.tr s)
  | rt x r' => exact fun q => z fun σ' H' p => q _ _ (p.tr s)
  | exc c f r' => exact fun q => z fun C d σ' H' p => q _ _ _ _ (p.tr s)
theorem SimSAt.imp {t t' : Ends → Prop} {R : RS} (h : SimSAt K mg W γ Oc H fs t R) (hi : ∀ E, t E → t' E) : SimSAt K mg W γ Oc H fs t' R := by
  intro E
  have z := h E
  cases R with
  | bad => trivial
  | nx r' => exact fun q => hi _ (z q)
  | bk r' => exact fun q => hi _ (z q)
  | ct r' => exact fun q => hi _ (z q)
  | rt x r' => exact fun q => hi _ (z q)
  | exc c f r' => exact fun q => hi _ (z q)
/-- an expression ahead of a statement's end -/
theorem SimSAt.bindE {α β : Type} {P : Pst α β} {t1 : (β → Hp → Prop) → Prop} {t2 : β → Hp → Ends → Prop} {x : Res α} {F2 : α → S → RS}
    (h1 : SimAt K mg W P γ Oc σ H fs t1 x) (h2 : ∀ a r1 y H1, P γ Oc r1 σ H fs H1 a y → SimSAt K mg W γ Oc H fs (t2 y H1) (F2 a r1)) :
    SimSAt K mg W γ Oc H fs (fun E => t1 fun y H1 => t2 y H1 E) (x.bindS F2) := by
  intro E
  cases x with
  | bad => trivial
  | exc c f r' => exact fun hw => h1 _ fun C d H' p => hw C d σ H' p.ps
  | ok a r1 =>
    have eb : (Res.ok a r1).bindS F2 = F2 a r1 := rfl
    rw [eb]
    have k := fun y H1 p => h2 a r1 y H1 p E
    generalize F2 a r1 = z at k ⊢
    cases z with
    | bad => trivial
    | nx r' => exact fun q => h1 _ fun y H1 p => k y H1 p q
    | bk r' => exact fun q => h1 _ fun y H1 p => k y H1 p q
    | ct r' => exact fun q => h1 _ fun y H1 p => k y H1 p q
    | rt x r' => exact fun q => h1 _ fun y H1 p => k y H1 p q
    | exc c f r' => exact fun q => h1 _ fun y H1 p => k y H1 p q
/-- count's way to "no address twice" -/
theorem nd_of {l l' : List Addr} (h : ∀ a, l'.count a ≤ l.count a) (n : l.Nodup) : l'.Nodup :=
  List.nodup_iff_count.mpr fun a => Nat.le_trans (h a) (List.nodup_iff_count.mp n a)
/-- a value goes into a slot -/
theorem Good.store {x : SV} {v : V} {i : Nat} (g : Good K γ (fp ++ Oc) r σ H fs) (hv : SVR K γ (fs ++ (fp ++ Oc)) H x v fp) (hi : i < r.sl.length) :
    ∃ fs', Good K γ Oc { r with sl := r.sl.set i (some x) } (σ.set i (some v)) H fs' ∧ ∀ a ∈ fs', a ∈ fs ∨ a ∈ fp := by
  obtain ⟨⟨f1, f2, e, sl, tp⟩, nd, ow, tt⟩ := g
  obtain ⟨a1, a2, a3, e2, _, hset, _⟩ := sl.upd hi
  have sub : ∀ a ∈ ((a1 ++ (fp ++ a3)) ++ f2) ++ Oc, a ∈ fs ++ (fp ++ Oc) := fun a z => by
    rw [e, e2]
    simp only [List.mem_append] at z ⊢
    rcases z with ((z | z | z) | z) | z <;> simp [z]
  have st : Stab (fs ++ (fp ++ Oc)) H (((a1 ++ (fp ++ a3)) ++ f2) ++ Oc) H := Stab.weak sub fun _ _ z => z
  refine ⟨(a1 ++ (fp ++ a3)) ++ f2, ⟨⟨_, f2, rfl, hset ow st (fun _ _ => rfl) (hv.stab ow st fun _ _ => rfl), tp⟩, ?_, ow.mono sub, tt⟩, fun a z => ?_⟩
  · refine nd_of (fun a => ?_) nd
    rw [e, e2]
    simp only [List.count_append]
    omega
  · rw [e, e2]
    simp only [List.mem_append] at z ⊢
    rcases z with (z | z | z) | z <;> simp [z]
/-- a slot's value is taken out -/
theorem Good.take {x : SV} {i : Nat} (g : Good K γ Oc r σ H fs) (h : r.sl[i]? = some (some x)) :
    ∃ v fs' fp, σ[i]? = some (some v) ∧ Good K γ (fp ++ Oc) { r with sl := r.sl.set i none } σ H fs' ∧ SVR K γ (fs' ++ (fp ++ Oc)) H x v fp ∧ ∀ a ∈ fs' ++ fp, a ∈ fs := by
  obtain ⟨⟨f1, f2, e, sl, tp⟩, nd, ow, tt⟩ := g
  have hi : i < r.sl.length := (List.getElem?_eq_some_iff.mp h).1
  obtain ⟨a1, a2, a3, e2, hy, _, hlet⟩ := sl.upd hi
  obtain ⟨v, e3, hv⟩ := hy _ h
  have sub : ∀ a ∈ ((a1 ++ a3) ++ f2) ++ (a2 ++ Oc), a ∈ fs ++ Oc := fun a z => by
    rw [e, e2]
    simp only [List.mem_append] at z ⊢
    rcases z with ((z | z) | z) | z | z <;> simp [z]
  have st : Stab (fs ++ Oc) H (((a1 ++ a3) ++ f2) ++ (a2 ++ Oc)) H := Stab.weak sub fun _ _ z => z
  refine ⟨v, (a1 ++ a3) ++ f2, a2, e3, ⟨⟨_, f2, rfl, hlet ow st fun _ _ => rfl, tp⟩, ?_, ow.mono sub, tt⟩, hv.stab ow st fun _ _ => rfl, fun a z => ?_⟩
  · refine nd_of (fun a => ?_) nd
    rw [e, e2]
    simp only [List.count_append]
    omega
  · rw [e, e2]
    simp only [List.mem_append] at z ⊢
    rcases z with ((z | z) | z) | z <;> simp [z]
end
/-- a statement: its rule and its mirror -/
structure SX (X : Cx) (W : WX) (st : Stmt) (t : TS) (F : S → RS) : Prop where
  ps : PS X st t
  sim : SimS X.K X.mg W t F
structure SSX (X : Cx) (W : WX) (st : List Stmt) (t : TS) (F : S → RS) : Prop where
  ps : PSs X st t
  sim : SimS X.K X.mg W t F
/-- a target -/
structure GX (X : Cx) (tg : Expr) (g : TG) (G : D → S → Option S) : Prop where
  pg : PG X tg g
  sim : ∀ γ Oc r σ H fs d v r', Good X.K γ Oc r σ H fs → R X.K (fs ++ Oc) H d v → G d r = some r' → ∀ Q, (∀ σ' fs', Good X.K γ Oc r' σ' H fs' → (∀ a ∈ fs', a ∈ fs) → Q σ' H) → g v σ H Q
section
variable {X : Cx} {W : WX} {e a b c : Expr} {es : List Expr} {st : Stmt} {rest : List Stmt} {ta tb tc : TE} {tl : TA} {tA : TT} {fa fb fc : S → Res D} {F G : S → Res SV} {B B2 : S → RS} {FA : S → Res Bool} {t u : TS} {pos : Pos}
def sNext : S → RS := fun r => .nx r
def sBad : S → RS := fun _ => .bad
def RS.go (x : RS) (k : S → RS) : RS := match x with
  | .nx r => k r
  | .bk r => .bk r
  | .ct r => .ct r
  | .rt v r => .rt v r
  | .exc c f r => .exc c f r
  | .bad => .bad
def sSeq (F G : S → RS) : S → RS := fun r => (F r).go G
theorem sim_seq {K : PySem.W.Frag} {mg : Str → Option Value} (h1 : SimS K mg W t B) (h2 : SimS K mg W u B2) : SimS K mg W (tSeq t u) (sSeq B B2) := by
  intro γ Oc r σ H fs g E
  have z := h1 γ Oc r σ H fs g { E with nx := u E }
  unfold sSeq
  cases e : B r with
  | bad => trivial
  | bk r' => rw [e] at z; exact z
  | ct r' => rw [e] at z; exact z
  | rt x r' => rw [e] at z; exact z
  | exc c f r' => rw [e] at z; exact z
  | nx r' =>
    rw [e] at z
    have k := fun σ' H' fs' g' (v : Evo fs H fs' H') => SimSAt.tr v (h2 γ Oc r' σ' H' fs' g') E
    have eg : (RS.nx r').go B2 = B2 r' := rfl
    rw [eg]
    generalize B2 r' = y at k ⊢
    cases y with
    | bad => trivial
    | nx r2 => exact fun q => z fun σ' H' ⟨fs', g', v⟩ => k σ' H' fs' g' v q
    | bk r2 => exact fun q => z fun σ' H' ⟨fs', g', v⟩ => k σ' H' fs' g' v q
    | ct r2 => exact fun q => z fun σ' H' ⟨fs', g', v⟩ => k σ' H' fs' g' v q
    | rt x r2 => exact fun q => z fun σ' H' ⟨fs', g', v⟩ => k σ' H' fs' g' v q
    | exc c f r2 => exact fun q => z fun σ' H' ⟨fs', g', v⟩ => k σ' H' fs' g' v q
theorem sim_next {K : PySem.W.Frag} {mg : Str → Option Value} : SimS K mg W tNext sNext := fun γ Oc r σ H fs g E q => q σ H ⟨fs, g, Evo.refl _ _⟩
theorem ssx_nil : SSX X W [] tNext sNext := ⟨pss_nil, sim_next⟩
theorem ssx_one (h : SX X W st t B) : SSX X W [st] t B := ⟨pss_one h.ps, h.sim⟩
theorem ssx_cons (h : SX X W st t B) (h2 : SSX X W rest u B2) : SSX X W (st :: rest) (tSeq t u) (sSeq B B2) := ⟨pss_cons h.ps h2.ps, sim_seq h.sim h2.sim⟩
/-- an expression as a statement -/
def sExp (F : S → Res SV) : S → RS := fun r => (F r).bindS fun _ r => .nx r
theorem sx_expr (h : EX X W e ta F) (hs : swapsWith e none pos.line X.env = pure false := by rfl) : SX X W (.Expr e pos) (tDrop ta) (sExp F) := by
  refine ⟨ps_expr h.pe hs, fun γ Oc r σ H fs g => ?_⟩
  refine SimSAt.bindE (t2 := fun (y : V) (H1 : Hp) (E : Ends) => E.nx σ H1) (h.sim γ Oc r σ H fs g) fun x r1 y H1 p => ?_
  obtain ⟨fs', fp, g', v', s, n⟩ := p
  exact fun E q => q _ _ ⟨fs', g'.drop, s.evo⟩
/-- return -/
def sRet (F : S → Res SV) : S → RS := fun r => (F r).bindS fun x r => .rt x r
theorem sx_ret (h : EX X W e ta F) : SX X W (.Return (some e) pos) (tRet ta) (sRet F) := by
  refine ⟨ps_ret h.pe, fun γ Oc r σ H fs g => ?_⟩
  refine SimSAt.bindE (t2 := fun (y : V) (H1 : Hp) (E : Ends) => E.rt y H1) (h.sim γ Oc r σ H fs g) fun x r1 y H1 p => ?_
  obtain ⟨fs', fp, g', v', s, n⟩ := p
  refine fun E q => q _ _ ⟨σ, fs', fp, g', v', ⟨fun a h => ?_, fun a o e hn ht => s.keep a o e (fun _ => hn) ht, s.there, s.tb⟩⟩
  rcases List.mem_append.mp h with h | h
  · exact .inl (s.sub a h)
  · exact .inr (n a h)
def sRetN : S → RS := fun r => .rt (.fz .none) r
/-- return x: what the name owns goes along -/
def sRetV (i : Nat) : S → RS := fun r => match r.sl[i]? with
  | some (some x) => .rt x { r with sl := r.sl.set i none }
  | _ => .bad
theorem sx_retV {i : Nat} (h : PE X e (tVar i)) : SX X W (.Return (some e) pos) (tRet (tVar i)) (sRetV i) := by
  refine ⟨ps_ret h, fun γ Oc r σ H fs g E => ?_⟩
  unfold sRetV
  cases q : r.sl[i]? with
  | none => trivial
  | some o =>
    cases o with
    | none => trivial
    | some x =>
      intro hq
      obtain ⟨v, fs', fp, e1, g', v', sub⟩ := g.take q
      exact ⟨v, e1, hq _ _ ⟨σ, fs', fp, g', v', fun a h => .inl (sub a h), fun a o z _ _ => z, fun a z => z, fun _ z => z⟩⟩
/-- if -/
def sIf (T : S → Res Bool) (A B : S → RS) : S → RS := fun r => (T r).bindS fun b r => if b then A r else B r
theorem sx_if {p q : List Stmt} (hc : TX X W c tA FA) (h1 : SSX X W p t B) (h2 : SSX X W q u B2) : SX X W (.If c p q pos) (tIfS tA t u) (sIf FA B B2) := by
  refine ⟨ps_if hc.pe h1.ps h2.ps, fun γ Oc r σ H fs g => ?_⟩
  refine SimSAt.bindE (t2 := fun (c : Bool) (H1 : Hp) (E : Ends) => if c = true then t E σ H1 else u E σ H1) (hc.sim γ Oc r σ H fs g) fun b r1 c H1 ⟨fs1, g1, v1, s1⟩ => ?_
  refine SimSAt.tr s1.evo ?_
  subst v1
  cases c with
  | true => exact h1.sim γ Oc r1 σ H1 fs1 g1
  | false => exact h2.sim γ Oc r1 σ H1 fs1 g1
/-- a slot is set -/
def setS (i : Nat) (x : SV) (r : S) : RS := if i < r.sl.length then .nx { r with sl := r.sl.set i (some x) } else .bad
def sAsg (i : Nat) (F : S → Res SV) : S → RS := fun r => (F r).bindS fun x r => setS i x r
theorem sim_setS {K : PySem.W.Frag} {mg : Str → Option Value} {γ : Gh} {Oc fs fp fs0 : List Addr} {r : S} {σ : St} {H H0 : Hp} {i : Nat} {x : SV} {v : V} (g : Good K γ (fp ++ Oc) r σ H fs) (hv : SVR K γ (fs ++ (fp ++ Oc)) H x v fp) (s : Evo fs0 H0 (fs ++ fp) H) :
    SimSAt K mg W γ Oc H0 fs0 (fun E => E.nx (σ.set i (some v)) H) (setS i x r) := by
  unfold setS
  split
  · rename_i hi
    intro E q
    obtain ⟨fs', g', sub⟩ := g.store hv hi
    refine q _ _ ⟨fs', g', fun a h => s.sub a ?_, @Evo.keep _ _ _ _ s, s.there, s.tb⟩
    exact List.mem_append.mpr (sub a h)
  · exact fun E => trivial
theorem Stp.evo2 {T : Option Addr} {fs fs' fp : List Addr} {H H' : Hp} (s : Stp T fs H fs' H') (n : ∀ a ∈ fp, H a = Option.none) : Evo fs H (fs' ++ fp) H' :=
  ⟨fun a h => (List.mem_append.mp h).elim (fun z => .inl (s.sub a z)) fun z => .inr (n a z), fun a o e hn ht => s.keep a o e (fun _ => hn) ht, s.there, s.tb⟩
theorem sx_asg {i : Nat} {tg : Expr} (h : EX X W e ta F) (hp : PS X (.Assign [tg] e pos) (tAsg ta (gName i))) : SX X W (.Assign [tg] e pos) (tAsg ta (gName i)) (sAsg i F) := by
  refine ⟨hp, fun γ Oc r σ H fs g => ?_⟩
  refine SimSAt.bindE (t2 := fun (y : V) (H1 : Hp) (E : Ends) => E.nx (σ.set i (some y)) H1) (h.sim γ Oc r σ H fs g) fun x r1 y H1 p => ?_
  obtain ⟨fs', fp, g', v', s, n⟩ := p
  exact sim_setS g' v' (s.evo2 n)
end
section
variable {K : PySem.W.Frag} {mg : Str → Option Value} {W : WX} {γ : Gh} {Oc Oc' : List Addr} {r r1 r2 : S} {σ : St} {H H' H1 H2 : Hp} {fs fs1 fp : List Addr}
theorem SVR.mono {O O' : List Addr} {x : SV} {v : V} (ow : Own O H) (s : ∀ a ∈ O', a ∈ O) (h : SVR K γ O H x v fp) : SVR K γ O' H x v fp := h.stab ow (Stab.weak s fun _ _ z => z) fun _ _ => rfl
def SVRs (K : PySem.W.Frag) (γ : Gh) (O : List Addr) (H : Hp) : List SV → List V → List Addr → Prop
  | [], vs, fp => vs = [] ∧ fp = []
  | x :: xs, vs, fp => ∃ v ws f1 f2, vs = v :: ws ∧ fp = f1 ++ f2 ∧ SVR K γ O H x v f1 ∧ SVRs K γ O H xs ws f2
theorem SVRs.stab {O O' : List Addr} (ow : Own O H) (st : Stab O H O' H') : ∀ {xs : List SV} {vs : List V} {fp : List Addr}, (∀ a ∈ fp, H' a = H a) → SVRs K γ O H xs vs fp → SVRs K γ O' H' xs vs fp
  | [], vs, fp, _, h => h
  | x :: xs, vs, fp, k, h => by
    obtain ⟨v, ws, f1, f2, e1, e2, h1, h2⟩ := h
    subst e2
    exact ⟨v, ws, f1, f2, e1, rfl, h1.stab ow st fun a z => k a (List.mem_append_left _ z), SVRs.stab ow st (fun a z => k a (List.mem_append_right _ z)) h2⟩
def POL (K : PySem.W.Frag) : Pst (List SV) (List V) := fun γ Oc r' σ H fs H' xs vs => ∃ fs' fp, Good K γ (fp ++ Oc) r' σ H' fs' ∧ SVRs K γ (fs' ++ (fp ++ Oc)) H' xs vs fp ∧ Stp γ.T fs H fs' H' ∧ ∀ a ∈ fp, H a = none
instance : PstT (POL K) := ⟨fun s ⟨f, p, a, b, c, d⟩ => ⟨f, p, a, b, s.trans c, fun x hx => s.none (d x hx)⟩⟩
theorem Good.tmp (g : Good K γ (fp ++ Oc) r σ H fs) (s : Stp γ.T fs H fs1 H1) : ∀ a ∈ fp, H1 a = H a := fun a h => by
  obtain ⟨o, ho, ld⟩ := g.ow a (by simp [h])
  rw [ho]
  refine s.keep a o ho (fun hT hf => ?_) ld.nt
  exact (List.nodup_append.mp g.nd).2.2 a hf a (by simp [h]) rfl
end
section
variable {X : Cx} {W : WX} {e a b c : Expr} {es : List Expr} {st : Stmt} {rest : List Stmt} {ta tb tc : TE} {tl : TA} {tA : TT} {fa fb fc : S → Res D} {F G : S → Res SV} {FL : S → Res (List SV)} {B B2 : S → RS} {FA : S → Res Bool} {t u : TS} {pos : Pos}
def oNil : S → Res (List SV) := fun r => .ok [] r
def oCons (F : S → Res SV) (G : S → Res (List SV)) : S → Res (List SV) := fun r => (F r).bind fun x r => (G r).bind fun xs r => .ok (x :: xs) r
/-- x, y = a, b -/
def sPar2 (i j : Nat) (F : S → Res (List SV)) : S → RS := fun r => (F r).bindS fun xs r => match xs with
  | [x, y] => (setS i x r).go fun r => setS j y r
  | _ => .bad
def sPar3 (i j l : Nat) (F : S → Res (List SV)) : S → RS := fun r => (F r).bindS fun xs r => match xs with
  | [x, y, z] => (setS i x r).go fun r => (setS j y r).go fun r => setS l z r
  | _ => .bad
/-- what is wanted of a run, as a wish about its mirror's end -/
def Goal (K : PySem.W.Frag) (mg : Str → Option Value) (W : WX) (γ : Gh) (Oc : List Addr) (H : Hp) (fs : List Addr) (E : Ends) : RS → Prop
  | .nx r' => ∀ σ' H', NP K γ Oc r' H fs σ' H' → E.nx σ' H'
  | .bk r' => ∀ σ' H', NP K γ Oc r' H fs σ' H' → E.bk σ' H'
  | .ct r' => ∀ σ' H', NP K γ Oc r' H fs σ' H' → E.ct σ' H'
  | .rt x r' => ∀ v H', RP K γ Oc r' H fs x v H' → E.rt v H'
  | .exc c f r' => ∀ C d σ' H', XPs K mg γ Oc r' H fs σ' H' c f C d → W (.ref C) d σ' H'
  | .bad => False
theorem SimSAt.use {K : PySem.W.Frag} {mg : Str → Option Value} {γ : Gh} {Oc : List Addr} {H : Hp} {fs : List Addr} {t : Ends → Prop} {R : RS} (h : SimSAt K mg W γ Oc H fs t R) {E : Ends} (g : Goal K mg W γ Oc H fs E R) : t E := by
  have z := h E
  cases R with
  | bad => exact False.elim g
  | nx r' => exact z g
  | bk r' => exact z g
  | ct r' => exact z g
  | rt x r' => exact z g
  | exc c f r' => exact z g
theorem SimSAt.mk {K : PySem.W.Frag} {mg : Str → Option Value} {γ : Gh} {Oc : List Addr} {H : Hp} {fs : List Addr} {t : Ends → Prop} {R : RS} (h : ∀ E : Ends, Goal K mg W γ Oc H fs E R → t E) : SimSAt K mg W γ Oc H fs t R := by
  intro E
  have z := h E
  cases R with
  | bad => trivial
  | nx r' => exact z
  | bk r' => exact z
  | ct r' => exact z
  | rt x r' => exact z
  | exc c f r' => exact z
theorem Goal.tr {K : PySem.W.Frag} {mg : Str → Option Value} {γ : Gh} {Oc : List Addr} {H H1 : Hp} {fs fs1 : List Addr} {E : Ends} {R : RS} (s : Evo fs H fs1 H1) (h : Goal K mg W γ Oc H fs E R) : Goal K mg W γ Oc H1 fs1 E R := by
  cases R with
  | bad => exact h
  | nx r' => exact fun σ' H' p => h _ _ (p.tr s)
  | bk r' => exact fun σ' H' p => h _ _ (p.tr s)
  | ct r' => exact fun σ' H' p => h _ _ (p.tr s)
  | rt x r' => exact fun σ' H' p => h _ _ (p.tr s)
  | exc c f r' => exact fun C d σ' H' p => h _ _ _ _ (p.tr s)
/-- the turns tell the items -/
def Ylds (K : PySem.W.Frag) (O : List Addr) (H : Hp) (J : It) (ds : List D) : Prop :=
  ∀ O' H', Own O' H' → Stab O H O' H' → ∀ i, (i < ds.length → J.go i H' ∧ ∀ x H2, J.yld i H' x H2 → (∀ a o, H' a = some o → H2 a = some o) ∧ ∀ d, ds[i]? = some d → R K O' H2 d x) ∧ (i = ds.length → J.stop i H')
def PIt (K : PySem.W.Frag) : Pst (List D) It := fun γ Oc r' σ H fs H' ds J => ∃ fs', Good K γ Oc r' σ H' fs' ∧ Ylds K (fs' ++ Oc) H' J ds ∧ Stp γ.T fs H fs' H'
end
/-- what is walked: its rule and its mirror -/
structure IX (X : Cx) (W : WX) (tg iter : Expr) (t : TI) (F : S → Res (List D)) : Prop where
  pi : PI X tg iter t
  sim : Sim X.K X.mg W (PIt X.K) t F
section
variable {X : Cx} {W : WX} {e a b c tg : Expr} {es : List Expr} {st : Stmt} {rest : List Stmt} {ta tb tc : TE} {tl : TA} {tA : TT} {fa fb fc : S → Res D} {F G : S → Res SV} {FL : S → Res (List SV)} {B B2 : S → RS} {FA : S → Res Bool} {t u : TS} {wi : TI} {gt : TG} {pos : Pos}
def forF (G : D → S → Option S) (B : S → RS) : List D → S → RS
  | [], r => .nx r
  | d :: ds, r => match G d r with
    | none => .bad
    | some r => match B r with
      | .nx r => forF G B ds r
      | .ct r => forF G B ds r
      | .bk r => .nx r
      | .rt v r => .rt v r
      | .exc c f r => .exc c f r
      | .bad => .bad
def sFor (I : S → Res (List D)) (G : D → S → Option S) (B : S → RS) : S → RS := fun r => (I r).bindS fun ds r => forF G B ds r
theorem Evo.own {K : PySem.W.Frag} {γ : Gh} {Oc fs fs' : List Addr} {r : S} {σ : St} {H H' : Hp} (g : Good K γ Oc r σ H' fs') : Own (fs' ++ Oc) H' := g.ow
theorem Good.kept {K : PySem.W.Frag} {γ : Gh} {Oc fs : List Addr} {r : S} {σ : St} {H H' : Hp} (g : Good K γ Oc r σ H fs) (k : SameT H H') : Good K γ Oc r σ H' fs := by
  have := g.grow (fp := []) k (by simp) (by simp) (by simp [Own])
  simpa using this
theorem Evo.kept {fs : List Addr} {H H' : Hp} (k : SameT H H') : Evo fs H fs H' := (Stp.same none fs k).evo
theorem sx_for {body : List Stmt} {IF : S → Res (List D)} {GF : D → S → Option S} (hp : PassesOwn (model X.prog X.w) X.A X.env X.xe) (hc : X.calm = true) (hi : IX X W tg a wi IF) (hg : GX X tg gt GF) (hb : SSX X W body t B)
    (hs : ∀ x, foldedSetIterable a X.env x = pure x := by intro _; rfl) : SX X W (.For tg a body [] pos) (tFor wi gt t) (sFor IF GF B) := by
  refine ⟨ps_for hp hc hi.pi hg.pg hb.ps hs, fun γ Oc r0 σ0 H00 fs00 g00 => ?_⟩
  refine SimSAt.imp (SimSAt.bindE (t2 := fun (J : It) (H1 : Hp) (E : Ends) => ∃ W : Nat → Nat → St → Hp → Prop, (∃ m, W 0 m σ0 H1) ∧ ∀ i m σ H, W i m σ H →
    (J.stop i H ∧ E.nx σ H) ∨ (J.go i H ∧ ∃ N : St → Hp → Prop, (∀ σ' H', N σ' H' → ∃ m', m' < m ∧ W (i + 1) m' σ' H') ∧ ∀ x H', J.yld i H x H' → gt x σ H' fun σ2 H2 => t { E with nx := N, ct := N, bk := E.nx } σ2 H2)) (hi.sim γ Oc r0 σ0 H00 fs00 g00) fun ds r1 J H0 p => ?_) fun E h => h
  obtain ⟨fs0, g0, yl, s0⟩ := p
  refine SimSAt.tr s0.evo (SimSAt.mk fun E hE => ?_)
  refine ⟨fun i m σ H => m = ds.length - i ∧ i ≤ ds.length ∧ ∃ r fs, Good X.K γ Oc r σ H fs ∧ Evo fs0 H0 fs H ∧ Goal X.K X.mg W γ Oc H0 fs0 E (forF GF B (ds.drop i) r), ⟨ds.length, by simp, Nat.zero_le _, r1, fs0, g0, Evo.refl _ _, by simpa using hE⟩, ?_⟩
  rintro i m σ H ⟨rfl, hil, r, fs, g, ev, hG⟩
  obtain ⟨go, stop⟩ := yl (fs ++ Oc) H g.ow ev.stab i
  by_cases hlt : i < ds.length
  · obtain ⟨hgo, hy⟩ := go hlt
    rw [List.drop_eq_getElem_cons hlt] at hG
    refine .inr ⟨hgo, fun σ' H' => ∃ r' fs', Good X.K γ Oc r' σ' H' fs' ∧ Evo fs0 H0 fs' H' ∧ Goal X.K X.mg W γ Oc H0 fs0 E (forF GF B (ds.drop (i + 1)) r'), fun σ' H' h => ⟨ds.length - (i + 1), by omega, rfl, hlt, h⟩, fun x H2 y => ?_⟩
    obtain ⟨kp, hx⟩ := hy x H2 y
    replace kp := SameT.of kp
    have rx := hx ds[i] (List.getElem?_eq_getElem hlt)
    have g2 := g.kept kp
    have ev2 := ev.trans (Evo.kept (fs := fs) kp)
    unfold forF at hG
    cases eG : GF ds[i] r with
    | none => rw [eG] at hG; exact False.elim hG
    | some r2 =>
      rw [eG] at hG
      refine hg.sim γ Oc r σ H2 fs ds[i] x r2 g2 rx eG _ fun σ2 fs2 g3 sub => ?_
      have ev3 : Evo fs0 H0 fs2 H2 := ⟨fun a h => ev2.sub a (sub a h), @Evo.keep _ _ _ _ ev2, ev2.there, ev2.tb⟩
      refine SimSAt.use (SimSAt.tr ev3 (hb.sim γ Oc r2 σ2 H2 fs2 g3)) ?_
      dsimp only at hG
      cases eB : B r2 with
      | bad => rw [eB] at hG; exact hG
      | nx r3 => rw [eB] at hG; exact fun σ' H' ⟨fs4, g4, e4⟩ => ⟨r3, fs4, g4, e4, hG⟩
      | ct r3 => rw [eB] at hG; exact fun σ' H' ⟨fs4, g4, e4⟩ => ⟨r3, fs4, g4, e4, hG⟩
      | bk r3 => rw [eB] at hG; exact hG
      | rt x r3 => rw [eB] at hG; exact hG
      | exc c f r3 => rw [eB] at hG; exact hG
  · have e : ds.drop i = [] := List.drop_eq_nil_of_le (by omega)
    rw [e] at hG
    exact .inl ⟨stop (by omega), hG _ _ ⟨fs, g, ev⟩⟩
end
end QL
namespace QL
open PySem PySem.Spec L2
structure FnG (P : Program) (w : World) (K : PySem.W.Frag) (mg : Str → Option Value) (base : Heap) (k : Nat) (f : Addr) (fd : FuncData) (ps : List Str) (sp : Sp) : Prop where
  len : ∀ vs H Q E, sp vs H Q E → vs.length = ps.length
  run : ∀ (A : Around) (out : List Env) (s : Shared) (H : Hp) (gs : Args) (us : List Value) (vs : List V) (Q : VK) (E : XK), A.guards = some [] → Room k A → Env0 P w K mg base A out s H →
    BindsTo s fd gs (ps.zip us) → Vals vs us → sp vs H Q E → codeAny (model P w) A (.call (.ref f) gs) (CR (L2.CX P w) out P w H s Q E) s
section
variable {P : Program} {w : World} {K : PySem.W.Frag} {mg : Str → Option Value} {base : Heap} {j k : Nat} {f : Addr} {fd : FuncData} {ps : List Str} {sp sp' : Sp}
theorem FnG.mono (F : FnG P w K mg base j f fd ps sp) (h : j ≤ k) : FnG P w K mg base k f fd ps sp :=
  ⟨F.len, fun A out s H gs us vs Q E hG hr => F.run A out s H gs us vs Q E hG (hr.mono h)⟩
theorem FnG.imp (F : FnG P w K mg base k f fd ps sp) (h : ∀ vs H Q E, sp' vs H Q E → sp vs H Q E) : FnG P w K mg base k f fd ps sp' :=
  ⟨fun vs H Q E q => F.len vs H Q E (h _ _ _ _ q), fun A out s H gs us vs Q E hG hr he hb hv q => F.run A out s H gs us vs Q E hG hr he hb hv (h _ _ _ _ q)⟩
/-- a def's body keeps the promise -/
theorem fg_ofC {qual x : Str} {st : Stmt} {N : List Str} (F : Fun K x qual st f fd) (S : FnScope N ps (defScope st)) (len : ∀ vs H Q E, sp vs H Q E → vs.length = ps.length)
    (hbody : ∀ (cdv : Value), fd.code = cdv → ∀ (A : Around) (out : List Env) (s : Shared) (H : Hp) (vs : List V) (Q : VK) (E : XK), A.guards = some [] → Room k (A.deeper (PyProof.Rows.envOfC qual (defScope st) s.heap.objs.size f cdv)) → sp vs H Q E →
      ∃ t, PSs (cxOf (L2.CX P w) P w K mg base N qual (defScope st) f cdv A out s H E) (defBody st) t ∧ t { nx := fun _ H' => Q .non H', rt := Q } (L2.start N vs) H) : FnG P w K mg base (k + 1) f fd ps sp := by
  obtain ⟨ocl, odi, kv, dv, mv, ann, cv, tv, osl, rfl, hlk, hcode⟩ := F.ex
  refine ⟨len, fun A out s H gs us vs Q E hG hr e0 hbind rv hsp => ?_⟩
  have hl := len _ _ _ _ hsp
  have kin : K.In s.heap := e0.mod.kin.keeps fun a u e => (e0.bs a u e).1
  have nol : s.heap.NoLimit := e0.mod.nolimit.keeps fun a u e => (e0.bs a u e).1
  have kinds : ∀ q ∈ ps.zip us, (defScope st).names.lookup q.1 = some .local ∨ ((defScope st).names.lookup q.1 = some .cell ∧ ((cellsFrom (s.heap.objs.size + 1) (defScope st).names []).lookup q.1).isSome = true) := fun ⟨nm, u⟩ hq => by
    rcases S.par nm (List.of_mem_zip hq).1 with z | z
    · exact .inl z
    · exact .inr ⟨z, PySem.W.cellsFrom_some _ _ _ (.inl z)⟩
  refine codeAny_call_function hr.depth (kin _ _ hlk) rfl S.co S.gen rfl (PySem.W.codeRec_of kin hcode) (hbind _ _ _ _ ?_)
  refine wpAny_newFunctionEnv_cells S.kind kinds fun env henv s2 y => ?_
  subst henv
  refine ⟨nol.keeps y.toInCall.keep, codeAny_func ?_⟩
  obtain ⟨t, ht, hq⟩ := hbody cv rfl A out s H vs Q E hG (hr.deeper _) hsp
  have J0 : Inv (cxOf (L2.CX P w) P w K mg base N qual (defScope st) f cv A out s H E) [] (L2.start N vs) H s2 := inv_start S hr.hd e0 hl rv y
  refine wpAny_mono (ht.run [] s2 (L2.start N vs) H _ J0 hq) (fun fl s' hs => ?_) fun e s' hs => hs
  cases fl with
  | ret u =>
    obtain ⟨v, σ', H', J, ru, q⟩ := hs
    exact ⟨v, H', J.os, J.bare, J.base, J.hok, ru, q⟩
  | next =>
    obtain ⟨σ', H', J, q⟩ := hs
    exact ⟨V.non, H', J.os, J.bare, J.base, J.hok, rfl, q⟩
  | brk => obtain ⟨_, _, _, q⟩ := hs; exact q.elim
  | cont => obtain ⟨_, _, _, q⟩ := hs; exact q.elim
theorem fg_of {qual x : Str} {st : Stmt} {N : List Str} (F : Fun K x qual st f fd) (S : FnScope N ps (defScope st)) (len : ∀ vs H Q E, sp vs H Q E → vs.length = ps.length)
    (hbody : ∀ (cdv : Value) (A : Around) (out : List Env) (s : Shared) (H : Hp) (vs : List V) (Q : VK) (E : XK), A.guards = some [] → Room k (A.deeper (PyProof.Rows.envOfC qual (defScope st) s.heap.objs.size f cdv)) → sp vs H Q E →
      ∃ t, PSs (cxOf (L2.CX P w) P w K mg base N qual (defScope st) f cdv A out s H E) (defBody st) t ∧ t { nx := fun _ H' => Q .non H', rt := Q } (L2.start N vs) H) : FnG P w K mg base (k + 1) f fd ps sp :=
  fg_ofC F S len fun cdv _ A out s H vs Q E hG hr h => hbody cdv A out s H vs Q E hG hr h
end
inductive FR where
  | ok (x : SV) (tp : Option (Int × Int)) | exc (c : Str) (f : List (Str × D)) (tp : Option (Int × Int)) | bad
/-- a value that may be handed out -/
def SV.out : SV → Bool
  | .tape => false
  | .scr _ => false
  | .ob _ _ => false
  | _ => true
abbrev g0 : Gh := ⟨none, 0, [], []⟩
theorem tabs0 {H : Hp} : TabsL [] H := fun p hp => nomatch hp
theorem SVR.ghost {K : PySem.W.Frag} {γ γ' : Gh} {O : List Addr} {H : Hp} {x : SV} {v : V} {fp : List Addr} (hx : x.out = true) (h : SVR K γ O H x v fp) : SVR K γ' O H x v fp := by
  cases x with
  | fz d => exact h
  | ol d => exact h
  | od d => exact h
  | ot d => exact h
  | ob c d => cases hx
  | tape => cases hx
  | scr => cases hx
/-- .. but the object at T, too -/
structure SameU (T : Addr) (H H' : Hp) : Prop where
  kp : ∀ a o, H a = some o → a ≠ T → (ht : isTbl o = false := by rfl) → H' a = some o
  th : ∀ x, NN H x → NN H' x
  tb : ∀ P, TabL H P → TabL H' P
/-- a def without the tape: n its arguments -/
def spF (K : PySem.W.Frag) (mg : Str → Option Value) (n : Nat) (F : List D → FR) : Sp := fun vs H Q E => ∃ (ds : List D) (O : List Addr), vs.length = n ∧ Own O H ∧ O.Nodup ∧ Rs K O H ds vs ∧ match F ds with
  | .ok x _ => x.out = true ∧ ∀ H' v fp, SameT H H' → fp.Nodup → (∀ a ∈ fp, H a = none) → Own fp H' → SVR K g0 (fp ++ O) H' x v fp → Q v H'
  | .exc c f _ => ∀ C d H', SameT H H' → mg c = some (.ref C) → XR K O H' f d → E (.ref C) d H'
  | .bad => False
/-- a def that takes the tape first -/
def spT (K : PySem.W.Frag) (mg : Str → Option Value) (n : Nat) (F : Int × Int → List D → FR) : Sp := fun vs H Q E => ∃ (T : Addr) (t : Int × Int) (vs' : List V) (ds : List D) (O : List Addr), vs = .ref T :: vs' ∧ vs'.length = n ∧ H T = some (tapeO t) ∧
  Own O H ∧ (T :: O).Nodup ∧ Rs K (T :: O) H ds vs' ∧ match F t ds with
  | .ok x (some t') => x.out = true ∧ ∀ H' v fp, SameU T H H' → H' T = some (tapeO t') → fp.Nodup → (∀ a ∈ fp, H a = none) → Own fp H' → SVR K g0 (fp ++ (T :: O)) H' x v fp → Q v H'
  | .exc c f (some t') => ∀ C d H', SameU T H H' → H' T = some (tapeO t') → mg c = some (.ref C) → XR K (T :: O) H' f d → E (.ref C) d H'
  | _ => False
/-- from a body's mirror: the slots at its start -/
def mkS (n : Nat) (ds : List SV) (tp : Option (Int × Int)) : S := ⟨ds.map some ++ List.replicate (n - ds.length) none, tp⟩
def outF (R : RS) : FR := match R with
  | .nx r => .ok (.fz .none) r.tp
  | .rt x r => if x.out then .ok x r.tp else .bad
  | .exc c f r => .exc c f r.tp
  | _ => .bad
def bodyF (n : Nat) (B : S → RS) (ds : List D) : FR := outF (B (mkS n (ds.map .fz) none))
def bodyT (n : Nat) (B : S → RS) (t : Int × Int) (ds : List D) : FR := outF (B (mkS n (.tape :: ds.map .fz) (some t)))
section
variable {K : PySem.W.Frag} {mg : Str → Option Value} {W : WX} {γ : Gh} {Oc : List Addr} {r r1 r2 : S} {σ : St} {H H' H1 H2 : Hp} {fs fs1 fp : List Addr}
theorem Slots.nones {O : List Addr} : ∀ (n : Nat) (σ : St), σ.length = n → Slots K γ O H (List.replicate n none) σ []
  | 0, σ, h => ⟨List.length_eq_zero_iff.mp h, rfl⟩
  | n + 1, [], h => by simp at h
  | n + 1, x :: σ, h => ⟨x, σ, rfl, Slots.nones n σ (by simpa using h)⟩
theorem Slots.start {O : List Addr} : ∀ {ds : List D} {vs : List V} {n : Nat}, Rs K O H ds vs → Slots K γ O H (ds.map (some ∘ SV.fz) ++ List.replicate n none) (vs.map some ++ List.replicate n none) []
  | [], vs, n, h => by
    simp only [Rs] at h
    subst h
    exact Slots.nones n _ (by simp)
  | d :: ds, vs, n, h => by
    simp only [Rs] at h
    obtain ⟨v, ws, e, h1, h2⟩ := h
    subst e
    exact ⟨v, _, [], [], rfl, rfl, ⟨h1, rfl⟩, Slots.start h2⟩
theorem Good.start0 {O : List Addr} {N : List Str} {ds : List D} {vs : List V} (ow : Own O H) (nd : O.Nodup) (h : Rs K O H ds vs) : Good K g0 O (mkS N.length (ds.map .fz) none) (L2.start N vs) H [] := by
  refine ⟨⟨[], [], rfl, ?_, rfl⟩, nd, ow, fun z => absurd rfl z, tabs0⟩
  unfold mkS L2.start
  rw [h.len, List.map_map, List.length_map]
  exact Slots.start h
theorem Good.startT {O : List Addr} {N : List Str} {ds : List D} {vs : List V} {T : Addr} {t : Int × Int} (ow : Own O H) (nd : (T :: O).Nodup) (hT : H T = some (tapeO t)) (h : Rs K (T :: O) H ds vs) :
    Good K ⟨some T, 0, [], []⟩ O (mkS N.length (.tape :: ds.map .fz) (some t)) (L2.start N (.ref T :: vs)) H [T] := by
  refine ⟨⟨[], [T], rfl, ?_, ⟨T, rfl, hT, rfl⟩⟩, nd, fun a z => ?_, fun _ z => (by cases z), tabs0⟩
  · unfold mkS L2.start
    rw [List.map_cons, List.map_cons, List.map_map, List.length_cons, List.length_cons, h.len, List.length_map]
    exact ⟨.ref T, _, [], [], rfl, rfl, ⟨⟨T, rfl, rfl⟩, rfl⟩, Slots.start h⟩
  · rcases List.mem_append.mp z with z | z
    · rw [List.mem_singleton.mp z]
      exact ⟨_, hT, trivial⟩
    · exact ow a z
end
section
variable {P : Program} {w : World} {K : PySem.W.Frag} {mg : Str → Option Value} {base : Heap} {k n : Nat} {f : Addr} {fd : FuncData} {ps N : List Str} {qual x : Str} {st : Stmt} {B : S → RS}
/-- a def without the tape, by its body's mirror -/
theorem fg_body (F : Fun K x qual st f fd) (S : FnScope N ps (defScope st)) (hn : ps.length = n)
    (hb : ∀ (cdv : Value) (A : Around) (out : List Env) (s : Shared) (H : Hp) (E : XK), A.guards = some [] → Room k (A.deeper (PyProof.Rows.envOfC qual (defScope st) s.heap.objs.size f cdv)) →
      ∃ t, SSX (cxOf (L2.CX P w) P w K mg base N qual (defScope st) f cdv A out s H E) (fun c d _ H' => E c d H') (defBody st) t B) : FnG P w K mg base (k + 1) f fd ps (spF K mg n (bodyF N.length B)) := by
  refine fg_of F S (fun vs H Q E h => ?_) fun cdv A out s H vs Q E hG hr h => ?_
  · obtain ⟨ds, O, hl, _⟩ := h
    rw [hl, hn]
  · obtain ⟨t, ht⟩ := hb cdv A out s H E hG hr
    refine ⟨t, ht.ps, ?_⟩
    obtain ⟨ds, O, hl, ow, nd, rs, h⟩ := h
    have g := Good.start0 (N := N) ow nd rs
    refine SimSAt.use (ht.sim _ _ _ _ _ _ g) ?_
    unfold bodyF at h
    have same : ∀ {fs' : List Addr} {H' : Hp}, Evo [] H fs' H' → SameT H H' := fun e => ⟨fun a o ho ht => e.keep a o ho (by simp) ht, e.there, e.tb⟩
    cases eB : B (mkS N.length (ds.map .fz) none) with
    | bad => rw [eB] at h; exact False.elim h
    | bk r => rw [eB] at h; exact False.elim h
    | ct r => rw [eB] at h; exact False.elim h
    | nx r =>
      rw [eB] at h
      intro σ' H' ⟨fs', g', e⟩
      exact h.2 H' .non [] (same e) (by simp) (by simp) (by simp [Own]) ⟨by simp [R], rfl⟩
    | rt y r =>
      rw [eB] at h
      intro v H' ⟨σ', fs', fp, g', hv, e⟩
      unfold outF at h
      dsimp only at h
      by_cases ho : y.out = true
      · rw [if_pos ho] at h
        have nd' := g'.nd
        have sub : ∀ a ∈ fp ++ O, a ∈ fs' ++ (fp ++ O) := fun a z => List.mem_append_right _ z
        refine h.2 H' v fp (same e) ((List.nodup_append.mp (List.nodup_append.mp nd').2.1).1) (fun a z => ?_) (g'.ow.mono fun a z => by simp [z]) (SVR.ghost ho (hv.mono g'.ow sub))
        rcases e.sub a (by simp [z]) with q | q
        · simp at q
        · exact q
      · rw [if_neg ho] at h
        exact False.elim h
    | exc c fl r =>
      rw [eB] at h
      intro C d σ' H' ⟨fs', g', e, m, xr⟩
      refine h C d H' (same e) m ?_
      rcases xr with z | ⟨dd, ws, e1, e2, e3, e4⟩
      · exact .inl z
      · exact .inr ⟨dd, ws, e1, e2, e3, Rs.stab g'.ow (Stab.weak (fun a z => List.mem_append_right _ z) fun _ _ z => z) _ _ e4⟩
/-- a def that takes the tape -/
theorem fg_bodyT (F : Fun K x qual st f fd) (S : FnScope N ps (defScope st)) (hn : ps.length = n + 1)
    (hb : ∀ (cdv : Value) (A : Around) (out : List Env) (s : Shared) (H : Hp) (E : XK), A.guards = some [] → Room k (A.deeper (PyProof.Rows.envOfC qual (defScope st) s.heap.objs.size f cdv)) →
      ∃ t, SSX (cxOf (L2.CX P w) P w K mg base N qual (defScope st) f cdv A out s H E) (fun c d _ H' => E c d H') (defBody st) t B) : FnG P w K mg base (k + 1) f fd ps (spT K mg n (bodyT N.length B)) := by
  refine fg_of F S (fun vs H Q E h => ?_) fun cdv A out s H vs Q E hG hr h => ?_
  · obtain ⟨T, t, vs', ds, O, e, hl, _⟩ := h
    rw [e, List.length_cons, hl, hn]
  · obtain ⟨t, ht⟩ := hb cdv A out s H E hG hr
    refine ⟨t, ht.ps, ?_⟩
    obtain ⟨T, t0, vs', ds, O, e0, hl, hT, ow, nd, rs, h⟩ := h
    subst e0
    have g := Good.startT (N := N) ow nd hT rs
    refine SimSAt.use (ht.sim _ _ _ _ _ _ g) ?_
    unfold bodyT at h
    have same : ∀ {fs' : List Addr} {H' : Hp}, Evo [T] H fs' H' → SameU T H H' := fun e => ⟨fun a o ho n ht => e.keep a o ho (by simpa using n) ht, e.there, e.tb⟩
    have top : ∀ {r : QL.S} {σ' : St} {fs' O' : List Addr} {H' : Hp}, Good K ⟨some T, 0, [], []⟩ O' r σ' H' fs' → ∃ t', r.tp = some t' ∧ H' T = some (tapeO t') ∧ T ∈ fs' := fun g => by
      obtain ⟨h1, t', h2, h3⟩ := g.tape rfl
      exact ⟨t', h2, h3, h1⟩
    cases eB : B (mkS N.length (.tape :: ds.map .fz) (some t0)) with
    | bad => rw [eB] at h; exact False.elim h
    | bk r => rw [eB] at h; exact False.elim h
    | ct r => rw [eB] at h; exact False.elim h
    | nx r =>
      rw [eB] at h
      intro σ' H' ⟨fs', g', e⟩
      obtain ⟨t', e1, e2, e3⟩ := top g'
      unfold outF at h
      dsimp only at h
      rw [e1] at h
      exact h.2 H' .non [] (same e) e2 (by simp) (by simp) (by simp [Own]) ⟨by simp [R], rfl⟩
    | rt y r =>
      rw [eB] at h
      intro v H' ⟨σ', fs', fp, g', hv, e⟩
      obtain ⟨t', e1, e2, e3⟩ := top g'
      unfold outF at h
      dsimp only at h
      rw [e1] at h
      by_cases ho : y.out = true
      · rw [if_pos ho] at h
        have nd' := g'.nd
        have sub : ∀ a ∈ fp ++ (T :: O), a ∈ fs' ++ (fp ++ O) := fun a z => by
          simp only [List.mem_append, List.mem_cons] at z ⊢
          rcases z with z | z | z
          · simp [z]
          · subst z; simp [e3]
          · simp [z]
        have nT : T ∉ fp := fun z => (List.nodup_append.mp nd').2.2 T e3 T (by simp [z]) rfl
        refine h.2 H' v fp (same e) e2 ((List.nodup_append.mp (List.nodup_append.mp nd').2.1).1) (fun a z => ?_) (g'.ow.mono fun a z => by simp [z]) (SVR.ghost ho (hv.mono g'.ow sub))
        rcases e.sub a (by simp [z]) with q | q
        · rw [List.mem_singleton.mp q] at z
          exact absurd z nT
        · exact q
      · rw [if_neg ho] at h
        exact False.elim h
    | exc c fl r =>
      rw [eB] at h
      intro C d σ' H' ⟨fs', g', e, m, xr⟩
      obtain ⟨t', e1, e2, e3⟩ := top g'
      unfold outF at h
      dsimp only at h
      rw [e1] at h
      refine h C d H' (same e) e2 m ?_
      rcases xr with z | ⟨dd, ws, q1, q2, q3, q4⟩
      · exact .inl z
      · refine .inr ⟨dd, ws, q1, q2, q3, Rs.stab g'.ow (Stab.weak (fun a z => ?_) fun _ _ z => z) _ _ q4⟩
        rcases List.mem_cons.mp z with z | z
        · subst z; simp [e3]
        · simp [z]
end
end QL
namespace QL
open PySem PySem.Spec L2
section
variable {X : Cx} {k n : Nat} {f : Addr} {fd : FuncData} {ps : List Str} {sp : Sp} {x : Str} {p pos : Pos} {e : Expr} {es : List Expr} {t : TA} {W : WX}
theorem run_fg {pins : List (Addr × Obj)} {σ : St} {H : Hp} {s : Shared} {Q : VK} {us : List Value} {vs : List V} (F : FnG X.prog X.w X.K X.mg X.base k f fd ps sp) (hG : X.A.guards = some []) (hr : Room k X.A) (hb : Binds X.K fd ps []) (tk : Takes X W)
    (I : Inv X pins σ H s) (rv : Vals vs us) (h : sp vs H Q (WE W σ)) : wpAny (model X.prog X.w) X.A (call (.ref f) us) (EP X pins σ Q) X.xe s := by
  have hl : us.length = ps.length := by rw [← rv.length]; exact F.len _ _ _ _ h
  have hbs := hb s us I.kIn (by simpa using hl)
  rw [List.append_nil] at hbs
  refine wpAny_call (codeAny_mono (F.run X.A X.stack s H ⟨us, []⟩ us vs Q (WE W σ) hG hr I.env0 hbs rv h) fun res s' hq => ?_)
  cases res with
  | error exn => exact passAt tk σ pins H s exn s' I hq
  | ok fl => cases fl with
    | ret u => exact I.after hq
    | next => exact False.elim hq
    | brk => exact False.elim hq
    | cont => exact False.elim hq
theorem pe_callF (F : FnG X.prog X.w X.K X.mg X.base k f fd ps sp) (hG : X.A.guards = some []) (hr : Room k X.A) (hg : Gl X x) (hm : X.mg x = some (.ref f)) (hk : PySem.W.keepIn X.K (.ref f) = true) (hb : Binds X.K fd ps []) (tk : Takes X W)
    (ha : PA X (e :: es) t) (hdb : (x == ("__debug__" : Str)) = false := by decide) (he : starEach (e :: es) X.env = (false, eval e X.env) :: starEach es X.env := by rfl) (hpl : (backTo pos (starEach es X.env)).any (·.1) = false := by rfl) :
    PE X (.Call (.Name x p) (e :: es) [] pos) (tCallS sp (WE W) t) :=
  ⟨fun pins s σ H Q I h => wpAny_Call_Name_kw (ld_glob I hg hm (PySem.W.callWith_K (h₀ := X.base) I.ok.mod.kin hk (thn (ha.run pos pins s σ H _ I h) fun us s1 ⟨vs, H1, I1, rv, q⟩ => ⟨I1.kIn, run_fg F hG hr hb tk I1 rv q⟩) he hpl) hdb)⟩
end
/-- what a call's mirror yields -/
def outR (R : FR) (r : S) : Res SV := match R with
  | .ok x _ => if x.out then .ok x r else .bad
  | .exc c f _ => .exc c f r
  | .bad => .bad
def fCall (n : Nat) (F : List D → FR) (FL : S → Res (List D)) : S → Res SV := fun r => (FL r).bind fun ds r => if ds.length = n then outR (F ds) r else .bad
section
variable {K : PySem.W.Frag} {mg : Str → Option Value} {W : WX} {γ : Gh} {Oc : List Addr} {r r1 r2 : S} {σ : St} {H H' H1 H2 : Hp} {fs fs1 fp : List Addr} {tl : TA} {n : Nat} {F : List D → FR} {FL : S → Res (List D)}
theorem xr_sub {O O' : List Addr} {f : List (Str × D)} {d : Option Addr} (ow : Own O H) (s : ∀ a ∈ O', a ∈ O) (h : XR K O H f d) : XR K O' H f d := by
  rcases h with z | ⟨dd, ws, q1, q2, q3, q4⟩
  · exact .inl z
  · exact .inr ⟨dd, ws, q1, q2, q3, Rs.stab ow (Stab.weak s fun _ _ z => z) _ _ q4⟩
theorem Own.app {A B : List Addr} (h : Own A H) (h2 : Own B H) : Own (A ++ B) H := fun a z => (List.mem_append.mp z).elim (h a) (h2 a)
theorem sim_call (h : Sim K mg W (PL K) tl FL) : Sim K mg W (PV K) (tCallS (spF K mg n F) (WE W) tl) (fCall n F FL) := by
  intro γ Oc r σ H fs g
  refine SimAt.bind (t2 := fun (vs : List V) (H1 : Hp) (Q : VK) => spF K mg n F vs H1 Q (WE W σ)) (h γ Oc r σ H fs g) fun ds r1 vs H1 ⟨fs1, g1, v1, s1⟩ => ?_
  refine SimAt.tr s1 ?_
  split
  · rename_i hn
    intro Q
    unfold outR
    cases eF : F ds with
    | bad => trivial
    | ok y tp =>
      dsimp only
      by_cases ho : y.out = true
      · rw [if_pos ho]
        intro hq
        refine ⟨ds, fs1 ++ Oc, by rw [v1.len, hn], g1.ow, g1.nd, v1, ?_⟩
        rw [eF]
        refine ⟨ho, fun H' v fp kp nd nw ow hv => hq v H' ?_⟩
        have g2 := g1.grow kp nw nd ow
        refine ⟨fs1, fp, g2, SVR.ghost ho (hv.mono (ow.app (g1.kept kp).ow) fun a z => ?_), Stp.same _ _ kp, nw⟩
        simp only [List.mem_append] at z ⊢
        rcases z with z | z | z <;> simp [z]
      · rw [if_neg ho]; trivial
    | exc c fl tp =>
      dsimp only
      intro hw
      refine ⟨ds, fs1 ++ Oc, by rw [v1.len, hn], g1.ow, g1.nd, v1, ?_⟩
      rw [eF]
      exact fun C d H' kp m x => hw C d H' ⟨fs1, g1.kept kp, Stp.same _ _ kp, m, x⟩
  · exact fun Q => trivial
theorem tabs_unupd {T : Addr} {t : Int × Int} {P : Addr} (h : TabL (upd H T (tapeO t)) P) : TabL H P := by
  obtain ⟨ps, h1, h2, h3⟩ := h
  have n1 : P ≠ T := fun z => by
    rw [z, upd_same] at h1
    cases h1
  rw [upd_ne n1] at h1
  refine ⟨ps, h1, h2, fun pos cv hc => ?_⟩
  obtain ⟨c, e1, e2⟩ := h3 pos cv hc
  have n2 : c ≠ T := fun z => by
    rw [z, upd_same] at e2
    cases e2
  rw [upd_ne n2] at e2
  exact ⟨c, e1, e2⟩
/-- the tape has changed -/
theorem Good.tapeSet {T : Addr} {t' : Int × Int} (g : Good K γ Oc r σ H fs) (hT : γ.T = some T) : Good K γ Oc { r with tp := some t' } σ (upd H T (tapeO t')) fs := by
  obtain ⟨⟨f1, f2, e, sl, tp⟩, nd, ow, tt⟩ := id g
  obtain ⟨hm, t, q1, q2⟩ := g.tape hT
  rw [q1] at tp
  obtain ⟨b, b1, b2, b3⟩ := tp
  rw [hT] at b1; cases b1
  have n1 := (List.nodup_append.mp nd).1
  rw [e] at n1
  have nf : T ∉ f1 := fun z => (List.nodup_append.mp n1).2.2 T z T (by rw [b3]; simp) rfl
  have ne : ∀ a, a ∉ fs ++ Oc → a ≠ T := fun a n z => n (by rw [z]; simp [hm])
  have st : Stab (fs ++ Oc) H (fs ++ Oc) (upd H T (tapeO t')) := fun a n _ => ⟨n, fun u _ q => by
    rcases q with q | ⟨o, q⟩
    · exact .inl (by rw [upd_ne (ne a n)]; exact q)
    · exact .inr ⟨o, by rw [upd_ne (ne a n)]; exact q⟩, fun u _ q => by rw [upd_ne (ne a n)]; exact q⟩
  refine ⟨⟨f1, f2, e, sl.stab ow st fun a z => upd_ne fun y => nf (y ▸ z), ⟨T, hT, upd_same, b3⟩⟩, nd, fun a z => ?_, fun _ z => (by cases z), fun p hp => tabs_upd q2 trivial (tt.2 p hp)⟩
  by_cases ha : a = T
  · subst ha; exact ⟨_, upd_same, trivial⟩
  · obtain ⟨o, ho, l⟩ := ow a z
    exact ⟨o, by rw [upd_ne ha]; exact ho, l⟩
def outT (R : FR) (r : S) : Res SV := match R with
  | .ok x (some t) => if x.out then .ok x { r with tp := some t } else .bad
  | .exc c f (some t) => .exc c f { r with tp := some t }
  | _ => .bad
def fCallT (i n : Nat) (F : Int × Int → List D → FR) (FL : S → Res (List D)) : S → Res SV := fun r => match r.sl[i]? with
  | some (some .tape) => (FL r).bind fun ds r => match r.tp with
    | some t => if ds.length = n then outT (F t ds) r else .bad
    | none => .bad
  | _ => .bad
theorem sim_callT {i : Nat} {F : Int × Int → List D → FR} (h : Sim K mg W (PL K) tl FL) : Sim K mg W (PV K) (tCallS (spT K mg n F) (WE W) (tCons (tVar i) tl)) (fCallT i n F FL) := by
  intro γ Oc r σ H fs g
  unfold fCallT
  split
  · rename_i eT
    obtain ⟨⟨f1, f2, e, sl, tp⟩, nd, ow, tt⟩ := id g
    obtain ⟨v, a1, a2, a3, e1, e2, ⟨T, hT, ev⟩, e4⟩ := sl.at eT
    subst ev
    refine SimAt.imp (t := fun Q => tl σ H fun vs H1 => spT K mg n F (.ref T :: vs) H1 Q (WE W σ)) ?_ fun Q q => ⟨.ref T, e1, q⟩
    refine SimAt.bind (t2 := fun (vs : List V) (H1 : Hp) (Q : VK) => spT K mg n F (.ref T :: vs) H1 Q (WE W σ)) (h γ Oc r σ H fs g) fun ds r1 vs H1 ⟨fs1, g1, v1, s1⟩ => ?_
    refine SimAt.tr s1 ?_
    clear e sl tp nd ow tt e1 e2 e4
    obtain ⟨⟨b1, b2, e, sl, tp⟩, nd, ow, tt⟩ := id g1
    obtain ⟨hm, t, q1, q2⟩ := g1.tape hT
    rw [q1] at tp ⊢
    obtain ⟨b, c1, c2, c3⟩ := tp
    rw [hT] at c1; cases c1
    dsimp only
    have mem : ∀ a, a ∈ T :: (b1 ++ Oc) ↔ a ∈ fs1 ++ Oc := fun a => by
      rw [e, c3]
      simp only [List.mem_cons, List.mem_append, List.mem_singleton]
      constructor
      · rintro (z | z | z)
        · simp [z]
        · simp [z]
        · simp [z]
      · rintro ((z | z | z) | z)
        · simp [z]
        · simp [z]
        · simp at z
        · simp [z]
    have nd1 : (T :: (b1 ++ Oc)).Nodup := by
      refine nd_of (fun a => ?_) nd
      rw [e, c3]
      simp only [List.count_append, List.count_cons, List.count_nil]
      omega
    have rs1 : Rs K (T :: (b1 ++ Oc)) H1 ds vs := Rs.stab ow (Stab.weak (fun a z => (mem a).mp z) fun _ _ z => z) _ _ v1
    have ow1 : Own (b1 ++ Oc) H1 := ow.mono fun a z => (mem a).mp (List.mem_cons_of_mem _ z)
    have kept : ∀ {H' : Hp} {t' : Int × Int}, SameU T H1 H' → H' T = some (tapeO t') → SameT (upd H1 T (tapeO t')) H' := fun kp hT' => ⟨fun a o q ht => (by
      by_cases ha : a = T
      · subst ha; rw [upd_same] at q; rw [hT']; exact q
      · rw [upd_ne ha] at q; exact kp.kp a o q ha ht), fun x h => (by
      obtain ⟨a, b⟩ := x
      by_cases ha : a = T
      · subst ha
        cases b with
        | false => exact NN.of hT'
        | true =>
          obtain ⟨ps, q⟩ := h
          have q : upd H1 a (tapeO _) a = some (.tbl ps) := q
          rw [upd_same] at q; cases q
      · refine kp.th (a, b) ?_
        cases b with
        | false =>
          have h : upd H1 T (tapeO _) a ≠ none := h
          rw [upd_ne ha] at h; exact h
        | true =>
          obtain ⟨ps, q⟩ := h
          have q : upd H1 T (tapeO _) a = some (.tbl ps) := q
          rw [upd_ne ha] at q; exact ⟨ps, q⟩), fun P h => kp.tb P (tabs_unupd h)⟩
    have stp : ∀ {H' : Hp} {t' : Int × Int}, SameU T H1 H' → H' T = some (tapeO t') → Stp γ.T fs1 H1 fs1 H' := fun kp hT' => ⟨fun _ z => z, fun a o q n ht => kp.kp a o q (fun z => by subst z; exact n hT hm) ht, kp.th, kp.tb⟩
    by_cases hn : ds.length = n
    · rw [if_pos hn]
      intro Q
      unfold outT
      cases eF : F t ds with
      | bad => trivial
      | ok y tp =>
        cases tp with
        | none => trivial
        | some t' =>
          dsimp only
          by_cases ho : y.out = true
          · rw [if_pos ho]
            intro hq
            refine ⟨T, t, vs, ds, b1 ++ Oc, rfl, by rw [v1.len, hn], q2, ow1, nd1, rs1, ?_⟩
            rw [eF]
            refine ⟨ho, fun H' v fp kp hT' ndp nw owp hv => hq v H' ?_⟩
            have nw' : ∀ a ∈ fp, upd H1 T (tapeO t') a = none := fun a z => by
              have := nw a z
              rw [upd_ne fun y => by rw [y, q2] at this; cases this]; exact this
            have g2 := (g1.tapeSet (t' := t') hT).grow (kept kp hT') nw' ndp owp
            have ow3 : Own (fp ++ (T :: (b1 ++ Oc))) H' := g2.ow.mono fun a z => by
              simp only [List.mem_append] at z ⊢
              rcases z with z | z
              · simp [z]
              · have := (mem a).mp z
                simp only [List.mem_append] at this
                rcases this with z | z <;> simp [z]
            refine ⟨fs1, fp, g2, SVR.ghost ho (hv.mono ow3 fun a z => ?_), stp kp hT', nw⟩
            simp only [List.mem_append] at z
            rcases z with z | z | z
            · exact List.mem_append_right _ ((mem a).mpr (by simp [z]))
            · simp [z]
            · exact List.mem_append_right _ ((mem a).mpr (by simp [z]))
          · rw [if_neg ho]; trivial
      | exc c fl tp =>
        cases tp with
        | none => trivial
        | some t' =>
          dsimp only
          intro hw
          refine ⟨T, t, vs, ds, b1 ++ Oc, rfl, by rw [v1.len, hn], q2, ow1, nd1, rs1, ?_⟩
          rw [eF]
          refine fun C d H' kp hT' m x => hw C d H' ?_
          have g2 := (g1.tapeSet (t' := t') hT).kept (kept kp hT')
          exact ⟨fs1, g2, stp kp hT', m, xr_sub (g2.ow.mono fun a z => (mem a).mp z) (fun a z => (mem a).mpr z) x⟩
    · rw [if_neg hn]; exact fun Q => trivial
  · exact fun Q => trivial
end
section
variable {X : Cx} {k n i : Nat} {f : Addr} {fd : FuncData} {ps : List Str} {sp : Sp} {x y : Str} {p p2 pos : Pos} {e : Expr} {es : List Expr} {tl : TA} {W : WX} {F : List D → FR} {F2 : Int × Int → List D → FR} {FL : S → Res (List D)}
theorem ex_call (Fn : FnG X.prog X.w X.K X.mg X.base k f fd ps (spF X.K X.mg n F)) (hG : X.A.guards = some []) (hr : Room k X.A) (hg : Gl X x) (hm : X.mg x = some (.ref f)) (hk : PySem.W.keepIn X.K (.ref f) = true) (hb : Binds X.K fd ps []) (tk : Takes X W)
    (ha : AX X W (e :: es) tl FL) (hdb : (x == ("__debug__" : Str)) = false := by decide) (he : starEach (e :: es) X.env = (false, eval e X.env) :: starEach es X.env := by rfl) (hpl : (backTo pos (starEach es X.env)).any (·.1) = false := by rfl) :
    EX X W (.Call (.Name x p) (e :: es) [] pos) (tCallS (spF X.K X.mg n F) (WE W) tl) (fCall n F FL) := ⟨pe_callF Fn hG hr hg hm hk hb tk ha.pe hdb he hpl, sim_call ha.sim⟩
theorem ex_callT (Fn : FnG X.prog X.w X.K X.mg X.base k f fd ps (spT X.K X.mg n F2)) (hG : X.A.guards = some []) (hr : Room k X.A) (hg : Gl X x) (hm : X.mg x = some (.ref f)) (hk : PySem.W.keepIn X.K (.ref f) = true) (hb : Binds X.K fd ps []) (tk : Takes X W)
    (hv : PE X e (tVar i)) (ha : AX X W es tl FL) (hdb : (x == ("__debug__" : Str)) = false := by decide) (he : starEach (e :: es) X.env = (false, eval e X.env) :: starEach es X.env := by rfl) (hpl : (backTo pos (starEach es X.env)).any (·.1) = false := by rfl) :
    EX X W (.Call (.Name x p) (e :: es) [] pos) (tCallS (spT X.K X.mg n F2) (WE W) (tCons (tVar i) tl)) (fCallT i n F2 FL) := ⟨pe_callF Fn hG hr hg hm hk hb tk (pa_cons hv ha.pe he) hdb he hpl, sim_callT ha.sim⟩
end
end QL
namespace QL
open PySem PySem.Spec L2
def gNm (i : Nat) : D → S → Option S := fun d r => if i < r.sl.length then some { r with sl := r.sl.set i (some (.fz d)) } else none
section
variable {X : Cx} {tg e : Expr} {tgs : List Expr} {g : TG} {gs : TGs} {G : D → S → Option S} {Gs : List D → S → Option S} {i k n : Nat} {x : Str} {pos : Pos}
theorem gx_name (h : PG X tg (gName i)) : GX X tg (gName i) (gNm i) := by
  refine ⟨h, fun γ Oc r σ H fs d v r' g hr e Q hq => ?_⟩
  unfold gNm at e
  split at e
  · rename_i hi
    cases e
    have g0 : Good X.K γ ([] ++ Oc) r σ H fs := g
    obtain ⟨fs', g', sub⟩ := g0.store (x := .fz d) ⟨hr, rfl⟩ hi
    exact hq _ fs' g' fun a z => (sub a z).elim id fun z => by cases z
  · cases e
def gNilF : List D → S → Option S := fun ds r => match ds with
  | [] => some r
  | _ => none
def gConsF (G : D → S → Option S) (Gs : List D → S → Option S) : List D → S → Option S := fun ds r => match ds with
  | d :: ds => match G d r with
    | some r => Gs ds r
    | none => none
  | [] => none
def gTupF (n : Nat) (Gs : List D → S → Option S) : D → S → Option S := fun d r => match d with
  | .tuple ds => if ds.length = n then Gs ds r else none
  | _ => none
end
section
variable {X : Cx} {W : WX} {tg e a b c : Expr} {es : List Expr} {ta tb : TE} {tl : TA} {fa fb : S → Res D} {FL : S → Res (List D)} {w1 w2 : TI} {p pos : Pos}
theorem pi_or (h1 : PI X tg e w1) (h2 : PI X tg e w2) : PI X tg e (fun σ H R => w1 σ H R ∨ w2 σ H R) :=
  ⟨fun pins s σ H R I h => h.elim (h1.run pins s σ H R I) (h2.run pins s σ H R I)⟩
/-- the items -/
def itemsD : D → Option (List D)
  | .list ds => some ds
  | .tuple ds => some ds
  | .str z => some (z.cps.toList.map fun c => .str (tx [c]))
  | _ => none
def iSeq (K : PySem.W.Frag) (te : TE) : TI := fun σ H R => iList K te σ H R ∨ iTup K te σ H R ∨ iStr te σ H R
def fItems (fa : S → Res D) : S → Res (List D) := fun r => (fa r).bind fun d r => match itemsD d with
  | some ds => Res.ok ds r
  | none => Res.bad
theorem SqL.stab {K : PySem.W.Frag} {O O' : List Addr} {H H' : Hp} {a : Addr} {vs : List V} (n : a ∉ O) (q : H a = some (.lst vs)) (st : Stab O H O' H') : SqL K H' a vs := .inl (.inl ((st a n (by rw [q]; simp)).2.2 _ trivial q))
theorem SqT.stab {K : PySem.W.Frag} {O O' : List Addr} {H H' : Hp} {a : Addr} {vs : List V} (ow : Own O H) (q : SqT K H a vs) (st : Stab O H O' H') : SqT K H' a vs := by
  rcases q with q | q
  · exact .inl ((st a (ow.ntup q) (Rd.ne q)).2.1 _ trivial q)
  · exact .inr q
/-- one expression whose items are walked, read by w, chosen by its value -/
theorem sim_items {K : PySem.W.Frag} {mg : Str → Option Value} (h : Sim K mg W (PF K) ta fa) : Sim K mg W (PIt K) (iSeq K ta) (fItems fa) := by
  intro γ Oc r σ H fs g Q
  unfold fItems
  have z := h γ Oc r σ H fs g
  cases eF : fa r with
  | bad => trivial
  | exc c f r' => rw [eF] at z; exact fun hw => .inl (z _ hw)
  | ok d r' =>
    rw [eF] at z
    unfold Res.bind
    dsimp only
    cases d with
    | list ds =>
      refine fun hq => .inl (z _ fun y H1 ⟨fs1, g1, v1, s1⟩ => ?_)
      simp only [R] at v1
      obtain ⟨a, vs, e1, n, q, rs⟩ := v1
      refine ⟨a, e1, ⟨vs, .inl (.inl q)⟩, hq _ _ ⟨fs1, g1, fun O' H' ow' st i => ⟨fun hi => ?_, fun hi => ⟨vs, SqL.stab n q st, by rw [rs.len]; omega⟩⟩, s1⟩⟩
      have q' : H' a = some (.lst vs) := (st a n (by rw [q]; simp)).2.2 (.lst vs) trivial q
      obtain ⟨v, hv, _⟩ := rs.get (List.getElem?_eq_getElem hi)
      refine ⟨⟨vs, v, SqL.stab n q st, hv⟩, fun x H2 ⟨eH, hx⟩ => ?_⟩
      subst eH
      refine ⟨fun _ _ z => z, fun d hd => ?_⟩
      have hx' := hx vs (.inl (.inl q'))
      obtain ⟨u, hu, ru⟩ := (Rs.stab g1.ow st _ _ rs).get hd
      rw [hx'] at hu; cases hu
      exact ru
    | tuple ds =>
      refine fun hq => .inr (.inl (z _ fun y H1 ⟨fs1, g1, v1, s1⟩ => ?_))
      simp only [R] at v1
      obtain ⟨a, vs, e1, q, rs⟩ := v1
      replace q := TupAt.sq q
      refine ⟨a, e1, ⟨vs, q⟩, hq _ _ ⟨fs1, g1, fun O' H' ow' st i => ⟨fun hi => ?_, fun hi => ⟨vs, SqT.stab g1.ow q st, by rw [rs.len]; omega⟩⟩, s1⟩⟩
      have q' := SqT.stab g1.ow q st
      obtain ⟨v, hv, _⟩ := rs.get (List.getElem?_eq_getElem hi)
      refine ⟨⟨vs, v, q', hv⟩, fun x H2 ⟨eH, hx⟩ => ?_⟩
      subst eH
      refine ⟨fun _ _ z => z, fun d hd => ?_⟩
      have hx' := hx vs q'
      obtain ⟨u, hu, ru⟩ := (Rs.stab g1.ow st _ _ rs).get hd
      rw [hx'] at hu; cases hu
      exact ru
    | str zt =>
      refine fun hq => .inr (.inr (z _ fun y H1 ⟨fs1, g1, v1, s1⟩ => ?_))
      simp only [R] at v1
      refine ⟨zt, v1, hq _ _ ⟨fs1, g1, fun O' H' ow' st i => ⟨fun hi => ?_, fun hi => ?_⟩, s1⟩⟩
      · simp only [List.length_map, Array.length_toList] at hi
        refine ⟨hi, fun x H2 ⟨eH, c, hc, ex⟩ => ?_⟩
        subst eH ex
        refine ⟨fun _ _ z => z, fun d hd => ?_⟩
        rw [List.getElem?_map, Array.getElem?_toList, hc] at hd
        cases hd
        simp only [R]; rfl
      · simp only [List.length_map, Array.length_toList] at hi
        exact Nat.le_of_eq hi.symm
    | _ => trivial
theorem ix_seq (h : FX X W a ta fa) : IX X W tg a (iSeq X.K ta) (fItems fa) := ⟨pi_or (pi_list h.pe) (pi_or (pi_tup h.pe) (pi_str h.pe)), sim_items h.sim⟩
def rngL (lo : Int) (n : Nat) : List D := (List.range n).map fun i => .int (lo + (i : Nat))
@[irreducible] def sml (i : Int) : Bool := decide (-(2 ^ 62) ≤ i ∧ i < 2 ^ 62)
def fRng1 (FL : S → Res (List D)) : S → Res (List D) := fun r => (FL r).bind fun ds r => match intsD ds with
  | some [j] => if sml j = true then Res.ok (rngL 0 j.toNat) r else Res.bad
  | _ => Res.bad
def fRng2 (FL : S → Res (List D)) : S → Res (List D) := fun r => (FL r).bind fun ds r => match intsD ds with
  | some [i, j] => if sml i = true ∧ sml j = true then Res.ok (rngL i (j - i).toNat) r else Res.bad
  | _ => Res.bad
def fRng3 (FL : S → Res (List D)) : S → Res (List D) := fun r => (FL r).bind fun ds r => match intsD ds with
  | some [i, j, c] => if sml i = true ∧ sml j = true ∧ c = -1 then Res.ok ((List.range (i - j).toNat).map fun k => .int (i - (k : Nat))) r else Res.bad
  | _ => Res.bad
theorem sml_ok {i : Int} (h : sml i = true) : -(2 ^ 62) ≤ i ∧ i < 2 ^ 62 := by simpa [sml] using h
theorem ylds_rng {K : PySem.W.Frag} {O : List Addr} {H : Hp} (lo : Int) (n : Nat) : Ylds K O H (Itr lo n) (rngL lo n) := by
  intro O' H' ow' st i
  unfold rngL
  rw [List.length_map, List.length_range]
  refine ⟨fun hi => ⟨hi, fun x H2 ⟨eH, ex⟩ => ?_⟩, fun hi => ?_⟩
  · subst eH ex
    refine ⟨fun _ _ z => z, fun d hd => ?_⟩
    rw [List.getElem?_map, List.getElem?_range hi] at hd
    cases hd
    simp only [R]
  · exact Nat.le_of_eq hi.symm
theorem sim_rng1 {K : PySem.W.Frag} {mg : Str → Option Value} (h : Sim K mg W (PL K) tl FL) : Sim K mg W (PIt K) (iRng1 tl) (fRng1 FL) := by
  intro γ Oc r σ H fs g
  refine SimAt.bind (t2 := fun (vs : List V) (H1 : Hp) (Q : It → Hp → Prop) => ∃ j : Int, vs = [.int j] ∧ -(2 ^ 62) ≤ j ∧ j < 2 ^ 62 ∧ Q (Itr 0 j.toNat) H1) (h γ Oc r σ H fs g) fun ds r1 vs H1 ⟨fs1, g1, v1, s1⟩ => ?_
  split
  · rename_i j ei
    split
    · rename_i hj
      obtain ⟨h1, h2⟩ := sml_ok hj
      exact fun Q hq => ⟨j, v1.ints ei, h1, h2, hq _ _ ⟨fs1, g1, ylds_rng _ _, s1⟩⟩
    · exact fun Q => trivial
  · exact fun Q => trivial
theorem sim_rng2 {K : PySem.W.Frag} {mg : Str → Option Value} (h : Sim K mg W (PL K) tl FL) : Sim K mg W (PIt K) (iRng2 tl) (fRng2 FL) := by
  intro γ Oc r σ H fs g
  refine SimAt.bind (t2 := fun (vs : List V) (H1 : Hp) (Q : It → Hp → Prop) => ∃ i j : Int, vs = [.int i, .int j] ∧ (-(2 ^ 62) ≤ i ∧ i < 2 ^ 62 ∧ -(2 ^ 62) ≤ j ∧ j < 2 ^ 62) ∧ Q (Itr i (j - i).toNat) H1) (h γ Oc r σ H fs g) fun ds r1 vs H1 ⟨fs1, g1, v1, s1⟩ => ?_
  split
  · rename_i i j ei
    split
    · rename_i hj
      obtain ⟨h1, h2⟩ := sml_ok hj.1
      obtain ⟨h3, h4⟩ := sml_ok hj.2
      exact fun Q hq => ⟨i, j, v1.ints ei, ⟨h1, h2, h3, h4⟩, hq _ _ ⟨fs1, g1, ylds_rng _ _, s1⟩⟩
    · exact fun Q => trivial
  · exact fun Q => trivial
theorem ix_rng1 (hg : Gl X "range") (hm : X.mg "range" = none) (ha : AX X W [a] tl FL) (hs : starEach [a] X.env = [(false, eval a X.env)] := by rfl) : IX X W tg (.Call (.Name "range" p) [a] [] pos) (iRng1 tl) (fRng1 FL) := ⟨pi_range1 hg hm ha.pe hs, sim_rng1 ha.sim⟩
theorem ix_rng2 (hg : Gl X "range") (hm : X.mg "range" = none) (ha : AX X W [a, b] tl FL) (hs : starEach [a, b] X.env = [(false, eval a X.env), (false, eval b X.env)] := by rfl) (hs2 : starEach [b] X.env = [(false, eval b X.env)] := by rfl) :
    IX X W tg (.Call (.Name "range" p) [a, b] [] pos) (iRng2 tl) (fRng2 FL) := ⟨pi_range2 hg hm ha.pe hs hs2, sim_rng2 ha.sim⟩
end
end QL
namespace QL
open PySem PySem.Spec L2
inductive Sr where
  | l (a : Addr) | t (a : Addr) | s (x : Str)
def SrAt (K : PySem.W.Frag) (H : Hp) : Sr → List V → Prop
  | .l a, xs => SqL K H a xs
  | .t a, xs => SqT K H a xs
  | .s x, xs => xs = x.cps.toList.map fun c => .str ⟨#[c]⟩
def SrIt (c : Sr) (it : Addr) (i : Nat) (h : Heap) : Prop := match c with
  | .l a => h.IsListIter it a i
  | .t a => h.IsTupleIter it a i
  | .s x => ∃ t, h.IsStrIter it (strIterType x) x t i
theorem SrIt.keep {c : Sr} {it : Addr} {i : Nat} {h h' : Heap} (x : SrIt c it i h) (k : ∀ o, h.get? it = some o → h'.get? it = some o) : SrIt c it i h' := by
  cases c with
  | l a => obtain ⟨o, e, r⟩ := x; exact ⟨o, k _ e, r⟩
  | t a => obtain ⟨o, e, r⟩ := x; exact ⟨o, k _ e, r⟩
  | s y => obtain ⟨t, o, e, r⟩ := x; exact ⟨t, o, k _ e, r⟩
theorem SrAt.stab {K : PySem.W.Frag} {O O' : List Addr} {H H' : Hp} {c : Sr} {d : D} {ds : List D} {vs : List V} : True := trivial
/-- a source of data, frozen -/
def SrD (K : PySem.W.Frag) (O : List Addr) (H : Hp) (c : Sr) (ds : List D) : Prop := match c with
  | .l a => ∃ vs, a ∉ O ∧ H a = some (.lst vs) ∧ Rs K O H ds vs
  | .t a => ∃ vs, SqT K H a vs ∧ Rs K O H ds vs
  | .s x => ds = x.cps.toList.map fun c => .str (tx [c])
theorem SrD.stab {K : PySem.W.Frag} {O O' : List Addr} {H H' : Hp} {c : Sr} {ds : List D} (ow : Own O H) (st : Stab O H O' H') (h : SrD K O H c ds) : SrD K O' H' c ds := by
  cases c with
  | l a =>
    obtain ⟨vs, n, q, h⟩ := h
    obtain ⟨n', _, k⟩ := st a n (by rw [q]; simp)
    exact ⟨vs, n', k _ trivial q, Rs.stab ow st _ _ h⟩
  | t a =>
    obtain ⟨vs, q, h⟩ := h
    exact ⟨vs, SqT.stab ow q st, Rs.stab ow st _ _ h⟩
  | s x => exact h
theorem SrD.at {K : PySem.W.Frag} {O : List Addr} {H : Hp} {c : Sr} {ds : List D} (h : SrD K O H c ds) : ∃ vs, SrAt K H c vs ∧ Rs K O H ds vs := by
  cases c with
  | l a => obtain ⟨vs, n, q, h⟩ := h; exact ⟨vs, .inl (.inl q), h⟩
  | t a => obtain ⟨vs, q, h⟩ := h; exact ⟨vs, q, h⟩
  | s x =>
    refine ⟨_, rfl, ?_⟩
    have h : ds = x.cps.toList.map fun c => .str (tx [c]) := h
    rw [h]
    have e1 : (x.cps.toList.map fun c => PyData.str (tx [c])) = (x.cps.toList.map fun c => tx [c]).map PyData.str := by rw [List.map_map]; rfl
    have e2 : (x.cps.toList.map fun c => V.str ⟨#[c]⟩) = (x.cps.toList.map fun c => tx [c]).map V.str := by rw [List.map_map]; rfl
    rw [e1, e2]
    exact Rs.ofStrs _
def enumL (ds : List D) : List D := (List.range ds.length).zipWith (fun i d => .tuple [.int (i : Nat), d]) ds
def fEnum (FL : S → Res (List D)) : S → Res (List D) := fun r => (FL r).bind fun ds r => match ds with
  | [.list ds] => Res.ok (enumL ds) r
  | [.str z] => Res.ok (enumL (z.cps.toList.map fun c => .str (tx [c]))) r
  | _ => Res.bad
end QL
namespace QL
open PySem PySem.Spec L2
abbrev WN : WX := fun _ _ _ _ => False
theorem wipe_at (σ : St) : ∀ (vs : List Nat) (j : Nat), (L2.wipe σ vs)[j]? = if j ∈ vs ∧ j < σ.length then some none else σ[j]?
  | [], j => by simp [L2.wipe]
  | v :: vs, j => by
    show ((L2.wipe σ vs).set v none)[j]? = _
    rw [List.getElem?_set, wipe_at σ vs j, L2.wipe_length]
    by_cases h : v = j
    · subst h
      by_cases hl : v < σ.length
      · simp [hl]
      · have : σ[v]? = none := List.getElem?_eq_none (by omega)
        simp [hl, this]
    · have h' : j ≠ v := fun e => h e.symm
      simp [h, h']
theorem wipe_set {σ : St} {i : Nat} {x : Option V} {vs : List Nat} (h : i ∈ vs) : L2.wipe (σ.set i x) vs = L2.wipe σ vs := by
  apply List.ext_getElem?
  intro j
  rw [wipe_at, wipe_at, List.length_set, List.getElem?_set]
  by_cases hj : i = j
  · subst hj
    by_cases hl : i < σ.length
    · simp [h, hl]
    · simp [hl]
  · simp [hj]
theorem wipe_wipe {σ : St} {vs : List Nat} : L2.wipe (L2.wipe σ vs) vs = L2.wipe σ vs := by
  apply List.ext_getElem?
  intro j
  rw [wipe_at, wipe_at, L2.wipe_length]
  by_cases h : j ∈ vs ∧ j < σ.length
  · simp [h]
  · simp [h]
/-- a target writes the block's own names alone -/
structure GWipe (vs : List Nat) (g : TG) : Prop where
  mono : ∀ v σ H (Q Q' : St → Hp → Prop), (∀ s h, Q s h → Q' s h) → g v σ H Q → g v σ H Q'
  own : ∀ v σ H Q, g v σ H Q → g v σ H fun σ2 H2 => Q σ2 H2 ∧ L2.wipe σ2 vs = L2.wipe σ vs
theorem gw_name {vs : List Nat} {i : Nat} (h : i ∈ vs) : GWipe vs (gName i) := ⟨fun _ _ _ _ _ k q => k _ _ q, fun v σ H Q q => ⟨q, wipe_set h⟩⟩
/-- the slots of the own names forgotten -/
def wipeS : List Nat → List (Option SV) → List (Option SV)
  | [], sl => sl
  | v :: vs, sl => (wipeS vs sl).set v none
theorem wipeS_len (sl : List (Option SV)) : ∀ vs, (wipeS vs sl).length = sl.length
  | [] => rfl
  | v :: vs => by unfold wipeS; rw [List.length_set, wipeS_len sl vs]
/-- .. and as they were, where frozen -/
def restS : List Nat → List (Option SV) → List (Option SV) → List (Option SV)
  | [], _, sl => sl
  | v :: vs, old, sl => match old[v]? with
    | some (some (.fz d)) => (restS vs old sl).set v (some (.fz d))
    | _ => restS vs old sl
section
variable {K : PySem.W.Frag} {mg : Str → Option Value} {W : WX} {γ : Gh} {Oc : List Addr} {r r1 r2 : S} {σ : St} {H H' H1 H2 : Hp} {fs fs1 fp : List Addr}
theorem Slots.any {O : List Addr} : ∀ {sl : List (Option SV)} {σ : St} {fp : List Addr} {i : Nat} {y : Option V}, Slots K γ O H sl σ fp → sl[i]? = some none → Slots K γ O H sl (σ.set i y) fp
  | [], σ, fp, i, y, h, e => by simp at e
  | none :: r, σ, fp, 0, y, h, e => by
    obtain ⟨x, σ', e1, h⟩ := h
    exact ⟨y, σ', by rw [e1]; rfl, h⟩
  | none :: r, σ, fp, i + 1, y, h, e => by
    obtain ⟨x, σ', e1, h⟩ := h
    exact ⟨x, σ'.set i y, by rw [e1]; rfl, Slots.any h (by simpa using e)⟩
  | some s :: r, σ, fp, 0, y, h, e => by simp at e
  | some s :: r, σ, fp, i + 1, y, h, e => by
    obtain ⟨v, σ', f1, f2, e1, e2, h1, h2⟩ := h
    exact ⟨v, σ'.set i y, f1, f2, by rw [e1]; rfl, e2, h1, Slots.any h2 (by simpa using e)⟩
/-- one slot forgotten -/
theorem Good.forget1 {i : Nat} (g : Good K γ Oc r σ H fs) : ∃ fs', Good K γ Oc { r with sl := r.sl.set i none } (σ.set i none) H fs' ∧ ∀ a ∈ fs', a ∈ fs := by
  obtain ⟨⟨f1, f2, e, sl, tp⟩, nd, ow, tt⟩ := id g
  by_cases hi : i < r.sl.length
  · obtain ⟨a1, a2, a3, e2, _, _, hlet⟩ := sl.upd hi
    have sub : ∀ a ∈ ((a1 ++ a3) ++ f2) ++ Oc, a ∈ fs ++ Oc := fun a z => by
      rw [e, e2]
      simp only [List.mem_append] at z ⊢
      rcases z with ((z | z) | z) | z <;> simp [z]
    refine ⟨(a1 ++ a3) ++ f2, ⟨⟨a1 ++ a3, f2, rfl, ?_, tp⟩, ?_, ow.mono sub, tt⟩, fun a z => ?_⟩
    · exact Slots.any (hlet ow (Stab.weak sub fun _ _ z => z) fun _ _ => rfl) (by rw [List.getElem?_set_self hi])
    · refine nd_of (fun a => ?_) nd
      rw [e, e2]
      simp only [List.count_append]
      omega
    · rw [e, e2]
      simp only [List.mem_append] at z ⊢
      rcases z with (z | z) | z <;> simp [z]
  · have hl := sl.len
    rw [List.set_eq_of_length_le (by omega), List.set_eq_of_length_le (by omega)]
    exact ⟨fs, g, fun _ z => z⟩
theorem Good.wipe (g : Good K γ Oc r σ H fs) : ∀ vs : List Nat, ∃ fs', Good K γ Oc { r with sl := wipeS vs r.sl } (L2.wipe σ vs) H fs' ∧ ∀ a ∈ fs', a ∈ fs
  | [] => ⟨fs, g, fun _ z => z⟩
  | v :: vs => by
    obtain ⟨f1, g1, s1⟩ := Good.wipe g vs
    obtain ⟨f2, g2, s2⟩ := g1.forget1 (i := v)
    exact ⟨f2, g2, fun a z => s1 a (s2 a z)⟩
/-- a frozen slot is known again -/
theorem Good.know {i : Nat} {u : V} {d : D} (g : Good K γ Oc r σ H fs) (e : σ[i]? = some (some u)) (h : R K (fs ++ Oc) H d u) : ∃ fs', Good K γ Oc { r with sl := r.sl.set i (some (.fz d)) } σ H fs' ∧ ∀ a ∈ fs', a ∈ fs := by
  have g0 : Good K γ ([] ++ Oc) r σ H fs := g
  have hl : i < r.sl.length := by
    obtain ⟨⟨f1, f2, _, sl, _⟩, _⟩ := g
    rw [← sl.len]
    exact (List.getElem?_eq_some_iff.mp e).1
  obtain ⟨fs', g', sub⟩ := g0.store (x := .fz d) ⟨h, rfl⟩ hl
  have : σ.set i (some u) = σ := by
    obtain ⟨hj, e4⟩ := List.getElem?_eq_some_iff.mp e
    rw [← e4, List.set_getElem_self]
  rw [this] at g'
  exact ⟨fs', g', fun a z => (sub a z).elim id fun z => by cases z⟩
/-- what stood frozen at the names, told to the end -/
def Old (K : PySem.W.Frag) (O : List Addr) (H : Hp) (σ : St) (old : List (Option SV)) : Prop := ∀ (i : Nat) (d : D), old[i]? = some (some (SV.fz d)) → ∃ u, σ[i]? = some (some u) ∧ R K O H d u
theorem Good.old (g : Good K γ Oc r σ H fs) : Old K (fs ++ Oc) H σ r.sl := fun i d h => by
  obtain ⟨⟨f1, f2, _, sl, _⟩, _⟩ := g
  obtain ⟨v, a1, a2, a3, e1, e2, e3⟩ := sl.at h
  exact ⟨v, e1, e3.1⟩
theorem Good.rest {old : List (Option SV)} (g : Good K γ Oc r σ H fs) (ho : Old K (fs ++ Oc) H σ old) : ∀ vs : List Nat, ∃ fs', Good K γ Oc { r with sl := restS vs old r.sl } σ H fs' ∧ ∀ a ∈ fs', a ∈ fs
  | [] => ⟨fs, g, fun _ z => z⟩
  | v :: vs => by
    obtain ⟨f1, g1, s1⟩ := Good.rest g ho vs
    unfold restS
    split
    · rename_i d e
      obtain ⟨u, e1, ru⟩ := ho v d e
      have ru' : R K (f1 ++ Oc) H d u := R.stab g.ow (Stab.weak (fun a z => by
        rcases List.mem_append.mp z with z | z
        · exact List.mem_append_left _ (s1 a z)
        · exact List.mem_append_right _ z) fun _ _ z => z) _ _ ru
      obtain ⟨f2, g2, s2⟩ := g1.know e1 ru'
      exact ⟨f2, g2, fun a z => s1 a (s2 a z)⟩
    · exact ⟨f1, g1, s1⟩
/-- a state whose slots no longer tell the names: σ is put back -/
theorem Slots.unwipe {O : List Addr} {sl : List (Option SV)} {σ : St} : ∀ (vs : List Nat) {fp : List Addr}, Slots K γ O H sl (L2.wipe σ vs) fp → (∀ v ∈ vs, v < sl.length → sl[v]? = some none) → Slots K γ O H sl σ fp
  | [], fp, h, _ => h
  | v :: vs, fp, h, hn => by
    refine Slots.unwipe vs (fp := fp) ?_ fun u hu => hn u (List.mem_cons_of_mem _ hu)
    have hl := h.len
    have h : Slots K γ O H sl ((L2.wipe σ vs).set v none) fp := h
    by_cases hv : v < sl.length
    · have hv' : v < (L2.wipe σ vs).length := by
        have : ((L2.wipe σ vs).set v none).length = sl.length := h.len
        rw [List.length_set] at this
        omega
      have z := Slots.any (y := (L2.wipe σ vs)[v]) h (hn v List.mem_cons_self hv)
      rw [List.set_set, List.set_getElem_self] at z
      exact z
    · have : (L2.wipe σ vs).length ≤ v := by
        have : ((L2.wipe σ vs).set v none).length = sl.length := h.len
        rw [List.length_set] at this
        omega
      rw [List.set_eq_of_length_le this] at h
      exact h
theorem wipeS_none (sl : List (Option SV)) : ∀ (vs : List Nat) (v : Nat), v ∈ vs → v < sl.length → (wipeS vs sl)[v]? = some none
  | [], v, h, _ => by cases h
  | u :: vs, v, h, hl => by
    unfold wipeS
    rw [List.getElem?_set]
    by_cases e : u = v
    · subst e
      simp [wipeS_len, hl]
    · rw [if_neg e]
      exact wipeS_none sl vs v ((List.mem_cons.mp h).resolve_left fun z => e z.symm) hl
theorem Good.unwipe {vs : List Nat} {r : S} {sl : List (Option SV)} (g : Good K γ Oc r (L2.wipe σ vs) H fs) (e : r.sl = wipeS vs sl) : Good K γ Oc r σ H fs := by
  obtain ⟨⟨f1, f2, e0, sl0, tp⟩, nd, ow, tt⟩ := g
  refine ⟨⟨f1, f2, e0, Slots.unwipe vs sl0 fun v hv hl => ?_, tp⟩, nd, ow, tt⟩
  rw [e] at hl ⊢
  rw [wipeS_len] at hl
  exact wipeS_none sl vs v hv hl
/-- a temporary list gets a new content -/
theorem Good.setTmp {p : Addr} {vs : List V} (g : Good K γ ([p] ++ Oc) r σ H fs) : Good K γ ([p] ++ Oc) r σ (upd H p (.lst vs)) fs ∧ Stab (fs ++ ([p] ++ Oc)) H (fs ++ ([p] ++ Oc)) (upd H p (.lst vs)) ∧ p ∉ fs := by
  have g' := g
  obtain ⟨⟨f1, f2, e, sl, tp⟩, nd, ow, tt⟩ := g
  have np : p ∉ fs := fun z => (List.nodup_append.mp nd).2.2 p z p (by simp) rfl
  have ne : ∀ a, a ∉ fs ++ ([p] ++ Oc) → a ≠ p := fun a n z => n (by rw [z]; simp)
  have st : Stab (fs ++ ([p] ++ Oc)) H (fs ++ ([p] ++ Oc)) (upd H p (.lst vs)) := fun a n _ => ⟨n, fun u _ q => by
    rcases q with q | ⟨o, q⟩
    · exact .inl (by rw [upd_ne (ne a n)]; exact q)
    · exact .inr ⟨o, by rw [upd_ne (ne a n)]; exact q⟩, fun u _ q => by rw [upd_ne (ne a n)]; exact q⟩
  have nf : ∀ a ∈ fs, a ≠ p := fun a z y => np (y ▸ z)
  refine ⟨⟨⟨f1, f2, e, sl.stab ow st fun a z => upd_ne (nf a (by rw [e]; simp [z])), ?_⟩, nd, fun a z => ?_, tt.1, fun q hq => (by
    obtain ⟨o, ho, l⟩ := ow p (by simp)
    exact tabs_upd ho l (tt.2 q hq))⟩, st, np⟩
  · cases q : r.tp with
    | none => rw [q] at tp; exact tp
    | some t =>
      rw [q] at tp
      obtain ⟨a, e1, e2, e3⟩ := tp
      exact ⟨a, e1, by rw [upd_ne (nf a (by rw [e, e3]; simp))]; exact e2, e3⟩
  · by_cases ha : a = p
    · subst ha; exact ⟨_, upd_same, trivial⟩
    · obtain ⟨o, ho, l⟩ := ow a z
      exact ⟨o, by rw [upd_ne ha]; exact ho, l⟩
end
def lcF (vs : List Nat) (G : D → S → Option S) (T : S → Res Bool) (F : S → Res D) : List D → List D → S → Res (List D)
  | [], acc, r => .ok acc r
  | d :: ds, acc, r => match G d r with
    | none => .bad
    | some r => match T r with
      | .ok true r => match F r with
        | .ok y r => if acc.length < sizeLine then lcF vs G T F ds (acc ++ [y]) { r with sl := wipeS vs r.sl } else .bad
        | _ => .bad
      | .ok false r => lcF vs G T F ds acc { r with sl := wipeS vs r.sl }
      | _ => .bad
def fLc (vs : List Nat) (I : S → Res (List D)) (G : D → S → Option S) (T : S → Res Bool) (F : S → Res D) : S → Res SV := fun r => (I r).bind fun ds r => match lcF vs G T F ds [] { r with sl := wipeS vs r.sl } with
  | .ok acc r' => Res.ok (SV.ol acc) { r' with sl := restS vs r.sl r'.sl }
  | _ => Res.bad
/-- the mirror's slots stay wiped -/
theorem lcF_wiped {vs : List Nat} {G : D → S → Option S} {T : S → Res Bool} {F : S → Res D} : ∀ (ds acc : List D) (r : S) (acc' : List D) (r' : S), (∃ sl, r.sl = wipeS vs sl) → lcF vs G T F ds acc r = .ok acc' r' → ∃ sl, r'.sl = wipeS vs sl
  | [], acc, r, acc', r', h, e => by
    unfold lcF at e
    cases e
    exact h
  | d :: ds, acc, r, acc', r', h, e => by
    unfold lcF at e
    split at e
    · cases e
    · split at e
      · split at e
        · split at e
          · exact lcF_wiped ds _ _ acc' r' ⟨_, rfl⟩ e
          · cases e
        · cases e
      · exact lcF_wiped ds _ _ acc' r' ⟨_, rfl⟩ e
      · cases e
theorem sim_lc {K : PySem.W.Frag} {mg : Str → Option Value} {W : WX} {wi : TI} {g : TG} {tt : TT} {te : TE} {vs : List Nat} {I : S → Res (List D)} {G : D → S → Option S} {T : S → Res Bool} {F : S → Res D}
    (hi : Sim K mg W (PIt K) wi I) (hg : ∀ γ Oc r σ H fs d v r', Good K γ Oc r σ H fs → R K (fs ++ Oc) H d v → G d r = some r' → ∀ Q, (∀ σ' fs', Good K γ Oc r' σ' H fs' → (∀ a ∈ fs', a ∈ fs) → Q σ' H) → g v σ H Q) (hw : GWipe vs g)
    (ht : Sim K mg WN (PTt K) tt T) (he : Sim K mg WN (PF K) te F) : Sim K mg W (PV K) (tLc wi g tt te vs) (fLc vs I G T F) := by
  intro γ Oc r σ H fs g0
  refine SimAt.bind (t2 := fun (J : It) (H1 : Hp) (Q : VK) => ∀ D, H1 D = none → ∃ W : Nat → Nat → Hp → Prop, (∃ m, W 0 m (upd H1 D (.lst []))) ∧ ∀ i m H, W i m H →
    (J.stop i H ∧ Q (.ref D) H) ∨ (J.go i H ∧ ∃ Nx : Hp → Prop, (∀ H', Nx H' → ∃ m', m' < m ∧ W (i + 1) m' H') ∧ ∀ x H', J.yld i H x H' → g x (L2.wipe σ vs) H' fun σ2 H2 => L2.wipe σ2 vs = L2.wipe σ vs ∧ tt σ2 H2 fun b H3 =>
      if b = true then te σ2 H3 fun y H4 => ∃ acc, H4 D = some (.lst acc) ∧ acc.length < sizeLine ∧ Nx (upd H4 D (.lst (acc ++ [y]))) else Nx H3)) (hi γ Oc r σ H fs g0) fun ds r1 J H1 ⟨fs1, g1, yl, s1⟩ => ?_
  refine SimAt.tr s1 ?_
  cases eL : lcF vs G T F ds [] { r1 with sl := wipeS vs r1.sl } with
  | exc _ _ _ => exact fun Q => trivial
  | bad => exact fun Q => trivial
  | ok accE rE =>
    obtain ⟨slE, eslE⟩ := lcF_wiped _ _ _ _ _ ⟨_, rfl⟩ eL
    intro Q hq p hp
    have k0 := upd_kept (o := .lst []) hp
    obtain ⟨fw, gw, sw⟩ := g1.wipe vs
    have gw1 : Good K γ ([p] ++ Oc) { r1 with sl := wipeS vs r1.sl } (L2.wipe σ vs) (upd H1 p (.lst [])) fw := gw.grow k0 (by simpa using hp) (by simp) (by simp [Own, upd_same, LD])
    refine ⟨fun i m H => m = ds.length - i ∧ i ≤ ds.length ∧ ∃ r fs acc us, Good K γ ([p] ++ Oc) r (L2.wipe σ vs) H fs ∧ H p = some (.lst us) ∧ Rs K (fs ++ ([p] ++ Oc)) H acc us ∧ Stp γ.T fs1 H1 fs H ∧ lcF vs G T F (ds.drop i) acc r = .ok accE rE,
      ⟨ds.length, rfl, Nat.zero_le _, _, fw, [], [], gw1, upd_same, by simp [Rs], ⟨sw, fun a o e _ _ => k0 a o e, (SameT.of k0).th, (SameT.of k0).tb⟩, by simpa using eL⟩, ?_⟩
    rintro i m H ⟨rfl, hil, r, fs, acc, us, g, hD, racc, st, eF⟩
    have stab : Stab (fs1 ++ Oc) H1 (fs ++ ([p] ++ Oc)) H := fun a n e => by
      have nf : a ∉ fs1 := fun z => n (List.mem_append_left _ z)
      have np : a ≠ p := fun z => e (z ▸ hp)
      refine ⟨fun z => ?_, fun u hu q => ?_, fun u hu q => st.keep a _ q (fun _ => nf) hu.nt⟩
      · simp only [List.mem_append, List.mem_singleton] at z
        rcases z with z | z | z
        · exact nf (st.sub a z)
        · exact np z
        · exact n (List.mem_append_right _ z)
      · rcases q with q | ⟨o, q⟩
        · exact .inl (st.keep a _ q (fun _ => nf) hu.nt)
        · exact .inr ⟨o, st.keep a _ q fun _ => nf⟩
    obtain ⟨go, stop⟩ := yl (fs ++ ([p] ++ Oc)) H g.ow stab i
    by_cases hlt : i < ds.length
    · obtain ⟨hgo, hy⟩ := go hlt
      rw [List.drop_eq_getElem_cons hlt] at eF
      refine .inr ⟨hgo, fun H' => ∃ r' fs' acc' us', Good K γ ([p] ++ Oc) r' (L2.wipe σ vs) H' fs' ∧ H' p = some (.lst us') ∧ Rs K (fs' ++ ([p] ++ Oc)) H' acc' us' ∧ Stp γ.T fs1 H1 fs' H' ∧ lcF vs G T F (ds.drop (i + 1)) acc' r' = .ok accE rE, fun H' h => ⟨ds.length - (i + 1), by omega, rfl, hlt, h⟩, fun x H2 y => ?_⟩
      obtain ⟨kp, hx⟩ := hy x H2 y
      have rx := hx ds[i] (List.getElem?_eq_getElem hlt)
      have kp' : SameT H H2 := .of kp
      have g2 := g.kept kp'
      have racc2 : Rs K (fs ++ ([p] ++ Oc)) H2 acc us := Rs.stab g.ow (Stab.weak (fun _ z => z) kp) _ _ racc
      have st2 : Stp γ.T fs1 H1 fs H2 := st.trans (Stp.same _ _ kp')
      unfold lcF at eF
      cases eG : G ds[i] r with
      | none => rw [eG] at eF; cases eF
      | some r3 =>
        rw [eG] at eF
        dsimp only at eF
        refine hw.mono _ _ _ _ _ (fun σ2 H3 hh => ?_) (hw.own _ _ _ _ (hg γ ([p] ++ Oc) r (L2.wipe σ vs) H2 fs ds[i] x r3 g2 rx eG (fun σ' H3 => ∃ fs', Good K γ ([p] ++ Oc) r3 σ' H3 fs' ∧ (∀ a ∈ fs', a ∈ fs) ∧ H3 = H2) fun σ' fs' g' sub => ⟨fs', g', sub, rfl⟩))
        obtain ⟨⟨fs3, g3, sub3, eH⟩, ew⟩ := hh
        subst eH
        rw [wipe_wipe] at ew
        refine ⟨ew, ?_⟩
        have st3 : Stp γ.T fs1 H1 fs3 H3 := ⟨fun a z => st2.sub a (sub3 a z), @Stp.keep _ _ _ _ _ st2, st2.there, st2.tb⟩
        have racc3 : Rs K (fs3 ++ ([p] ++ Oc)) H3 acc us := Rs.stab g2.ow (Stab.weak (fun a z => by
          rcases List.mem_append.mp z with z | z
          · exact List.mem_append_left _ (sub3 a z)
          · exact List.mem_append_right _ z) fun _ _ z => z) _ _ racc2
        have hD3 : H3 p = some (.lst us) := kp _ _ hD
        have ztt := ht γ ([p] ++ Oc) r3 σ2 H3 fs3 g3
        -- the list itself is kept by the block's expressions
        have keepP : ∀ {fa fb : List Addr} {Ha Hb : Hp} {ra : S} {σa : St}, Good K γ ([p] ++ Oc) ra σa Ha fa → Stp γ.T fa Ha fb Hb → Ha p = some (.lst us) → Hb p = some (.lst us) := fun ga sa e => by
          rw [ga.tmp (fp := [p]) sa p (by simp)]
          exact e
        cases eT : T r3 with
        | exc _ _ _ => rw [eT] at eF; cases eF
        | bad => rw [eT] at eF; cases eF
        | ok b r4 =>
          rw [eT] at eF ztt
          refine ztt _ fun c H4 ⟨fs4, g4, ec, s4⟩ => ?_
          subst ec
          have racc4 : Rs K (fs4 ++ ([p] ++ Oc)) H4 acc us := Rs.stab g3.ow (g3.stabSub s4) _ _ racc3
          have hD4 := keepP g3 s4 hD3
          have st4 := st3.trans s4
          cases c with
          | false =>
            rw [if_neg (by simp)]
            obtain ⟨fs5, g5, sub5⟩ := g4.wipe vs
            rw [ew] at g5
            refine ⟨_, fs5, acc, us, g5, hD4, Rs.stab g4.ow (Stab.weak (fun a z => ?_) fun _ _ z => z) _ _ racc4, ⟨fun a z => st4.sub a (sub5 a z), @Stp.keep _ _ _ _ _ st4, st4.there, st4.tb⟩, eF⟩
            rcases List.mem_append.mp z with z | z
            · exact List.mem_append_left _ (sub5 a z)
            · exact List.mem_append_right _ z
          | true =>
            rw [if_pos rfl]
            dsimp only at eF
            have zee := he γ ([p] ++ Oc) r4 σ2 H4 fs4 g4
            cases eE : F r4 with
            | exc _ _ _ => rw [eE] at eF; cases eF
            | bad => rw [eE] at eF; cases eF
            | ok y r5 =>
              rw [eE] at eF zee
              dsimp only at eF
              split at eF
              · rename_i hsz
                refine zee _ fun u H5 ⟨fs5, g5, ry, s5⟩ => ?_
                have racc5 : Rs K (fs5 ++ ([p] ++ Oc)) H5 acc us := Rs.stab g4.ow (g4.stabSub s5) _ _ racc4
                have hD5 := keepP g4 s5 hD4
                have st5 := st4.trans s5
                refine ⟨us, hD5, by rw [racc5.len]; exact hsz, ?_⟩
                obtain ⟨g6, stb6, np6⟩ := g5.setTmp (vs := us ++ [u])
                have rall : Rs K (fs5 ++ ([p] ++ Oc)) H5 (acc ++ [y]) (us ++ [u]) := racc5.app (by simp only [Rs]; exact ⟨u, [], rfl, ry, rfl⟩)
                have rall6 := Rs.stab g5.ow stb6 _ _ rall
                obtain ⟨fs7, g7, sub7⟩ := g6.wipe vs
                rw [ew] at g7
                refine ⟨_, fs7, acc ++ [y], us ++ [u], g7, upd_same, Rs.stab g6.ow (Stab.weak (fun a z => ?_) fun _ _ z => z) _ _ rall6, ⟨fun a z => st5.sub a (sub7 a z), fun a o e n ht => ?_, fun a e => ?_, fun P h => tabs_upd hD5 trivial (st5.tb P h)⟩, eF⟩
                · rcases List.mem_append.mp z with z | z
                  · exact List.mem_append_left _ (sub7 a z)
                  · exact List.mem_append_right _ z
                · have np : a ≠ p := fun z => by rw [z, hp] at e; cases e
                  rw [upd_ne np]
                  exact st5.keep a o e n ht
                · exact nn_upd hD5 rfl (st5.there a e)
              · cases eF
    · have e : ds.drop i = [] := List.drop_eq_nil_of_le (by omega)
      rw [e] at eF
      unfold lcF at eF
      cases eF
      refine .inl ⟨stop (by omega), hq _ _ ?_⟩
      have gu := g.unwipe eslE
      have old : Old K (fs ++ ([p] ++ Oc)) H σ r1.sl := fun j d hd => by
        obtain ⟨u, hu, ru⟩ := g1.old j d hd
        exact ⟨u, hu, R.stab g1.ow stab _ _ ru⟩
      obtain ⟨fs9, g9, sub9⟩ := gu.rest old vs
      refine ⟨fs9, [p], g9, ⟨p, us, rfl, hD, Rs.stab g.ow (Stab.weak (fun a z => ?_) fun _ _ z => z) _ _ racc, rfl⟩, ⟨fun a z => st.sub a (sub9 a z), @Stp.keep _ _ _ _ _ st, st.there, st.tb⟩, by simpa using hp⟩
      rcases List.mem_append.mp z with z | z
      · exact List.mem_append_left _ (sub9 a z)
      · exact List.mem_append_right _ z
end QL
namespace QL
open PySem PySem.Spec L2
structure TsX (X : Cx) (W : WX) (es : List Expr) (t : TT) (F : S → Res Bool) : Prop where
  pe : PTs X es t
  sim : Sim X.K X.mg W (PTt X.K) t F
section
variable {X : Cx} {W : WX} {e elt tg iter : Expr} {ifs : List Expr} {scope : Scope} {own : List (Str × Nat)} {pos : Pos} {wi : TI} {g : TG} {tt : TT} {te : TE} {I : S → Res (List D)} {G : D → S → Option S} {T : S → Res Bool} {F : S → Res D}
def tYesF : S → Res Bool := fun r => .ok true r
theorem tsx_nil : TsX X W [] tYes tYesF := ⟨pts_nil, fun γ Oc r σ H fs g Q hq => hq true H ⟨fs, g, rfl, Stp.refl _ _ _⟩⟩
theorem tsx_one (h : TX X W e tt T) : TsX X W [e] tt T := ⟨pts_one h.pe, h.sim⟩
theorem ex_lc (hp : PE X e (tLc wi g tt te (own.map (·.2)))) (hi : IX X W tg iter wi I) (hw : GWipe (own.map (·.2)) g)
    (hg : ∀ (s : Shared) (H : Hp) (C : Addr) (cl : List (Str × Addr)) (fp : List Addr), GX (X.blk s H scope (compEnvC scope cl C X.env) fp) tg g G)
    (ht : ∀ (s : Shared) (H : Hp) (C : Addr) (cl : List (Str × Addr)) (fp : List Addr), TsX (X.blk s H scope (compEnvC scope cl C X.env) fp) WN ifs tt T)
    (he : ∀ (s : Shared) (H : Hp) (C : Addr) (cl : List (Str × Addr)) (fp : List Addr), FX (X.blk s H scope (compEnvC scope cl C X.env) fp) WN elt te F) : EX X W e (tLc wi g tt te (own.map (·.2))) (fLc (own.map (·.2)) I G T F) :=
  ⟨hp, sim_lc hi.sim (hg X.s_0 X.H_0 0 [] []).sim hw (ht X.s_0 X.H_0 0 [] []).sim (he X.s_0 X.H_0 0 [] []).sim⟩
end
def REs (K : PySem.W.Frag) (γ : Gh) (O : List Addr) (H : Hp) : List D → List V → Prop
  | [], vs => vs = []
  | d :: ds, vs => ∃ v ws, vs = v :: ws ∧ RE K γ O H d v ∧ REs K γ O H ds ws
def PLb (K : PySem.W.Frag) : Pst (List D) (List V) := fun γ Oc r' σ H fs H' ds vs => ∃ fs', Good K γ Oc r' σ H' fs' ∧ REs K γ (fs' ++ Oc) H' ds vs ∧ Stp γ.T fs H fs' H'
instance {K : PySem.W.Frag} : PstT (PLb K) := ⟨fun s ⟨f, a, b, c⟩ => ⟨f, a, b, s.trans c⟩⟩
structure BAX (X : Cx) (W : WX) (es : List Expr) (t : TA) (F : S → Res (List D)) : Prop where
  pe : PA X es t
  sim : Sim X.K X.mg W (PLb X.K) t F
section
variable {X : Cx} {W : WX} {e a b c : Expr} {es : List Expr} {ta tb tc : TE} {tl : TA} {fa fb fc : S → Res D} {F : S → Res SV} {FL : S → Res (List D)} {x : Str} {p pos : Pos}
theorem bax_nil : BAX X W [] tNil aNil := ⟨pa_nil, fun γ Oc r σ H fs g Q hq => hq [] H ⟨fs, g, rfl, Stp.refl _ _ _⟩⟩
theorem bax_cons (h : BX X W e ta fa) (h' : BAX X W es tl FL) (hs : starEach (e :: es) X.env = (false, eval e X.env) :: starEach es X.env := by rfl) : BAX X W (e :: es) (tCons ta tl) (aCons fa FL) := by
  refine ⟨pa_cons h.pe h'.pe hs, fun γ Oc r σ H fs g => ?_⟩
  refine SimAt.bind (t2 := fun (x : V) (H1 : Hp) (Q : List V → Hp → Prop) => tl σ H1 fun xs H2 => Q (x :: xs) H2) (h.sim γ Oc r σ H fs g) fun d r1 v H1 ⟨fs1, g1, v1, s1⟩ => ?_
  refine SimAt.tr s1 (SimAt.bind (t2 := fun (xs : List V) (H2 : Hp) (Q : List V → Hp → Prop) => Q (v :: xs) H2) (h'.sim γ Oc r1 σ H1 fs1 g1) fun ds r2 vs H2 ⟨fs2, g2, v2, s2⟩ => ?_)
  exact SimAt.tr s2 fun Q hq => hq _ _ ⟨fs2, g2, ⟨v, vs, rfl, v1.keep g1 s2, v2⟩, Stp.refl _ _ _⟩
/-- a built-in's rule answers as op says -/
def OpB (K : PySem.W.Frag) (rr : List V → Hp → VK → Prop) (op : List D → Option OV) : Prop :=
  ∀ (γ : Gh) (O : List Addr) (H : Hp) (ds : List D) (vs : List V) (z : OV) (Q : VK), Own O H → REs K γ O H ds vs → op ds = some z → OVQ K O H z Q → rr vs H Q
def fCB (op : List D → Option OV) (FL : S → Res (List D)) : S → Res SV := fun r => (FL r).bind fun ds r => ovR (op ds) r
theorem sim_cb {K : PySem.W.Frag} {mg : Str → Option Value} {rr : List V → Hp → VK → Prop} {op : List D → Option OV} (ho : OpB K rr op) (h : Sim K mg W (PLb K) tl FL) : Sim K mg W (PV K) (tCB rr tl) (fCB op FL) := by
  intro γ Oc r σ H fs g
  refine SimAt.bind (t2 := fun (vs : List V) (H1 : Hp) (Q : VK) => rr vs H1 Q) (h γ Oc r σ H fs g) fun ds r1 vs H1 ⟨fs1, g1, v1, s1⟩ => ?_
  refine SimAt.tr s1 fun Q => ?_
  unfold ovR
  cases q : op ds with
  | none => trivial
  | some z => exact fun hq => ho γ (fs1 ++ Oc) H1 ds vs z Q g1.ow v1 q (ovq_of g1 hq)
theorem ex_cb {rr : List V → Hp → VK → Prop} {op : List D → Option OV} (hp : PE X e (tCB rr tl)) (ho : OpB X.K rr op) (ha : BAX X W es tl FL) : EX X W e (tCB rr tl) (fCB op FL) := ⟨hp, sim_cb ho ha.sim⟩
def dLen : List D → Option OV
  | [.str z] => if z.length ≤ sizeLine then some (.fz (.int z.length)) else none
  | [.list ds] => some (.fz (.int ds.length))
  | [.tuple ds] => some (.fz (.int ds.length))
  | _ => none
def rLen (K : PySem.W.Frag) : List V → Hp → VK → Prop := fun xs H Q => ∃ x n, xs = [x] ∧ LenV K x H n ∧ Q (.int n) H
theorem opb_len {K : PySem.W.Frag} : OpB K (rLen K) dLen := by
  intro γ O H ds vs z Q ow h e hq
  unfold dLen at e
  split at e
  · rename_i s
    split at e
    · rename_i hl
      cases e
      obtain ⟨v, ws, e1, r1, e2⟩ := h
      simp only [RE, R] at r1
      exact ⟨v, s.length, by rw [e1, e2], by rw [r1]; exact ⟨hl, rfl⟩, hq _ (by simp [R])⟩
    · cases e
  · rename_i xs
    cases e
    obtain ⟨v, ws, e1, r1, e2⟩ := h
    obtain ⟨a, us, q1, q2, q3⟩ := r1.tracked
    exact ⟨v, xs.length, by rw [e1, e2], by rw [q1]; exact .inl ⟨us, .inl (.inl q2), q3.len.symm⟩, hq _ (by simp [R])⟩
  · rename_i xs
    cases e
    obtain ⟨v, ws, e1, r1, e2⟩ := h
    simp only [RE, R] at r1
    obtain ⟨a, us, q1, q2, q3⟩ := r1
    exact ⟨v, xs.length, by rw [e1, e2], by rw [q1]; exact .inr ⟨us, TupAt.sq q2, q3.len.symm⟩, hq _ (by simp [R])⟩
  · cases e
def dInt : List D → Option OV
  | [.int i] => some (.fz (.int i))
  | [.bool b] => some (.fz (.int (if b then 1 else 0)))
  | _ => none
def rInt : List V → Hp → VK → Prop := fun xs H Q => (∃ i, xs = [.int i] ∧ Q (.int i) H) ∨ ∃ k, xs = [.bl k] ∧ Q (.int (if k then 1 else 0)) H
theorem opb_int {K : PySem.W.Frag} : OpB K rInt dInt := by
  intro γ O H ds vs z Q ow h e hq
  unfold dInt at e
  split at e
  · rename_i i
    cases e
    obtain ⟨v, ws, e1, r1, e2⟩ := h
    simp only [RE, R] at r1
    exact .inl ⟨i, by rw [e1, e2, r1], hq _ (by simp [R])⟩
  · rename_i i
    cases e
    obtain ⟨v, ws, e1, r1, e2⟩ := h
    simp only [RE, R] at r1
    exact .inr ⟨i, by rw [e1, e2, r1], hq _ (by simp [R])⟩
  · cases e
def dMax2 : List D → Option OV
  | [.int i, .int j] => some (.fz (.int (if j > i then j else i)))
  | _ => none
def dMin2 : List D → Option OV
  | [.int i, .int j] => some (.fz (.int (if j < i then j else i)))
  | _ => none
def rMM2 (f : Int → Int → Int) : List V → Hp → VK → Prop := fun xs H Q => ∃ i j, xs = [.int i, .int j] ∧ Q (.int (f i j)) H
/-- the least, the greatest of some ints -/
def minI : List Int → Int
  | [] => 0
  | [x] => x
  | x :: y :: r => min x (minI (y :: r))
def maxI : List Int → Int
  | [] => 0
  | [x] => x
  | x :: y :: r => max x (maxI (y :: r))
theorem minI_mem : ∀ {l : List Int}, l ≠ [] → minI l ∈ l
  | [], h => absurd rfl h
  | [x], _ => by simp [minI]
  | x :: y :: r, _ => by
    have := minI_mem (l := y :: r) (by simp)
    unfold minI
    rcases Int.le_total x (minI (y :: r)) with h | h
    · rw [Int.min_eq_left h]; simp
    · rw [Int.min_eq_right h]; exact List.mem_cons_of_mem _ this
theorem minI_le : ∀ {l : List Int} {y : Int}, y ∈ l → minI l ≤ y
  | [], y, h => by cases h
  | [x], y, h => by simp at h; simp [minI, h]
  | x :: y :: r, z, h => by
    unfold minI
    rcases List.mem_cons.mp h with h | h
    · rw [h]; exact Int.min_le_left _ _
    · exact Int.le_trans (Int.min_le_right _ _) (minI_le h)
def dMinL : List D → Option OV
  | [.list ds] => match intsD ds with
    | some (n :: ns) => some (.fz (.int (minI (n :: ns))))
    | _ => none
  | _ => none
def dMaxL : List D → Option OV
  | [.list ds] => match intsD ds with
    | some (n :: ns) => some (.fz (.int (maxI (n :: ns))))
    | _ => none
  | _ => none
/-- list(x), tuple(x) of a list, a tuple -/
def dListOf : List D → Option OV
  | [.list ds] => some (.nl ds)
  | [.tuple ds] => some (.nl ds)
  | _ => none
def dTupOf : List D → Option OV
  | [.list ds] => some (.nt ds)
  | [.tuple ds] => some (.fz (.tuple ds))
  | _ => none
def rListOf (K : PySem.W.Frag) : List V → Hp → VK → Prop := fun xs H Q => ∃ p ys, xs = [.ref p] ∧ (SqL K H p ys ∨ SqT K H p ys) ∧ ∀ l, H l = none → Q (.ref l) (upd H l (.lst ys))
theorem opb_listOf {K : PySem.W.Frag} : OpB K (rListOf K) dListOf := by
  intro γ O H ds vs z Q ow h e hq
  unfold dListOf at e
  split at e
  · cases e
    obtain ⟨v, ws, e1, r1, e2⟩ := h
    obtain ⟨a, us, q1, q2, q3⟩ := r1.tracked
    exact ⟨a, us, by rw [e1, e2, q1], .inl (.inl (.inl q2)), fun l hl => hq l us hl q3⟩
  · cases e
    obtain ⟨v, ws, e1, r1, e2⟩ := h
    simp only [RE, R] at r1
    obtain ⟨a, us, q1, q2, q3⟩ := r1
    exact ⟨a, us, by rw [e1, e2, q1], .inr (TupAt.sq q2), fun l hl => hq l us hl q3⟩
  · cases e
def tyN : D → String
  | .none => "NoneType"
  | .bool _ => "bool"
  | .int _ => "int"
  | .str _ => "str"
  | .list _ => "list"
  | .tuple _ => "tuple"
  | .dict _ => "dict"
def dIsi (T : String) : D → Option OV := fun d => match d with
  | .dict kvs => if T = "dict" then some (.fz (.bool (!isOb kvs))) else (kitB "dict" T).map fun b => .fz (.bool b)
  | d => (kitB (tyN d) T).map fun b => .fz (.bool b)
/-- what is asked of a built-in type -/
def sixT (T : String) : Bool := ["str", "int", "bool", "list", "tuple", "dict"].contains T
def rIsiD (K : PySem.W.Frag) (T : String) : List V → Hp → VK → Prop := fun xs H Q => ∃ (x : V) (b : Bool), xs = [x, .ty T] ∧ ((∃ t, PySem.W.kitOne K t (.type T) = some b ∧ TyX K H x t) ∨ (kitB "dict" T = some b ∧ ∃ a o kvs, x = .ref a ∧ H a = some (.frz o (.dT kvs)))) ∧ Q (.bl b) H
theorem call_isiD {T : String} : CallR X (.builtin "isinstance") (rIsiD X.K T) := by
  intro pins s σ H xs us Q I r h
  obtain ⟨x, b, ex, hty, q⟩ := h
  rcases hty with ⟨t, hk, hty⟩ | ⟨hk, a, o, kvs, e1, e2⟩
  · exact call_isi pins s σ H xs us Q I r ⟨x, .ty T, t, .type T, b, ex, .ty T, hty, hk, q⟩
  · subst ex e1
    obtain ⟨u1, u2, rfl, r1, r2⟩ := vals2 r
    cases (show u1 = Value.ref a from r1)
    cases (show u2 = Value.type T from r2)
    obtain ⟨_, _, _, xs', _, ob, es, ep, h1, h2, _⟩ := (show ObjOk X.prog X.w H s.heap a (.frz o (.dT kvs)) from I.hok a _ e2)
    exact PySem.W.kia_one PySem.W.kitx_dict I.kIn ⟨ob, h1, h2.1⟩ (kit_ty hk) (fun z => nomatch z) fun tk => ⟨.bl b, H, I.tok tk, rfl, q⟩
theorem RK.noOb {O : List Addr} {H : Hp} : ∀ {kvs : List (D × D)} {ws : List (Key × V)}, RK K O H kvs ws → isOb kvs = false
  | [], _, _ => rfl
  | (k, d) :: r, _, h => by
    simp only [RK] at h
    obtain ⟨c, v, ws, _, e, _⟩ := h
    subst e
    cases c <;> rfl
theorem RT.noOb {O : List Addr} {H : Hp} : ∀ {kvs : List (D × D)} {ws : List (List Key × V)}, RT K O H kvs ws → isOb kvs = false
  | [], _, _ => rfl
  | (k, d) :: r, _, h => by
    simp only [RT] at h
    obtain ⟨c, v, ws, _, e, _⟩ := h
    subst e
    rfl
theorem RO'.isOb {O : List Addr} {H : Hp} {C : Addr} : ∀ {kvs : List (D × D)} {ws : List (Str × V)}, RO' K O H C kvs ws → QL.isOb kvs = true ∧ ∃ c, ObC K c C
  | [], _, h => by simp only [RO'] at h
  | (k, d) :: r, _, h => by
    simp only [RO'] at h
    obtain ⟨e, ⟨c, _, hc⟩, _⟩ := h
    subst e
    exact ⟨rfl, c, hc⟩
theorem six_of {T : String} (h : sixT T = true) : T = "str" ∨ T = "int" ∨ T = "bool" ∨ T = "list" ∨ T = "tuple" ∨ T = "dict" := by
  unfold sixT at h
  simpa using h
theorem kit_dict {T : String} {b : Bool} (h : sixT T = true) (hn : T ≠ "dict") (e : kitB "dict" T = some b) : b = false := by
  have k1 : kitB "dict" "str" = some false := by decide +kernel
  have k2 : kitB "dict" "int" = some false := by decide +kernel
  have k3 : kitB "dict" "bool" = some false := by decide +kernel
  have k4 : kitB "dict" "list" = some false := by decide +kernel
  have k5 : kitB "dict" "tuple" = some false := by decide +kernel
  rcases six_of h with rfl | rfl | rfl | rfl | rfl | rfl
  · rw [k1] at e; exact (Option.some.inj e).symm
  · rw [k2] at e; exact (Option.some.inj e).symm
  · rw [k3] at e; exact (Option.some.inj e).symm
  · rw [k4] at e; exact (Option.some.inj e).symm
  · rw [k5] at e; exact (Option.some.inj e).symm
  · exact absurd rfl hn
theorem RE.isi {K : PySem.W.Frag} {γ : Gh} {O : List Addr} {H : Hp} {d : D} {v : V} {T : String} {z : OV} (h : RE K γ O H d v) (hT : sixT T = true) (e : dIsi T d = some z) :
    ∃ b, z = .fz (.bool b) ∧ ((∃ t, PySem.W.kitOne K t (.type T) = some b ∧ TyX K H v t) ∨ (kitB "dict" T = some b ∧ ∃ a o kvs, v = .ref a ∧ H a = some (.frz o (.dT kvs)))) := by
  have base : ∀ {n : String}, (kitB n T).map (fun b => OV.fz (.bool b)) = some z → TyX K H v (.type n) → ∃ b, z = .fz (.bool b) ∧ ((∃ t, PySem.W.kitOne K t (.type T) = some b ∧ TyX K H v t) ∨ (kitB "dict" T = some b ∧ ∃ a o kvs, v = .ref a ∧ H a = some (.frz o (.dT kvs)))) := fun e t => by
    obtain ⟨b, e1, e2⟩ := Option.map_eq_some_iff.mp e
    exact ⟨b, e2.symm, .inl ⟨_, kit_ty e1, t⟩⟩
  cases d with
  | none => simp only [RE, R] at h; subst h; exact base e (.base .non)
  | bool b => simp only [RE, R] at h; subst h; exact base e (.base (.bl b))
  | int b => simp only [RE, R] at h; subst h; exact base e (.base (.int b))
  | str b => simp only [RE, R] at h; subst h; exact base e (.base (.str b))
  | list ds =>
    obtain ⟨a, vs, e1, q, _⟩ := h.tracked
    subst e1
    exact base e (.base (.lst q))
  | tuple ds =>
    simp only [RE, R] at h
    obtain ⟨a, vs, e1, q, _⟩ := h
    subst e1
    exact base e (.base (.tup q))
  | dict kvs =>
    obtain ⟨a, e1, _, h⟩ := h
    subst e1
    have e : (if T = "dict" then some (OV.fz (.bool (!isOb kvs))) else (kitB "dict" T).map fun b => .fz (.bool b)) = some z := e
    have kdd : kitB "dict" "dict" = some true := by decide +kernel
    rcases h with ⟨ws, q, hk⟩ | ⟨ws, q, hk⟩ | ⟨C, dx, ws, q, hk⟩
    · have e2 : (kitB "dict" T).map (fun b => OV.fz (.bool b)) = some z := by
        by_cases hd : T = "dict"
        · subst hd
          rw [if_pos rfl, hk.noOb] at e
          rw [kdd]; exact e
        · rw [if_neg hd] at e; exact e
      rcases q with q | ⟨o, q⟩
      · exact base e2 (.base (.dK q))
      · exact base e2 (.fDict q)
    · have e2 : (kitB "dict" T).map (fun b => OV.fz (.bool b)) = some z := by
        by_cases hd : T = "dict"
        · subst hd
          rw [if_pos rfl, hk.noOb] at e
          rw [kdd]; exact e
        · rw [if_neg hd] at e; exact e
      rcases q with q | ⟨o, q⟩
      · exact base e2 (.base (.dT q))
      · obtain ⟨b, k1, k2⟩ := Option.map_eq_some_iff.mp e2
        exact ⟨b, k2.symm, .inr ⟨k1, a, o, ws, rfl, q⟩⟩
    · obtain ⟨hob, _, hc⟩ := hk.isOb
      have ty : TyX K H (.ref a) (.ref C) := .base (.ins q hc.ic.cl hc.ic.ha hc.ic.hn hc.ic.htk hc.ic.hm)
      have ez : z = .fz (.bool false) := by
        by_cases hd : T = "dict"
        · subst hd
          rw [if_pos rfl, hob] at e
          exact (Option.some.inj e).symm
        · rw [if_neg hd] at e
          obtain ⟨b, k1, k2⟩ := Option.map_eq_some_iff.mp e
          rw [kit_dict hT hd k1] at k2
          exact k2.symm
      exact ⟨false, ez, .inl ⟨_, hc.no T (by unfold sixT at hT; exact List.contains_iff_mem.mp hT), ty⟩⟩
theorem ex_isi {T : String} (hp : PE X e (tCB (rIsiD X.K T) (tCons ta (tCons (tC (.ty T)) tNil)))) (ha : BX X W a ta fa) (hT : sixT T = true := by decide) : EX X W e (tCB (rIsiD X.K T) (tCons ta (tCons (tC (.ty T)) tNil))) (fOp1 (dIsi T) fa) := by
  refine ⟨hp, sim_op1 (rr := fun (x : V) (H1 : Hp) (Q : VK) => rIsiD X.K T [x, .ty T] H1 Q) (fun γ O H d v z Q ow hx e hq => ?_) ha.sim⟩
  obtain ⟨b, e1, e2⟩ := hx.isi hT e
  subst e1
  exact ⟨v, b, rfl, e2, hq _ (by simp [R])⟩
def fMt (op : D → List D → Option OV) (fa : S → Res D) (FL : S → Res (List D)) : S → Res SV := fun r => (fa r).bind fun x r => match x with
  | .str z => (FL r).bind fun ds r => ovR (op (.str z) ds) r
  | _ => Res.bad
def OpM (K : PySem.W.Frag) (rr : V → List V → Hp → VK → Prop) (op : D → List D → Option OV) : Prop :=
  ∀ (γ : Gh) (O : List Addr) (H : Hp) (x : Str) (ds : List D) (vs : List V) (z : OV) (Q : VK), Own O H → REs K γ O H ds vs → op (.str x) ds = some z → OVQ K O H z Q → rr (.str x) vs H Q
theorem sim_mt {K : PySem.W.Frag} {mg : Str → Option Value} {rr : V → List V → Hp → VK → Prop} {op : D → List D → Option OV} (ho : OpM K rr op) (h : Sim K mg W (PB K) ta fa) (h2 : Sim K mg W (PLb K) tl FL) : Sim K mg W (PV K) (tBM K "str" rr ta tl) (fMt op fa FL) := by
  intro γ Oc r σ H fs g
  refine SimAt.bind (t2 := fun (x : V) (H1 : Hp) (Q : VK) => tyV K "str" x H1 ∧ tl σ H1 fun xs H2 => rr x xs H2 Q) (h γ Oc r σ H fs g) fun d r1 v H1 ⟨fs1, g1, v1, s1⟩ => ?_
  refine SimAt.tr s1 ?_
  cases d with
  | str z =>
    simp only [RE, R] at v1
    subst v1
    refine SimAt.imp (SimAt.bind (t2 := fun (xs : List V) (H2 : Hp) (Q : VK) => rr (.str z) xs H2 Q) (h2 γ Oc r1 σ H1 fs1 g1) fun ds r2 vs H2 ⟨fs2, g2, v2, s2⟩ => ?_) fun Q q => ⟨by first | rfl | trivial | simp [tyV], q⟩
    refine SimAt.tr s2 fun Q => ?_
    unfold ovR
    cases q : op (.str z) ds with
    | none => trivial
    | some y => exact fun hq => ho γ (fs2 ++ Oc) H2 z ds vs y Q g2.ow v2 q (ovq_of g2 hq)
  | _ => exact fun Q => trivial
theorem ex_mt {rr : V → List V → Hp → VK → Prop} {op : D → List D → Option OV} (hp : PE X e (tBM X.K "str" rr ta tl)) (ho : OpM X.K rr op) (ha : BX X W a ta fa) (hl : BAX X W es tl FL) : EX X W e (tBM X.K "str" rr ta tl) (fMt op fa FL) := ⟨hp, sim_mt ho ha.sim hl.sim⟩
def dFind3 : D → List D → Option OV
  | .str a, [.str b, .int i] => some (.fz (.int (QM.find3f a b i)))
  | _, _ => none
def dRfind4 : D → List D → Option OV
  | .str a, [.str b, .int i, .int j] => some (.fz (.int (QM.rfind4f a b i j)))
  | _, _ => none
end
end QL
namespace QL
open PySem PySem.Spec L2
section
variable {K : PySem.W.Frag} {mg : Str → Option Value} {W : WX} {γ : Gh} {Oc : List Addr} {r r1 r2 : S} {σ : St} {H H' H1 H2 : Hp} {fs fs1 fp : List Addr}
theorem Good.slotV (g : Good K γ Oc r σ H fs) {i : Nat} {x : SV} (h : r.sl[i]? = some (some x)) : ∃ v f, σ[i]? = some (some v) ∧ SVR K γ (fs ++ Oc) H x v f := by
  obtain ⟨⟨f1, f2, e, sl, tp⟩, nd, ow, tt⟩ := g
  obtain ⟨v, a1, a2, a3, e1, e2, e3⟩ := sl.at h
  exact ⟨v, a2, e1, e3⟩
end
def sApp (i : Nat) (FA : S → Res D) : S → RS := fun r => match r.sl[i]? with
  | some (some (.ol _)) => (FA r).bindS fun d r => match r.sl[i]? with
    | some (some (.ol xs)) => if xs.length < sizeLine then RS.nx { r with sl := r.sl.set i (some (.ol (xs ++ [d]))) } else RS.bad
    | _ => RS.bad
  | _ => .bad
section
variable {X : Cx} {W : WX} {e a b c : Expr} {es : List Expr} {ta tb tc : TE} {tl : TA} {fa fb fc : S → Res D} {F : S → Res SV} {FL : S → Res (List D)} {x : Str} {p pos : Pos} {i : Nat}
def rgOk (a b : Int) : Bool := sml a && sml b && decide ((b - a).toNat ≤ 2 ^ 24)
def fLRg1 (fa : S → Res D) : S → Res SV := fun r => (fa r).bind fun d r => match d with
  | .int n => if rgOk 0 n = true then Res.ok (SV.ol (rngL 0 (n - 0).toNat)) r else Res.bad
  | _ => Res.bad
def fLRg2 (fa fb : S → Res D) : S → Res SV := fun r => (fa r).bind fun d r => (fb r).bind fun d2 r => match d, d2 with
  | .int i, .int j => if rgOk i j = true then Res.ok (SV.ol (rngL i (j - i).toNat)) r else Res.bad
  | _, _ => Res.bad
def fLRg3 (FL : S → Res (List D)) : S → Res SV := fun r => (FL r).bind fun ds r => match intsD ds with
  | some [i, j, c] => if rgOk i j = true ∧ (i - j).toNat ≤ 2 ^ 24 ∧ c = -1 then Res.ok (SV.ol ((List.range (i - j).toNat).map fun k => .int (i - ((k : Nat) : Int)))) r else Res.bad
  | _ => Res.bad
end
def tkS : Bool → Str
  | true => Str.ofString "digits"
  | false => Str.ofString "mixed"
def tkG (k : Bool) (t : Int × Int) : Int := if k then t.1 else t.2
def tkP (k : Bool) (t : Int × Int) (x : Int) : Int × Int := if k then (x, t.2) else (t.1, x)
def fTk (i : Nat) (k : Bool) : S → Res SV := fun r => match r.sl[i]? with
  | some (some .tape) => match r.tp with
    | some t => .ok (.fz (.int (tkG k t))) r
    | none => .bad
  | _ => .bad
def sTk (i : Nat) (k : Bool) (F : S → Res D) : S → RS := fun r => (F r).bindS fun d r => match r.sl[i]? with
  | some (some .tape) => match r.tp, d with
    | some t, .int x => RS.nx { r with tp := some (tkP k t x) }
    | _, _ => RS.bad
  | _ => RS.bad
section
variable {X : Cx} {W : WX} {e a b c o : Expr} {ta td : TE} {fa : S → Res D} {x : Str} {p pos : Pos} {i : Nat} {k : Bool}
theorem tk_ne : (Str.ofString "digits" : Str) ≠ Str.ofString "mixed" := by decide
theorem tk_val (t : Int × Int) : valV [((.inr (Str.ofString "digits") : Key), V.int t.1), (.inr (Str.ofString "mixed"), V.int t.2)] (.inr (tkS k)) = some (.int (tkG k t)) := by
  cases k with
  | true => exact valV_pos rfl
  | false => exact (valV_neg fun e => tk_ne (Sum.inr.inj e)).trans (valV_pos rfl)
theorem tk_put (t : Int × Int) (x : Int) : HO.dK (putK [((.inr (Str.ofString "digits") : Key), V.int t.1), (.inr (Str.ofString "mixed"), V.int t.2)] (.inr (tkS k)) (.int x)) = tapeO (tkP k t x) := by
  have n1 : ¬ ((.inr (Str.ofString "mixed") : Key) = .inr (Str.ofString "digits")) := fun e => tk_ne (Sum.inr.inj e).symm
  have n2 : ¬ ((.inr (Str.ofString "digits") : Key) = .inr (Str.ofString "mixed")) := fun e => tk_ne (Sum.inr.inj e)
  cases k with
  | true => simp [putK, tkS, tapeO, tkP, tk_ne, n1]
  | false => simp [putK, tkS, tapeO, tkP, tk_ne, n2]
theorem ex_tk (hp : PE X e (tDGet (tVar i) (tC (.str (tkS k))))) : EX X W e (tDGet (tVar i) (tC (.str (tkS k)))) (fTk i k) := by
  refine ⟨hp, fun γ Oc r σ H fs g => ?_⟩
  unfold fTk
  split
  · rename_i e0
    obtain ⟨v, f, ev, ⟨T, hT, eva⟩, _⟩ := g.slotV e0
    subst eva
    obtain ⟨hm, t, q1, q2⟩ := g.tape hT
    rw [q1]
    exact fun Q hq => ⟨.ref T, ev, T, .int (tkG k t), rfl, by have := DGet.k (k := .inr (tkS k)) (show H T = some (.dK _) from q2); rw [tk_val] at this; exact this, hq _ _ ⟨fs, [], g, ⟨by simp [R], rfl⟩, Stp.refl _ _ _, by simp⟩⟩
  · exact fun Q => trivial
theorem sx_tk {st : Stmt} (hp : PS X st (sDPut (tVar i) (tC (.str (tkS k))) ta)) (h : FX X W a ta fa) : SX X W st (sDPut (tVar i) (tC (.str (tkS k))) ta) (sTk i k fa) := by
  refine ⟨hp, fun γ Oc r σ H fs g => ?_⟩
  refine SimSAt.imp (SimSAt.bindE (t2 := fun (v : V) (H1 : Hp) (E : Ends) => ∃ x, σ[i]? = some (some x) ∧ ∃ a H4, x = .ref a ∧ DPut H1 a (.str (tkS k)) v H4 ∧ E.nx σ H4) (h.sim γ Oc r σ H fs g) fun d r1 v H1 ⟨fs1, g1, v1, s1⟩ => ?_) fun E h => h
  refine SimSAt.tr s1.evo ?_
  split
  · rename_i e0
    obtain ⟨u, f, ev, ⟨T, hT, eva⟩, _⟩ := g1.slotV e0
    subst eva
    obtain ⟨hm, t, q1, q2⟩ := g1.tape hT
    rw [q1]
    cases d with
    | int y =>
      simp only [R] at v1
      subst v1
      intro E hq
      refine ⟨.ref T, ev, T, _, rfl, DPut.k (k := .inr (tkS k)) (show H1 T = some (.dK _) from q2) (by show 2 < sizeLine; decide), hq σ _ ⟨fs1, ?_, ?_⟩⟩
      · rw [tk_put]; exact g1.tapeSet hT
      · refine ⟨fun a z => .inl z, fun a o q n _ => ?_, fun a q => ?_, fun P h => tabs_upd q2 trivial h⟩
        · rw [upd_ne fun z => n (by rw [z]; exact hm)]; exact q
        · exact nn_upd q2 rfl q
    | _ => exact fun E => trivial
  · exact fun E => trivial
end
end QL
namespace QL
open PySem PySem.Spec L2
theorem cx_none {P : Program} {w : World} {H : Hp} {s s' : Shared} {e : Value} {out : List Env} (h : L2.CX P w out H s (fun _ _ _ => False) e s') : False := by
  obtain ⟨_, _, _, _, _, _, _, _, _, _, _, _, z⟩ := h
  exact z
def TapeOk (t : Int × Int) : Bool := decide (0 ≤ t.1) && decide (bitsI t.1 ≤ 2097152) && decide (0 ≤ t.2) && decide (t.2 < 1099511627776)
/-- _law_tape(script, start) -/
def spTp (K : PySem.W.Frag) : Sp := fun vs H Q _ => ∃ (sc : Addr) (ns : List Int) (i : Int), vs = [.ref sc, .int i] ∧ SqL K H sc (ns.map V.int) ∧ ns.length ≤ 63 ∧ (∀ z ∈ ns, bitsI z ≤ 1048576) ∧ 0 ≤ i ∧ i < 64 ∧
  ∀ H' p t, Same H H' → H p = none → H' p = some (tapeO t) → TapeOk t = true → Q (.ref p) H'
/-- law(script) -/
def spLaw (K : PySem.W.Frag) (T : List Addr) : Sp := fun vs H Q _ => ∃ (sc : Addr) (ns : List Int), vs = [.ref sc] ∧ TabsL T H ∧ Scr K H sc (ns.map V.int) ∧ ns.length ≤ 63 ∧ (∀ z ∈ ns, bitsI z ≤ 1048576) ∧ ∀ H', Q (.bl true) H'
/-- the slots at a tape's start: the script, the number of the start, the tape -/
def lawS (n : Nat) (T : List Addr) (i : Int) (t : Int × Int) : S := ⟨some (.scr T) :: some (.fz (.int i)) :: some .tape :: List.replicate n none, some t⟩
def lawE (n : Nat) (T : List Addr) : S := ⟨some (.scr T) :: none :: none :: List.replicate n none, none⟩
theorem Scr.same {K : PySem.W.Frag} {H H' : Hp} {a : Addr} {xs : List V} (h : Scr K H a xs) (s : SameT H H') : Scr K H' a xs := by
  rcases h with ⟨o, h⟩ | h
  · exact .inl ⟨o, s.kp _ _ h⟩
  · exact .inr h
section
variable {X : Cx} {W : WX} {a b c e : Expr} {rest : List Stmt} {tB : TS} {tE : TE} {B : S → RS} {G : S → Res SV} {n : Nat} {cap : Int} {T : List Addr} {p1 pos : Pos}
def tLawRg (K : PySem.W.Frag) (cap : Int) : TA := tCons (tCB (rMM2 fun i j => if j > i then j else i) (tCons (tC (.int 1)) (tCons (tCB (rMM2 fun i j => if j < i then j else i) (tCons (tC (.int cap)) (tCons (tCB (rLen K) (tCons (tVar 0) tNil)) tNil))) tNil))) tNil
end
end QL
namespace QL
open PySem PySem.Spec L2
abbrev rAddI : R2 := rI0 fun i j => .int (i + j)
abbrev rSubI : R2 := rI0 fun i j => .int (i - j)
abbrev rMulI : R2 := rI CMulB fun i j => .int (i * j)
abbrev rModI : R2 := rI (fun _ j => 0 < j) fun i j => .int (i % j)
abbrev rPowI : R2 := rI CPowB fun i j => .int (i ^ j.toNat)
abbrev rLtI : R2 := rI0 fun i j => .bl (decide (i < j))
abbrev rGeI : R2 := rI0 fun i j => .bl (decide (j ≤ i))
def t1018 : TE := tOp rPowI (tC (.int 10)) (tC (.int 18))
def tTapeBody (K : PySem.W.Frag) : TS := tAsg (tOp rAddI (tOp rModI (tCB rInt (tCons (tOp rPowI (tOp rAddI (tOp rAddI (tOp rMulI (tVar 2) (tC (.int 30029))) (tOp rMulI (tVar 3) (tVar 3))) (tC (.int 13))) (tC (.int 2))) tNil)) (tC (.int 2147483563))) (tC (.int 2))) (gName 2)
def tTape (K : PySem.W.Frag) : TS := tSeq (tAsg (tOp rAddI (tC (.int 101)) (tOp rMulI (tVar 1) (tC (.int 53)))) (gName 2))
  (tSeq (tFor (iList K (tVar 0)) (gName 3) (tTapeBody K))
  (tSeq (tAsg (tIf (tAnd (tB (tOp rLtI (tVar 1) (tCB (rLen K) (tCons (tVar 0) tNil)))) (tB (tOp rGeI (tOp (rIx K) (tVar 0) (tVar 1)) t1018))) (tOp rSubI (tOp (rIx K) (tVar 0) (tVar 1)) t1018) (tC (.int 0))) (gName 4))
  (tRet (tDisp [(tC (.str (Str.ofString "digits")), tVar 4), (tC (.str (Str.ofString "mixed")), tVar 2)]))))
theorem tape_turn {m c : Int} (h0 : 0 ≤ m) (h1 : m < 4294967296) (hc : bitsI c ≤ 1048576) : CMulB m 30029 ∧ CMulB c c ∧ CPowB (m * 30029 + c * c + 13) 2 := by
  have bm : bitsI m ≤ 32 := PySem.intBits_le_iff.mpr (by omega)
  have b3 : bitsI 30029 ≤ 15 := by decide
  have b13 : bitsI 13 ≤ 4 := by decide
  have x1 := PySem.intBits_mul_le bm b3
  have x2 := PySem.intBits_mul_le hc hc
  have x3 := PySem.intBits_add_le x1 x2
  have x4 : bitsI (m * 30029 + c * c + 13) ≤ _ := PySem.intBits_add_le x3 b13
  refine ⟨by unfold CMulB; omega, by unfold CMulB; omega, by decide, ?_⟩
  have e : (2 : Int) ^ 27 = 134217728 := by decide
  rw [e]
  omega
theorem tk_disp (d m : Int) : HO.dK (mergeK [] [((.inr (Str.ofString "digits") : Key), V.int d), (.inr (Str.ofString "mixed"), V.int m)]) = tapeO (d, m) := by
  have n1 : ¬ ((.inr (Str.ofString "mixed") : Key) = .inr (Str.ofString "digits")) := fun e => tk_ne (Sum.inr.inj e).symm
  have n2 : ¬ ((.inr (Str.ofString "digits") : Key) = .inr (Str.ofString "mixed")) := fun e => tk_ne (Sum.inr.inj e)
  simp [mergeK, putK, tapeO, tk_ne]
theorem tape_read {K : PySem.W.Frag} {vs : List V} {H : Hp} {Q : VK} {E : XK} (h : spTp K vs H Q E) (N : List Str) (hN : N.length = 5) : tTape K { nx := fun _ H' => Q .non H', rt := Q } (L2.start N vs) H := by
  obtain ⟨sc, ns, i, ev, hS, hl, hb, hi0, hi1, hq⟩ := h
  subst ev
  have st0 : L2.start N [.ref sc, .int i] = [some (.ref sc), some (.int i), none, none, none] := by
    unfold L2.start
    rw [hN]
    rfl
  rw [st0]
  have b53 : CMulB i 53 := by
    have b1 : bitsI i ≤ 6 := PySem.intBits_le_iff.mpr (by omega)
    have b2 : bitsI 53 ≤ 6 := by decide
    unfold CMulB
    omega
  have e1018 : (10 : Int) ^ (18 : Int).toNat = 1000000000000000000 := by decide
  have p1018 : CPowB 10 18 := by
    refine ⟨by decide, ?_⟩
    have b10 : bitsI 10 = 4 := by decide
    rw [b10]
    decide
  refine ⟨.int i, rfl, i, 53, rfl, rfl, b53, 101, i * 53, rfl, rfl, ?_⟩
  refine ⟨.ref sc, rfl, sc, rfl, ⟨_, hS⟩, ?_⟩
  refine for_list (xs := ns.map V.int) (fun _ σ H' => H' = H ∧ ∃ (m : Int) (c : Option V), σ = [some (.ref sc), some (.int i), some (.int m), c, none] ∧ 0 ≤ m ∧ m < 4294967296) ⟨rfl, 101 + i * 53, none, rfl, by omega, by omega⟩ (fun j σ H' _ ⟨e, _⟩ => by rw [e]; exact hS) (fun j x σ H' hx ⟨e, m, c, eσ, m0, m1⟩ => ?_) (fun σ H' ⟨e, m, c, eσ, m0, m1⟩ => ?_)
  · subst e eσ
    rw [List.getElem?_map] at hx
    obtain ⟨z, hz, rfl⟩ := Option.map_eq_some_iff.mp hx
    obtain ⟨c1, c2, c3⟩ := tape_turn m0 m1 (hb z (List.mem_of_getElem? hz))
    refine ⟨.int m, rfl, m, 30029, rfl, rfl, c1, .int z, rfl, .int z, rfl, z, z, rfl, rfl, c2, m * 30029, z * z, rfl, rfl, m * 30029 + z * z, 13, rfl, rfl, m * 30029 + z * z + 13, 2, rfl, rfl, c3, .inl ⟨_, rfl, ?_⟩⟩
    refine ⟨_, 2147483563, rfl, rfl, (by show (0 : Int) < 2147483563; decide), _, 2, rfl, rfl, rfl, _, some (.int z), rfl, ?_, ?_⟩
    · have := Int.emod_nonneg ((m * 30029 + z * z + 13) ^ (2 : Int).toNat) (b := 2147483563) (by decide)
      omega
    · have := Int.emod_lt_of_pos ((m * 30029 + z * z + 13) ^ (2 : Int).toNat) (b := 2147483563) (by decide)
      omega
  · subst e eσ
    -- digits
    have fin : ∀ d : Int, 0 ≤ d → bitsI d ≤ 2097152 → (tRet (tDisp [(tC (.str (Str.ofString "digits")), tVar 4), (tC (.str (Str.ofString "mixed")), tVar 2)])) { nx := fun _ H' => Q .non H', rt := Q } [some (.ref sc), some (.int i), some (.int m), c, some (.int d)] H' := fun d d0 d1 p hp => by
      refine ⟨.int d, rfl, .int m, rfl, upd_same, [((.inr (Str.ofString "digits") : Key), V.int d), (.inr (Str.ofString "mixed"), V.int m)], rfl, (by show 2 ≤ 15; decide), ?_⟩
      rw [tk_disp]
      refine hq _ p (d, m) (fun b o e => ?_) hp upd_same ?_
      · have nb : b ≠ p := fun z => by rw [z, hp] at e; cases e
        rw [upd_ne nb, upd_ne nb]; exact e
      · unfold TapeOk
        simp only [Bool.and_eq_true, decide_eq_true_eq]
        exact ⟨⟨⟨d0, d1⟩, m0⟩, by omega⟩
    refine ⟨.int i, rfl, .ref sc, rfl, ⟨.ref sc, ns.length, rfl, .inl ⟨_, hS, by simp⟩, i, ns.length, rfl, rfl, _, rfl, ?_⟩⟩
    by_cases hlt : i < ns.length
    · rw [decide_eq_true hlt]
      refine iteT ?_
      have hn : i.toNat < ns.length := by omega
      have hat : atI (ns.map V.int) i = some (.int ns[i.toNat]) := by
        have h1 : atI (ns.map V.int) ((i.toNat : Nat) : Int) = some (.int ns[i.toNat]) := atI_nat (by rw [List.getElem?_map, List.getElem?_eq_getElem hn]; rfl)
        rwa [show ((i.toNat : Nat) : Int) = i by omega] at h1
      have ix : ∀ (Q' : VK), Q' (.int ns[i.toNat]) H' → rIx K (.ref sc) (.int i) H' Q' := fun Q' q => .inl ⟨sc, ns.map V.int, i, _, rfl, rfl, hS, hat, q⟩
      refine ⟨.ref sc, rfl, .int i, rfl, ix _ ⟨10, 18, rfl, rfl, p1018, ns[i.toNat], _, rfl, rfl, _, rfl, ?_⟩⟩
      by_cases hge : (10 : Int) ^ (18 : Int).toNat ≤ ns[i.toNat]
      · rw [decide_eq_true hge]
        refine iteT ?_
        refine ⟨.ref sc, rfl, .int i, rfl, ix _ ⟨10, 18, rfl, rfl, p1018, ns[i.toNat], _, rfl, rfl, ?_⟩⟩
        have b1 := hb _ (List.getElem_mem hn)
        have b2 : bitsI ((10 : Int) ^ (18 : Int).toNat) ≤ 60 := by rw [e1018]; decide
        have b3 : bitsI (ns[i.toNat] - (10 : Int) ^ (18 : Int).toNat) ≤ _ := PySem.intBits_sub_le b1 b2
        exact fin _ (by omega) (by omega)
      · rw [decide_eq_false hge]
        refine iteF ?_
        exact fin 0 (by omega) (by decide)
    · rw [decide_eq_false hlt]
      refine iteF (iteF ?_)
      exact fin 0 (by omega) (by decide)
end QL
namespace QL
open PySem PySem.Spec L2
structure DefF (P : Program) (w : World) (K : PySem.W.Frag) (mg : Str → Option Value) (base : Heap) (x : Str) (k n : Nat) (F : List D → FR) : Prop where
  ex : ∃ f fd ps, FnG P w K mg base k f fd ps (spF K mg n F) ∧ mg x = some (.ref f) ∧ PySem.W.keepIn K (.ref f) = true ∧ Binds K fd ps []
structure DefT (P : Program) (w : World) (K : PySem.W.Frag) (mg : Str → Option Value) (base : Heap) (x : Str) (k n : Nat) (F : Int × Int → List D → FR) : Prop where
  ex : ∃ f fd ps, FnG P w K mg base k f fd ps (spT K mg n F) ∧ mg x = some (.ref f) ∧ PySem.W.keepIn K (.ref f) = true ∧ Binds K fd ps []
section
variable {X : Cx} {W : WX} {e a b c tg iter elt : Expr} {es ifs : List Expr} {body rest : List Stmt} {t t2 ta tb tc te : TE} {tA tt : TT} {tl : TA} {tS u : TS} {g : TG} {gs : TGs} {wi : TI} {fa fb fc FF : S → Res D} {F F1 F2 : S → Res SV} {FL : S → Res (List D)} {FS : S → Res (List SV)} {FA T : S → Res Bool} {B : S → RS} {I : S → Res (List D)} {G : D → S → Option S} {Gs : List D → S → Option S}
  {x y z : Str} {p p2 p3 pos py : Pos} {i j l k k2 n : Nat} {scope : Scope} {own : List (Str × Nat)}
theorem ex_callD {FD : List D → FR} (h : DefF X.prog X.w X.K X.mg X.base x k n FD) (hG : X.A.guards = some []) (hr : Room k2 X.A) (tk : Takes X W) (ha : AX X W (e :: es) tl FL) (hk : k ≤ k2 := by decide) (hg : Gl X x := by rfl)
    (hdb : (x == ("__debug__" : Str)) = false := by decide) (he : starEach (e :: es) X.env = (false, eval e X.env) :: starEach es X.env := by rfl) (hpl : (backTo pos (starEach es X.env)).any (·.1) = false := by rfl) :
    EX X W (.Call (.Name x p) (e :: es) [] pos) (tCallS (spF X.K X.mg n FD) (WE W) tl) (fCall n FD FL) := by
  obtain ⟨f, fd, ps, h1, h2, h3, h4⟩ := h.ex
  exact ex_call h1 hG (hr.mono hk) hg h2 h3 h4 tk ha hdb he hpl
theorem ex_callDT {FD : Int × Int → List D → FR} (h : DefT X.prog X.w X.K X.mg X.base x k n FD) (hG : X.A.guards = some []) (hr : Room k2 X.A) (tk : Takes X W) (hv : PE X e (tVar i)) (ha : AX X W es tl FL) (hk : k ≤ k2 := by decide) (hg : Gl X x := by rfl)
    (hdb : (x == ("__debug__" : Str)) = false := by decide) (he : starEach (e :: es) X.env = (false, eval e X.env) :: starEach es X.env := by rfl) (hpl : (backTo pos (starEach es X.env)).any (·.1) = false := by rfl) :
    EX X W (.Call (.Name x p) (e :: es) [] pos) (tCallS (spT X.K X.mg n FD) (WE W) (tCons (tVar i) tl)) (fCallT i n FD FL) := by
  obtain ⟨f, fd, ps, h1, h2, h3, h4⟩ := h.ex
  exact ex_callT h1 hG (hr.mono hk) hg h2 h3 h4 tk hv ha hdb he hpl
theorem ex_len (hm : X.mg "len" = none) (ha : BAX X W [e] tl FL) (hg : Gl X "len" := by rfl) (he : starEach [e] X.env = (false, eval e X.env) :: starEach [] X.env := by rfl) : EX X W (.Call (.Name "len" p) [e] [] pos) (tCB (rLen X.K) tl) (fCB dLen FL) :=
  ex_cb (pe_callB call_len hg hm PySem.boot_len ha.pe (by decide) (by decide) he (by rfl)) opb_len ha
theorem ex_int (hm : X.mg "int" = none) (ha : BAX X W [e] tl FL) (hg : Gl X "int" := by rfl) (he : starEach [e] X.env = (false, eval e X.env) :: starEach [] X.env := by rfl) : EX X W (.Call (.Name "int" p) [e] [] pos) (tCB rInt tl) (fCB dInt FL) :=
  ex_cb (pe_callTy call_int1 hg hm PyProof.Rows.boot_int ha.pe (by decide) (by decide) he (by rfl)) opb_int ha
theorem ex_isiT {Ty : String} (hm : X.mg "isinstance" = none) (hy : X.mg y = none) (hb : bootBuiltins y = some (.type Ty)) (ha : BX X W a ta fa) (hg : Gl X "isinstance" := by rfl) (hgy : Gl X y := by rfl) (hn : y ≠ "__name__" := by decide) (hd : (y == ("__debug__" : Str)) = false := by decide)
    (he : starEach [a, .Name y py] X.env = (false, eval a X.env) :: starEach [.Name y py] X.env := by rfl) (he2 : starEach [.Name y py] X.env = (false, eval (.Name y py) X.env) :: starEach [] X.env := by rfl) (hpl : (backTo pos (starEach [.Name y py] X.env)).any (·.1) = false := by rfl) (hT : sixT Ty = true := by decide) :
    EX X W (.Call (.Name "isinstance" p) [a, .Name y py] [] pos) (tCB (rIsiD X.K Ty) (tCons ta (tCons (tC (.ty Ty)) tNil))) (fOp1 (dIsi Ty) fa) :=
  ex_isi (pe_callB call_isiD hg hm PyProof.Rows.boot_isinstance (pa_cons ha.pe (pa_cons (pe_bltn (v := .ty Ty) hgy hy hb rfl hn hd) pa_nil he2) he) (by decide) (by decide) he hpl) ha hT
theorem sim_tv {K : PySem.W.Frag} {mg : Str → Option Value} (h : Sim K mg W (PB K) ta fa) : Sim K mg W (PTt K) (tTest ta) (tV fa) := by
  intro γ Oc r σ H fs g
  refine SimAt.bind (t2 := fun (x : V) (H1 : Hp) (Q : Bool → Hp → Prop) => ∃ c, x = .bl c ∧ Q c H1) (h γ Oc r σ H fs g) fun d r1 v H1 ⟨fs1, g1, v1, s1⟩ => ?_
  refine SimAt.tr s1 fun Q => ?_
  cases d with
  | bool b =>
    simp only [RE, R] at v1
    exact fun hq => ⟨b, v1, hq b H1 ⟨fs1, g1, rfl, Stp.refl _ _ _⟩⟩
  | _ => trivial
theorem tx_cmp {op : D → D → Option OV} {o : CmpOp} {rr : R2} (ho : OpR X (compareOp o) rr) (hs : OpS X.K rr op) (ha : BX X W a ta fa) (hb : BX X W b tb fb) (hm : behindInMarks o b = false) : TX X W (.Compare a [o] [b] pos) (tTest (tOp rr ta tb)) (tV (fD (fOp op fa fb))) :=
  ⟨pt_cmpR ho ha.pe hb.pe hm, sim_tv (EX.toB (ex_cmp (pos := pos) ho hs ha hb hm)).sim⟩
theorem tx_chain {o o' : CmpOp} {rr rr' : R2} {op op' : D → D → Option OV} (ho : OpR X (compareOp o) rr) (hs : OpS X.K rr op) (ho' : OpR X (compareOp o') rr') (hs' : OpS X.K rr' op') (ha : BX X W a ta fa) (hb : BX X W b tb fb) (hc : BX X W c tc fc) (hm : lastMarks [o, o'] [b, c] = false := by with_unfolding_all rfl) :
    TX X W (.Compare a [o, o'] [b, c] pos) (tTest (tChain rr rr' ta tb tc)) (tV (fD (fChain op op' fa fb fc))) :=
  ⟨pt_chain ho ho' ha.pe hb.pe hc.pe hm, sim_tv (EX.toB (ex_chain (pos := pos) ho hs ho' hs' ha hb hc (pe_chain ho ho' ha.pe hb.pe hc.pe hm))).sim⟩
theorem gx_nm (hN : X.N.Nodup) (hi : X.N[i]? = some x := by rfl) (hx : Loc X.env.scope x := by first | exact Or.inl rfl | exact Or.inr rfl) (hf : X.fn x = true ∨ X.env.scope.names.lookup x = some .local := by first | exact .inl rfl | exact .inr rfl) : GX X (.Name x pos) (gName i) (gNm i) := gx_name (pg_name hN hi hx hf)
theorem sx_set (hN : X.N.Nodup) (h : EX X W e ta F) (hi : X.N[i]? = some x := by rfl) (hx : Loc X.env.scope x := by first | exact Or.inl rfl | exact Or.inr rfl) (hs : swapsWith e (some (.Name x py)) pos.line X.env = pure false := by rfl)
    (hf : X.fn x = true ∨ X.env.scope.names.lookup x = some .local := by first | exact .inl rfl | exact .inr rfl) : SX X W (.Assign [.Name x py] e pos) (tAsg ta (gName i)) (sAsg i F) := sx_asg h (ps_set hN hi hx h.pe hs hf)
theorem ex_lcW (hc : X.calm = true) (hN : X.N.Nodup) (ok : BlkOk X.N X.env.scope scope own) (hi : IX X W tg iter wi I) (hw : GWipe (own.map (·.2)) g)
    (hg : ∀ (s : Shared) (H : Hp) (C : Addr) (cl : List (Str × Addr)) (fp : List Addr), GX (X.blk s H scope (compEnvC scope cl C X.env) fp) tg g G)
    (ht : ∀ (s : Shared) (H : Hp) (C : Addr) (cl : List (Str × Addr)) (fp : List Addr), TsX (X.blk s H scope (compEnvC scope cl C X.env) fp) WN ifs tt T)
    (he : ∀ (s : Shared) (H : Hp) (C : Addr) (cl : List (Str × Addr)) (fp : List Addr), FX (X.blk s H scope (compEnvC scope cl C X.env) fp) WN elt te FF) (hs : ∀ x, foldedSetIterable iter X.env x = pure x := by intro _; rfl) :
    EX X W (.ListComp elt [⟨tg, iter, ifs, 0⟩] scope pos) (tLc wi g tt te (own.map (·.2))) (fLc (own.map (·.2)) I G T FF) :=
  ex_lc (pe_lc hc hN hi.pi ok (fun s H C cl fp => (hg s H C cl fp).pg) (fun s H C cl fp => (ht s H C cl fp).pe) (fun s H C cl fp => (he s H C cl fp).pe) hs) hi hw hg ht he
/-- name = [..] on one line -/
theorem sx_setLc (hc : X.calm = true) (hN : X.N.Nodup) (ok : BlkOk X.N X.env.scope scope own) (hi : IX X W tg iter wi I) (hw : GWipe (own.map (·.2)) g)
    (hg : ∀ (s : Shared) (H : Hp) (C : Addr) (cl : List (Str × Addr)) (fp : List Addr), GX (X.blk s H scope (compEnvC scope cl C X.env) fp) tg g G)
    (ht : ∀ (s : Shared) (H : Hp) (C : Addr) (cl : List (Str × Addr)) (fp : List Addr), TsX (X.blk s H scope (compEnvC scope cl C X.env) fp) WN ifs tt T)
    (he : ∀ (s : Shared) (H : Hp) (C : Addr) (cl : List (Str × Addr)) (fp : List Addr), FX (X.blk s H scope (compEnvC scope cl C X.env) fp) WN elt te FF)
    (hix : X.N[i]? = some y := by rfl) (hyl : X.env.scope.names.lookup y = some .local := by rfl) (hsw : swapsWith (.ListComp elt [⟨tg, iter, ifs, 0⟩] scope pos) (some (.Name y py)) p.line X.env = pure true := by rfl) (hs : ∀ x, foldedSetIterable iter X.env x = pure x := by intro _; rfl) :
    SX X W (.Assign [.Name y py] (.ListComp elt [⟨tg, iter, ifs, 0⟩] scope pos) p) (tAsg (tLc wi g tt te (own.map (·.2))) (gName i)) (sAsg i (fLc (own.map (·.2)) I G T FF)) :=
  sx_asg (ex_lcW hc hN ok hi hw hg ht he hs) (ps_setLc hc hN hix hyl hsw hi.pi ok (fun s H C cl fp => (hg s H C cl fp).pg) (fun s H C cl fp => (ht s H C cl fp).pe) (fun s H C cl fp => (he s H C cl fp).pe) hs)
section
variable {apos : Pos} {id : String} {op : D → List D → Option OV} {rr : V → List V → Hp → VK → Prop}
theorem ex_ms (slot : Slot "str" x id) (hty : typeOf (.builtin id) = pure (.type "method_descriptor")) (hm : MtR X id rr) (ho : OpM X.K rr op) (ha : BX X W a ta fa) (hl : BAX X W (e :: es) tl FL) (hbase : attributeBase a x X.env (eval a X.env) = eval a X.env := by rfl)
    (hfew : ((backTo pos (starEach (e :: es) X.env)).all (fun x => !x.1) && (backToKw pos (keywordEach [] X.env)).all (fun x => x.1.isSome) && decide ((e :: es).length + ([] : List Keyword).length + (if ([] : List Keyword).isEmpty then 0 else 1) < 30)) = true := by rfl)
    (hline : (apos.endLine == pos.line) = true := by rfl) (hs : starEach (e :: es) X.env = (false, eval e X.env) :: starEach es X.env := by rfl) (hpl : (backTo pos (starEach es X.env)).any (·.1) = false := by rfl) :
    EX X W (.Call (.Attribute a x apos) (e :: es) [] pos) (tBM X.K "str" rr ta tl) (fMt op fa FL) := ex_mt (pe_bm PySem.F.plainAttrs_str slot hty hm ha.pe hl.pe hbase hfew hline hs hpl) ho ha hl
end
theorem ex_tkW {kk : Bool} {j0 : Nat} (hu : X.A.units + 1 < cLine) (hv : PE X a (tVar i)) (hs : NoSl (.Constant (.str (tkS kk)) j0 p) := by exact fun _ _ => rfl) : EX X W (.Subscript a (.Constant (.str (tkS kk)) j0 p) pos) (tDGet (tVar i) (tC (.str (tkS kk)))) (fTk i kk) := ex_tk (pe_dget hu hv pe_str hs)
theorem sx_tkW {kk : Bool} {j0 : Nat} (hu : X.A.units + 1 < cLine) (hv : PE X a (tVar i)) (h : FX X W e te FF) (hs : swapsWith e (some (.Subscript a (.Constant (.str (tkS kk)) j0 p) p2)) pos.line X.env = pure false := by rfl) :
    SX X W (.Assign [.Subscript a (.Constant (.str (tkS kk)) j0 p) p2] e pos) (sDPut (tVar i) (tC (.str (tkS kk))) te) (sTk i kk FF) := sx_tk (ps_dput hu hv pe_str h.pe hs) h
/-- text constants of the module -/
theorem fx_gs {zt : Str} (hm : ∃ tk, X.mg x = some (.str zt tk)) (hg : Gl X x := by rfl) (hd : (x == ("__debug__" : Str)) = false := by decide) : FX X W (.Name x pos) (tC (.str zt)) (fC (.str zt)) := by
  obtain ⟨tk, hm⟩ := hm
  exact fx_glob (u := .str zt tk) hg hm ⟨tk, rfl⟩ (fun K O H => by simp [R]) hd
end
section
variable {X : Cx} {W : WX} {es : List Expr} {tl : TA} {FL : S → Res (List D)} {x1 : Nat} {pos : Pos}
theorem ex_tp (h : AX X W es tl FL) : EX X W (.Tuple es x1 pos) (tTup tl) (eTup FL) := ex_tup (tp := none) h (pe_tup h.pe)
end
/-- _law_tape -/
theorem fg_tape {P : Program} {w : World} {K : PySem.W.Frag} {mg : Str → Option Value} {base : Heap} {k : Nat} {f : Addr} {fd : FuncData} {N : List Str} {qual x : Str} {st : Stmt} (F : Fun K x qual st f fd) (Sc : FnScope N ["script", "start"] (defScope st)) (hN : N.length = 5)
    (hb : ∀ (cdv : Value) (A : Around) (out : List Env) (s : Shared) (H : Hp) (E : XK), Room k (A.deeper (PyProof.Rows.envOfC qual (defScope st) s.heap.objs.size f cdv)) → PSs (cxOf (L2.CX P w) P w K mg base N qual (defScope st) f cdv A out s H E) (defBody st) (tTape K)) : FnG P w K mg base (k + 1) f fd ["script", "start"] (spTp K) := by
  refine fg_of F Sc (fun vs H Q E h => ?_) fun cdv A out s H vs Q E hG hr h => ?_
  · obtain ⟨sc, ns, i, e, _⟩ := h
    rw [e]; rfl
  · exact ⟨_, hb cdv A out s H E hr, tape_read h N hN⟩
def setAll : List Nat → List SV → S → RS
  | [], [], r => .nx r
  | i :: is, x :: xs, r => (setS i x r).go (setAll is xs)
  | _, _, _ => .bad
def sParN (is : List Nat) (F : S → Res (List SV)) : S → RS := fun r => (F r).bindS fun xs r => if xs.length = is.length then setAll is xs r else RS.bad
theorem SVRs.mono {K : PySem.W.Frag} {γ : Gh} {O O' : List Addr} {H : Hp} {xs : List SV} {vs : List V} {fp : List Addr} (ow : Own O H) (s : ∀ a ∈ O', a ∈ O) (h : SVRs K γ O H xs vs fp) : SVRs K γ O' H xs vs fp := h.stab ow (Stab.weak s fun _ _ z => z) fun _ _ => rfl
theorem SVRs.len {K : PySem.W.Frag} {γ : Gh} {O : List Addr} {H : Hp} : ∀ {xs : List SV} {vs : List V} {fp : List Addr}, SVRs K γ O H xs vs fp → vs.length = xs.length
  | [], vs, fp, h => by rw [h.1]; rfl
  | x :: xs, vs, fp, h => by
    obtain ⟨v, ws, f1, f2, e1, _, _, h2⟩ := h
    rw [e1, List.length_cons, List.length_cons, h2.len]
/-- the parts of law's body -/
def lawRest : List Stmt → List Stmt
  | .For _ _ (_ :: r) _ _ :: _ => r
  | _ => []
/-- a def by its mirror, the mirror's name given -/
theorem fgF {P : Program} {w : World} {K : PySem.W.Frag} {mg : Str → Option Value} {base : Heap} {k n m : Nat} {f : Addr} {fd : FuncData} {ps N : List Str} {qual x : Str} {st : Stmt} {B : S → RS} {FF : List D → FR} (Fu : Fun K x qual st f fd) (Sc : FnScope N ps (defScope st)) (hF : FF = bodyF m B) (hm : N.length = m) (hn : ps.length = n)
    (hb : ∀ (cdv : Value) (A : Around) (out : List Env) (s : Shared) (H : Hp) (E : XK), A.guards = some [] → Room k (A.deeper (PyProof.Rows.envOfC qual (defScope st) s.heap.objs.size f cdv)) → Takes (cxOf (L2.CX P w) P w K mg base N qual (defScope st) f cdv A out s H E) (fun c d _ H' => E c d H') →
      ∃ t, SSX (cxOf (L2.CX P w) P w K mg base N qual (defScope st) f cdv A out s H E) (fun c d _ H' => E c d H') (defBody st) t B) : FnG P w K mg base (k + 1) f fd ps (spF K mg n FF) := by
  subst hF hm
  exact fg_body Fu Sc hn fun cdv A out s H E hG hr => hb cdv A out s H E hG hr (takes_of rfl rfl rfl rfl)
theorem fgT {P : Program} {w : World} {K : PySem.W.Frag} {mg : Str → Option Value} {base : Heap} {k n m : Nat} {f : Addr} {fd : FuncData} {ps N : List Str} {qual x : Str} {st : Stmt} {B : S → RS} {FF : Int × Int → List D → FR} (Fu : Fun K x qual st f fd) (Sc : FnScope N ps (defScope st)) (hF : FF = bodyT m B) (hm : N.length = m) (hn : ps.length = n + 1)
    (hb : ∀ (cdv : Value) (A : Around) (out : List Env) (s : Shared) (H : Hp) (E : XK), A.guards = some [] → Room k (A.deeper (PyProof.Rows.envOfC qual (defScope st) s.heap.objs.size f cdv)) → Takes (cxOf (L2.CX P w) P w K mg base N qual (defScope st) f cdv A out s H E) (fun c d _ H' => E c d H') →
      ∃ t, SSX (cxOf (L2.CX P w) P w K mg base N qual (defScope st) f cdv A out s H E) (fun c d _ H' => E c d H') (defBody st) t B) : FnG P w K mg base (k + 1) f fd ps (spT K mg n FF) := by
  subst hF hm
  exact fg_bodyT Fu Sc hn fun cdv A out s H E hG hr => hb cdv A out s H E hG hr (takes_of rfl rfl rfl rfl)
abbrev hSub : R2 := rI0 fun i j => .int (i - j)
abbrev hLe : R2 := rOrd (fun i j => decide (i ≤ j)) (fun x y => !decide (y < x))
end QL
namespace QL
open PySem PySem.Spec L2
def zipL (ds es : List D) : List D := List.zipWith (fun d e => .tuple [d, e]) ds es
def fZip (FL : S → Res (List D)) : S → Res (List D) := fun r => (FL r).bind fun ds r => match ds with
  | [x, y] => match itemsD x, itemsD y with
    | some ds, some es => Res.ok (zipL ds es) r
    | _, _ => Res.bad
  | _ => Res.bad
end QL
namespace QS
open PySem PySem.Spec PyProof.Rows L2
abbrev kT (P : Program) (w : World) := PySem.strKind P w
def tkOf (e : Int × Value) : Str := match e.2 with
  | .str k _ => k
  | _ => Str.empty
def OkE (P : Program) (w : World) (e : Int × Value) : Prop := ∃ z u, e.2 = Value.str z u ∧ e.1 = (kT P w).hash z
/-- the set at b has the texts of zs -/
def SetS (P : Program) (w : World) (h : Heap) (b : Addr) (zs : List Str) : Prop :=
  ∃ ob ents ep tab, h.get? b = some ob ∧ ob.ExactSet ∧ ob.data = .set ents ep tab ∧ (∀ e ∈ ents.toList, OkE P w e) ∧ (ents.toList.map tkOf).Perm zs ∧ zs.Nodup ∧
    ents.size < scanBound ∧ tab.fits ents.size = true ∧ Ris tab.place.toList ∧ (w.params.followText "set-order" = true ∨ tab.led = true)
section
variable {P : Program} {w : World} {h h' : Heap} {b : Addr} {zs : List Str}
theorem SetS.keep (G : SetS P w h b zs) (k : ∀ o, h.get? b = some o → h'.get? b = some o) : SetS P w h' b zs := by
  obtain ⟨ob, ents, ep, tab, g1, gs⟩ := G
  exact ⟨ob, ents, ep, tab, k ob g1, gs⟩
theorem OkE.is {e : Int × Value} (g : OkE P w e) (z : Str) : (kT P w).is z e.2 = true ↔ tkOf e = z := by
  obtain ⟨z0, u, q1, _⟩ := g
  unfold tkOf
  rw [q1]
  constructor
  · intro q
    obtain ⟨u', q2⟩ := Value.isStrOf_shape (show Value.isStrOf z (.str z0 u) = true from q)
    cases q2; rfl
  · intro q
    subst q
    exact strKind_is P w _ u
theorem OkE.mem {l : List (Int × Value)} (g : ∀ e ∈ l, OkE P w e) (z : Str) : z ∈ l.map tkOf ↔ ∃ e ∈ l, (kT P w).is z e.2 = true := by
  constructor
  · intro q
    obtain ⟨e, he, q⟩ := List.mem_map.mp q
    exact ⟨e, he, ((g e he).is z).2 q⟩
  · rintro ⟨e, he, q⟩
    exact List.mem_map.mpr ⟨e, he, ((g e he).is z).1 q⟩
end
end QS
namespace QS
open PySem PySem.Spec PyProof.Rows L2
def insU (c : Nat) : List Nat → List Nat
  | [] => [c]
  | d :: r => if c < d then c :: d :: r else if c = d then d :: r else d :: insU c r
def sortU (l : List Nat) : List Nat := l.foldr insU []
end QS
namespace QL
open PySem PySem.Spec L2
section
variable {X : Cx} {W : WX} {a : Expr} {ta : TE} {fa : S → Res D} {p p2 q pos : Pos}
def dSortSet : D → Option OV
  | .str z => if z.length < 4000 then some (.nl ((QS.sortU z.cps.toList).map fun c => .str (tx [c]))) else none
  | _ => none
end
end QL
namespace QZ
open PySem PySem.Spec PyProof.Rows L2
/-- the zip, at turn k: its tuple free, or still out -/
def ZAt (h : Heap) (z TI TO i1 i2 l1 l2 q : Addr) (k : Nat) : Prop := IsPair h TI (.ref i1) (.ref i2) ∧ h.IsListIter i1 l1 k ∧ h.IsListIter i2 l2 k ∧
  ((IsZip h z TI TO .none ∧ ∃ a b, IsPair h TO a b) ∨ ∃ T f oT, IsZipHeld h z TI TO T f ∧ h.get? T = some oT ∧ T ≠ z ∧ T ≠ TO ∧ T ≠ i1 ∧ T ≠ i2 ∧ T ≠ q)
section
variable {P : Program} {w : World} {A : Around} {E : Value → Shared → Prop} {s : Shared} {z TI TO i1 i2 l1 l2 q : Addr} {k : Nat} {xs ys : Array Value}
theorem ZAt.type (Z : ZAt s.heap z TI TO i1 i2 l1 l2 q k) : s.TypeIs (.ref z) "zip" := by
  obtain ⟨_, _, _, ⟨h, _⟩ | ⟨T, f, oT, h, _⟩⟩ := Z
  · exact ⟨_, h, rfl⟩
  · exact ⟨_, h, rfl⟩
theorem ZAt.keep {h h' : Heap} (Z : ZAt h z TI TO i1 i2 l1 l2 q k) (kp : ∀ b o, b ≠ q → h.get? b = some o → h'.get? b = some o) (n1 : z ≠ q) (n2 : TI ≠ q) (n3 : TO ≠ q) (n4 : i1 ≠ q) (n5 : i2 ≠ q) : ZAt h' z TI TO i1 i2 l1 l2 q k := by
  obtain ⟨a, b, c, d⟩ := Z
  refine ⟨kp _ _ n2 a, b.at fun o e => kp _ o n4 e, c.at fun o e => kp _ o n5 e, ?_⟩
  rcases d with ⟨d, u, v, e⟩ | ⟨T, f, oT, d, e, r⟩
  · exact .inl ⟨kp _ _ n1 d, u, v, kp _ _ n3 e⟩
  · exact .inr ⟨T, f, oT, kp _ _ n1 d, kp _ _ r.2.2.2.2 e, r⟩
end
theorem SqL.mono {K : PySem.W.Frag} {H H' : Hp} {a : Addr} {xs : List V} (h : SqL K H a xs) (k : ∀ b o, H b = some o → H' b = some o) : SqL K H' a xs := by
  rcases h with (h | ⟨o, h⟩) | h
  · exact .inl (.inl (k _ _ h))
  · exact .inl (.inr ⟨o, k _ _ h⟩)
  · exact .inr h
end QZ
namespace QL
open PySem PySem.Spec L2
section
variable {X : Cx} {W : WX} {e e2 : Expr} {tl : TA} {FL : S → Res (List D)} {p p2 q pos : Pos}
def fListZip (FL : S → Res (List D)) : S → Res SV := fun r => (FL r).bind fun ds r => match ds with
  | [.list xs, .list ys] => Res.ok (SV.ol (zipL xs ys)) r
  | _ => Res.bad
def sAug (i : Nat) (op : Int → Int → Int) (F : S → Res D) : S → RS := fun r => match r.sl[i]? with
  | some (some (.fz (.int a))) => (F r).bindS fun d r => match d with
    | .int b => setS i (.fz (.int (op a b))) r
    | _ => RS.bad
  | _ => RS.bad
variable {te : TE} {FF : S → Res D} {i : Nat} {x : Str} {op : Operator} {f : Int → Int → Int} {p3 : Pos}
theorem sim_aug {K : PySem.W.Frag} {mg : Str → Option Value} (h : Sim K mg W (PB K) te FF) : SimS K mg W (tAug i te (ipI f)) (sAug i f FF) := by
  intro γ Oc r σ H fs g
  unfold sAug
  split
  · rename_i a e0
    obtain ⟨v, fv, ev, hv⟩ := g.slotV e0
    have hv1 : v = .int a := by have := hv.1; simpa only [R] using this
    refine SimSAt.imp (SimSAt.bindE (t2 := fun (y : V) (H1 : Hp) (E : Ends) => ipI f v y H1 fun z H2 => E.nx (σ.set i (some z)) H2) (h γ Oc r σ H fs g) fun d r1 y H1 ⟨fs1, g1, v1, s1⟩ => ?_) fun E q => ⟨v, ev, q⟩
    refine SimSAt.tr s1.evo ?_
    cases d with
    | int b =>
      simp only [RE, R] at v1
      subst v1 hv1
      have g2 : Good K γ ([] ++ Oc) r1 σ H1 fs1 := by simpa using g1
      refine SimSAt.imp (sim_setS (i := i) (x := .fz (.int (f a b))) (v := .int (f a b)) (fp := []) g2 ⟨by simp [R], rfl⟩ (by rw [List.append_nil]; exact Evo.refl _ _)) fun E q => ⟨a, b, rfl, rfl, q⟩
    | _ => exact fun E => trivial
  · exact fun E => trivial
theorem sx_aug (hN : X.N.Nodup) (hp : PIp X op (ipI f)) (h : BX X W e te FF) (hi : X.N[i]? = some x := by rfl) (hx : Loc X.env.scope x := by first | exact Or.inl rfl | exact Or.inr rfl)
    (hf : X.fn x = true ∨ X.env.scope.names.lookup x = some .local := by first | exact .inl rfl | exact .inr rfl) : SX X W (.AugAssign (.Name x p) op e pos) (tAug i te (ipI f)) (sAug i f FF) := ⟨ps_aug hN hi hx h.pe hp hf, sim_aug h.sim⟩
def sUnp (F : S → Res D) (G : D → S → Option S) : S → RS := fun r => (F r).bindS fun d r => match G d r with
  | some r => RS.nx r
  | none => RS.bad
end
end QL
namespace QL
open PySem PySem.Spec L2
def drop1 (is : List Nat) (k : Nat) (x : Option SV) : Option SV := if is.contains k then none else match x with
  | some .tape => none
  | x => x
def dropL (is : List Nat) : Nat → List (Option SV) → List (Option SV)
  | _, [] => []
  | k, x :: r => drop1 is k x :: dropL is (k + 1) r
theorem drop1_none (is : List Nat) (k : Nat) : drop1 is k none = none := by unfold drop1; split <;> rfl
theorem drop1_some (is : List Nat) (k : Nat) (y : SV) : drop1 is k (some y) = none ∨ (y ≠ .tape ∧ drop1 is k (some y) = some y) := by
  unfold drop1
  split
  · exact .inl rfl
  · cases y with
    | tape => exact .inl rfl
    | _ => exact .inr ⟨by simp, rfl⟩
section
variable {K : PySem.W.Frag} {mg : Str → Option Value} {W : WX} {γ : Gh} {Oc : List Addr} {r r' : S} {σ σ' : St} {H H' : Hp} {fs fs' f2 fp : List Addr}
abbrev Gh.off (γ : Gh) : Gh := ⟨none, γ.sc, γ.ns, γ.tb⟩
theorem SVR.off {O : List Addr} {x : SV} {v : V} (hx : x ≠ .tape) (h : SVR K γ O H x v fp) : SVR K γ.off O H x v fp := by
  cases x with
  | tape => exact absurd rfl hx
  | _ => exact h
theorem SVR.on {O : List Addr} {x : SV} {v : V} (h : SVR K γ.off O H x v fp) : SVR K γ O H x v fp := by
  cases x with
  | tape => obtain ⟨⟨a, e, _⟩, _⟩ := h; cases e
  | _ => exact h
theorem Slots.on {O : List Addr} : ∀ {sl : List (Option SV)} {σ : St} {fp : List Addr}, Slots K γ.off O H sl σ fp → Slots K γ O H sl σ fp
  | [], _, _, h => h
  | none :: r, _, _, h => by
    obtain ⟨x, s, e, h⟩ := h
    exact ⟨x, s, e, Slots.on h⟩
  | some y :: r, _, _, h => by
    obtain ⟨v, s, a, b, e1, e2, h1, h2⟩ := h
    exact ⟨v, s, a, b, e1, e2, h1.on, Slots.on h2⟩
theorem Slots.dropped {O : List Addr} (is : List Nat) : ∀ {sl : List (Option SV)} {σ : St} {fp : List Addr} (k : Nat), Slots K γ O H sl σ fp → ∃ fp', Slots K γ.off O H (dropL is k sl) σ fp' ∧ fp'.Sublist fp
  | [], _, _, k, h => ⟨[], ⟨h.1, rfl⟩, by simp⟩
  | none :: r, _, _, k, h => by
    obtain ⟨x, s, e, h⟩ := h
    obtain ⟨f, a, b⟩ := Slots.dropped is (k + 1) h
    refine ⟨f, ?_, b⟩
    show Slots K γ.off O H (drop1 is k none :: dropL is (k + 1) r) _ f
    rw [drop1_none]
    exact ⟨x, s, e, a⟩
  | some y :: r, _, _, k, h => by
    obtain ⟨v, s, a, b, e1, e2, h1, h2⟩ := h
    obtain ⟨f, a', b'⟩ := Slots.dropped is (k + 1) h2
    rw [e2]
    show ∃ fp', Slots K γ.off O H (drop1 is k (some y) :: dropL is (k + 1) r) _ fp' ∧ _
    rcases drop1_some is k y with q | ⟨ny, q⟩
    · rw [q]
      exact ⟨f, ⟨some v, s, e1, a'⟩, b'.trans (List.sublist_append_right _ _)⟩
    · rw [q]
      exact ⟨a ++ f, ⟨v, s, a, f, e1, rfl, h1.off ny, a'⟩, (List.Sublist.refl a).append b'⟩
theorem Good.off (is : List Nat) (g : Good K γ Oc r σ H fs) : ∃ f0 f2, Good K γ.off (f2 ++ Oc) ⟨dropL is 0 r.sl, none⟩ σ H f0 ∧ TapeR γ H r.tp f2 ∧ (∀ a ∈ f0, a ∈ fs) ∧ (∀ a ∈ f2, a ∈ fs) ∧ ∀ a ∈ f2, a ∉ f0 := by
  obtain ⟨⟨f1, f2, e, sl, tp⟩, nd, ow, tt⟩ := g
  obtain ⟨f0, s0, sb⟩ := sl.dropped is 0
  have m0 : ∀ a ∈ f0, a ∈ f1 := fun a h => sb.subset h
  have sub : ∀ a ∈ f0 ++ (f2 ++ Oc), a ∈ fs ++ Oc := fun a z => by
    rw [e]
    simp only [List.mem_append] at z ⊢
    rcases z with z | z | z
    · exact .inl (.inl (m0 a z))
    · exact .inl (.inr z)
    · exact .inr z
  rw [e, List.append_assoc] at nd
  refine ⟨f0, f2, ⟨⟨f0, [], by simp, s0.stab ow (Stab.weak sub fun _ _ z => z) fun _ _ => rfl, rfl⟩, nd.sublist (sb.append (List.Sublist.refl _)), ow.mono sub, fun z => absurd rfl z, tt.2⟩, tp, fun a z => by rw [e]; exact List.mem_append_left _ (m0 a z), fun a z => by rw [e]; exact List.mem_append_right _ z, fun a z z' => ?_⟩
  exact (List.nodup_append.mp nd).2.2 a (m0 a z') a (List.mem_append_left _ z) rfl
theorem TapeR.keep {t : Option (Int × Int)} (tp : TapeR γ H t f2) (k : ∀ a ∈ f2, ∀ o, H a = some o → isTbl o = false → H' a = some o) : TapeR γ H' t f2 := by
  cases t with
  | none => exact tp
  | some t =>
    obtain ⟨a, e1, e2, e3⟩ := tp
    exact ⟨a, e1, k a (by rw [e3]; simp) _ e2 rfl, e3⟩
end
end QL
namespace QL
open PySem PySem.Spec L2
theorem CallR.or {X : Cx} {f : Value} {r1 r2 : List V → Hp → VK → Prop} (h1 : CallR X f r1) (h2 : CallR X f r2) : CallR X f (fun vs H Q => r1 vs H Q ∨ r2 vs H Q) := fun pins s σ H xs us Q I r q => by
  rcases q with q | q
  · exact h1 pins s σ H xs us Q I r q
  · exact h2 pins s σ H xs us Q I r q
def dSumA : List D → Option OV
  | [.list ds] => match intsD ds with
    | some ns => some (.fz (.int ns.sum))
    | _ => none
  | [.tuple ds] => match intsD ds with
    | some ns => some (.fz (.int ns.sum))
    | _ => none
  | _ => none
/-- keys -/
def keyD : D → Option Key
  | .int i => some (.inl i)
  | .str x => some (.inr x)
  | _ => none
theorem keyD_kD (c : Key) : keyD (kD c) = some c := by cases c <;> rfl
def putD (kvs : List (D × D)) (c : Key) (v : D) : List (D × D) :=
  if (kvs.any fun p => decide (keyD p.1 = some c)) = true then kvs.map (fun p => if keyD p.1 = some c then (p.1, v) else p) else kvs ++ [(kD c, v)]
section
variable {K : PySem.W.Frag} {O : List Addr} {H : Hp}
theorem RK.any (c : Key) : ∀ {kvs : List (D × D)} {ws : List (Key × V)}, RK K O H kvs ws → (kvs.any fun p => decide (keyD p.1 = some c)) = ws.any fun p => decide (p.1 = c)
  | [], _, h => by simp only [RK] at h; subst h; rfl
  | (k, d) :: r, _, h => by
    simp only [RK] at h
    obtain ⟨c', v, ws, e, e2, h1, h2⟩ := h
    subst e e2
    rw [List.any_cons, List.any_cons, RK.any c h2, keyD_kD]
    simp
theorem RK.repl (c : Key) {x : D} {y : V} (hx : R K O H x y) : ∀ {kvs : List (D × D)} {ws : List (Key × V)}, RK K O H kvs ws → RK K O H (kvs.map fun p => if keyD p.1 = some c then (p.1, x) else p) (ws.map fun p => if p.1 = c then (p.1, y) else p)
  | [], _, h => by simp only [RK] at h; subst h; simp [RK]
  | (k, d) :: r, _, h => by
    simp only [RK] at h
    obtain ⟨c', v, ws, e, e2, h1, h2⟩ := h
    subst e e2
    rw [List.map_cons, List.map_cons]
    by_cases q : c' = c
    · subst q
      simp only [keyD_kD, if_true, RK]
      exact ⟨c', y, _, rfl, rfl, hx, RK.repl c' hx h2⟩
    · have q' : ¬ (keyD (kD c') = some c) := by rw [keyD_kD]; simpa using q
      simp only [if_neg q', if_neg q, RK]
      exact ⟨c', v, _, rfl, rfl, h1, RK.repl c hx h2⟩
theorem RK.snoc (c : Key) {x : D} {y : V} (hx : R K O H x y) : ∀ {kvs : List (D × D)} {ws : List (Key × V)}, RK K O H kvs ws → RK K O H (kvs ++ [(kD c, x)]) (ws ++ [(c, y)])
  | [], _, h => by
    simp only [RK] at h; subst h
    simp only [List.nil_append, RK]
    exact ⟨c, y, [], rfl, rfl, hx, rfl⟩
  | (k, d) :: r, _, h => by
    simp only [RK] at h
    obtain ⟨c', v, ws, e, e2, h1, h2⟩ := h
    subst e e2
    simp only [List.cons_append, RK]
    exact ⟨c', v, _, rfl, rfl, h1, RK.snoc c hx h2⟩
theorem RK.put (c : Key) {x : D} {y : V} (hx : R K O H x y) {kvs : List (D × D)} {ws : List (Key × V)} (h : RK K O H kvs ws) : RK K O H (putD kvs c x) (putK ws c y) := by
  unfold putD putK
  rw [RK.any c h]
  split
  · exact RK.repl c hx h
  · exact RK.snoc c hx h
end
def sPutK (i : Nat) (FV FK : S → Res D) : S → RS := fun r => (FV r).bindS fun v r => match r.sl[i]? with
  | some (some (.od _)) => (FK r).bindS fun k r => match keyD k, r.sl[i]? with
    | some c, some (some (.od kvs)) => if kvs.length < sizeLine then RS.nx { r with sl := r.sl.set i (some (.od (putD kvs c v))) } else RS.bad
    | _, _ => RS.bad
  | _ => RS.bad
section
variable {X : Cx} {W : WX} {a b e : Expr} {ta tv tk : TE} {fv fk : S → Res D} {i : Nat} {pos pos' : Pos}
/-- len of a slot's dict -/
def fLenK (i : Nat) : S → Res SV := fun r => match r.sl[i]? with
  | some (some (.od kvs)) => .ok (.fz (.int (kvs.length : Nat))) r
  | _ => .bad
end
end QL
namespace QL
open PySem PySem.Spec L2
def fMtL (op : D → List D → Option OV) (fa : S → Res D) (FL : S → Res (List D)) : S → Res SV := fun r => (fa r).bind fun x r => match x with
  | .list xs => (FL r).bind fun ds r => ovR (op (.list xs) ds) r
  | _ => Res.bad
theorem hu_in {A : Around} {k : Nat} (hr : Room k A) : A.units + 65 < cLine := by have := hr.un; omega
end QL
namespace QL
open PySem PySem.Spec L2
section
variable {X : Cx} {W : WX} {tg a b c : Expr} {tl : TA} {FL : S → Res (List D)} {p pos : Pos} {tA tB tC : TT} {FA FB FC : S → Res Bool}
def eIfT (T A B : S → Res Bool) : S → Res Bool := fun r => (T r).bind fun b r => if b then A r else B r
end
end QL
namespace QL
open PySem PySem.Spec L2
def flat1 : D → Bool
  | .list _ => false
  | .dict _ => false
  | .tuple ds => ds.all flat0
  | _ => true
def flatD : D → Bool
  | .list _ => false
  | .dict _ => false
  | .tuple ds => ds.all flat1
  | _ => true
def flatAll (ds : List D) : Bool := ds.all flatD
section
variable {K : PySem.W.Frag} {mg : Str → Option Value} {W : WX} {γ : Gh} {Oc : List Addr} {O : List Addr} {H : Hp} {tl : TA} {n : Nat} {F : List D → FR} {FL : S → Res (List D)}
theorem REs.all (ow : Own O H) : ∀ {ds : List D} {vs : List V}, REs K γ O H ds vs → Rs K [] H ds vs
  | [], vs, h => by
    have h : vs = [] := h
    subst h; simp [Rs]
  | d :: ds, vs, h => by
    obtain ⟨v, ws, e, h1, h2⟩ := h
    simp only [Rs]
    exact ⟨v, ws, e, h1.all ow, REs.all ow h2⟩
end
end QL
namespace QL
open PySem PySem.Spec L2
end QL
namespace QL
open PySem PySem.Spec L2
section
variable {X : Cx} {W : WX} {a b c e2 : Expr} {tl : TA} {te : TE} {FL : S → Res (List D)} {fe : S → Res D} {p p2 q pos tpos : Pos} {elts : List Expr} {kk : Nat}
instance {K : PySem.W.Frag} : PstT (PIt K) := ⟨fun s ⟨f, a, b, c⟩ => ⟨f, a, b, s.trans c⟩⟩
end
end QL
namespace QL
open PySem PySem.Spec L2
structure LawOk2 (n : Nat) (T : List Addr) (B : S → RS) (G : S → RS) : Prop where
  turn : ∀ (i : Int) (t : Int × Int), 0 ≤ i → i < 64 → TapeOk t = true → ∃ r', B (lawS n T i t) = .nx r' ∧ r'.sl[0]? = some (some (.scr T)) ∧ r'.sl.length = n + 3
  last : ∃ r', G (lawE n T) = .rt (.fz (.bool true)) r'
section
variable {tB : TS} {tE : TS} {B : S → RS} {BE : S → RS} {n : Nat} {cap : Int} {T : List Addr}
def tLaw2 (K : PySem.W.Frag) (cap : Int) (tB : TS) (tE : TS) : TS := tSeq (tFor (iRng1 (tLawRg K cap)) (gName 1) (tSeq (tAsg (tCallS (spTp K) (WE WN) (tCons (tVar 0) (tCons (tVar 1) tNil))) (gName 2)) tB)) tE
theorem law_read2 {K : PySem.W.Frag} {mg : Str → Option Value} (hcap : 0 < cap ∧ cap < 64) (hB : SimS K mg WN tB B) (hE : SimS K mg WN tE BE) (ok : LawOk2 n T B BE) {vs : List V} {H : Hp} {Q : VK} {E : XK} (h : spLaw K T vs H Q E) (N : List Str) (hN : N.length = n + 3) :
    tLaw2 K cap tB tE { nx := fun _ H' => Q .non H', rt := Q } (L2.start N vs) H := by
  obtain ⟨sc, ns, ev, hTb, hS, hl, hb, hq⟩ := h
  subst ev
  have st0 : L2.start N [.ref sc] = some (.ref sc) :: List.replicate (n + 2) none := by
    unfold L2.start
    rw [hN]
    rfl
  rw [st0]
  -- how many tapes
  have e62 : (2 : Int) ^ 62 = 4611686018427387904 := by decide
  have hlen : (0 : Int) ≤ ns.length := Int.natCast_nonneg _
  have hlen2 : (ns.length : Int) ≤ 63 := by omega
  obtain ⟨m, hmeq⟩ : ∃ m : Int, m = (if (if (ns.length : Int) < cap then (ns.length : Int) else cap) > 1 then (if (ns.length : Int) < cap then (ns.length : Int) else cap) else 1) := ⟨_, rfl⟩
  have hm1 : 1 ≤ m ∧ m ≤ 63 := by
    rw [hmeq]
    split <;> split <;> omega
  have rg : ∀ (R : It → Hp → Prop), R (Itr 0 m.toNat) H → iRng1 (tLawRg K cap) (some (.ref sc) :: List.replicate (n + 2) none) H R := fun R hR => by
    refine ⟨.ref sc, rfl, ?_⟩
    refine ⟨.ref sc, ns.length, rfl, .inl ⟨ns.map V.int, hS.seq, by simp⟩, ?_⟩
    refine ⟨cap, ns.length, rfl, ?_⟩
    refine ⟨1, _, rfl, ?_⟩
    refine ⟨m, ?_, by rw [e62]; omega, by rw [e62]; omega, hR⟩
    rw [hmeq]
  unfold tLaw2 tSeq tFor
  refine rg _ ?_
  refine ⟨fun i k σ H' => k = m.toNat - i ∧ i ≤ m.toNat ∧ SameT H H' ∧ σ[0]? = some (some (.ref sc)) ∧ σ.length = n + 3, ⟨m.toNat, by simp, Nat.zero_le _, SameT.refl _, rfl, by simp⟩, ?_⟩
  rintro i k σ H' ⟨rfl, hi, hs, h0, hlσ⟩
  by_cases hlt : i < m.toNat
  · refine .inr ⟨hlt, fun σ' H2 => SameT H H2 ∧ σ'[0]? = some (some (.ref sc)) ∧ σ'.length = n + 3, fun σ' H2 ⟨z1, z2, z3⟩ => ⟨m.toNat - (i + 1), by omega, rfl, hlt, z1, z2, z3⟩, fun x H2 ⟨eH, ex⟩ => ?_⟩
    subst eH ex
    -- the tape
    refine ⟨.ref sc, by rw [List.getElem?_set_ne (by decide)]; exact h0, .int (0 + (i : Int)), by rw [List.getElem?_set_self (by omega)], ?_⟩
    refine ⟨sc, ns, 0 + (i : Int), rfl, (hS.same hs).seq, hl, hb, by omega, by omega, fun H3 p t s3 hp h3 ht => ?_⟩
    -- the turn
    obtain ⟨r', eB, e0, el⟩ := ok.turn (0 + (i : Int)) t (by omega) (by omega) ht
    have S3 : Scr K H3 sc (ns.map V.int) := (hS.same hs).same (.of s3)
    have shape : ∃ τ : St, τ.length = n ∧ ((σ.set 1 (some (.int (0 + (i : Int))))).set 2 (some (.ref p))) = some (.ref sc) :: some (.int (0 + (i : Int))) :: some (.ref p) :: τ := by
      match σ, hlσ, h0 with
      | s0 :: s1 :: s2 :: τ, hlσ, h0 =>
        simp at h0
        subst h0
        exact ⟨τ, by simpa using hlσ, rfl⟩
      | [_, _], hlσ, h0 => simp at hlσ
      | [_], hlσ, h0 => simp at hlσ
      | [], hlσ, h0 => simp at hlσ
    obtain ⟨τ, hτ, eσ⟩ := shape
    show tB _ ((σ.set 1 (some (.int (0 + (i : Int))))).set 2 (some (.ref p))) H3
    rw [eσ]
    have g : Good K ⟨some p, sc, ns, T⟩ [] (lawS n T (0 + (i : Int)) t) (some (.ref sc) :: some (.int (0 + (i : Int))) :: some (.ref p) :: τ) H3 [p] := by
      refine ⟨⟨[], [p], rfl, ⟨_, _, [], [], rfl, rfl, ⟨⟨rfl, rfl, S3⟩, rfl⟩, _, _, [], [], rfl, rfl, ⟨by simp [R], rfl⟩, _, _, [], [], rfl, rfl, ⟨⟨p, rfl, rfl⟩, rfl⟩, Slots.nones n τ hτ⟩, ⟨p, rfl, h3, rfl⟩⟩, by simp, fun a z => ?_, fun _ z => (by cases z), fun q hq => (hs.tb _ (hTb q hq)).ext s3⟩
      have : a = p := by simpa using z
      subst this
      exact ⟨_, h3, trivial⟩
    refine SimSAt.use (hB _ _ _ _ _ _ g) ?_
    rw [eB]
    rintro σ' H4 ⟨fs', g', ev⟩
    refine ⟨⟨fun b o hbo ht => ?_, fun b hb => ev.there b ((SameT.of s3).th b (hs.th b hb)), fun P h => ev.tb P ((hs.tb P h).ext s3)⟩, ?_, ?_⟩
    · exact ev.keep b o (s3 b o (hs.kp b o hbo ht)) (fun z => by
        have : b = p := by simpa using z
        subst this
        rw [hs.kp b o hbo ht] at hp; cases hp) ht
    · obtain ⟨v, f, e1, ⟨e2, _⟩, _⟩ := g'.slotV e0
      rw [e1, e2]
    · obtain ⟨⟨f1, f2, _, sl, _⟩, _⟩ := g'
      rw [sl.len, el]
  · refine .inl ⟨Nat.le_of_not_lt hlt, ?_⟩
    obtain ⟨r', eG⟩ := ok.last
    have shape : ∃ (s1 s2 : Option V) (τ : St), τ.length = n ∧ σ = some (.ref sc) :: s1 :: s2 :: τ := by
      match σ, hlσ, h0 with
      | s0 :: s1 :: s2 :: τ, hlσ, h0 =>
        simp at h0
        subst h0
        exact ⟨s1, s2, τ, by simpa using hlσ, rfl⟩
      | [_, _], hlσ, h0 => simp at hlσ
      | [_], hlσ, h0 => simp at hlσ
      | [], hlσ, h0 => simp at hlσ
    obtain ⟨s1, s2, τ, hτ, eσ⟩ := shape
    rw [eσ]
    have g : Good K ⟨none, sc, ns, T⟩ [] (lawE n T) (some (.ref sc) :: s1 :: s2 :: τ) H' [] := by
      refine ⟨⟨[], [], rfl, ⟨_, _, [], [], rfl, rfl, ⟨⟨rfl, rfl, hS.same hs⟩, rfl⟩, _, _, rfl, _, _, rfl, Slots.nones n τ hτ⟩, rfl⟩, by simp, by simp [Own], fun z => absurd rfl z, fun q hq => hs.tb _ (hTb q hq)⟩
    refine SimSAt.use (hE _ _ _ _ _ _ g) ?_
    rw [eG]
    rintro v H4 ⟨σ', fs', fp, g', hv, _⟩
    obtain ⟨hv, _⟩ := hv
    simp only [R] at hv
    subst hv
    exact hq _
end
def lawTail : List Stmt → List Stmt
  | _ :: r => r
  | [] => []
theorem fg_none {P : Program} {w : World} {K : PySem.W.Frag} {mg : Str → Option Value} {base : Heap} {k n : Nat} {f : Addr} {fd : FuncData} {ps : List Str} : FnG P w K mg base k f fd ps (spF K mg n fun _ => .bad) :=
  ⟨fun vs H Q E h => by obtain ⟨_, _, _, _, _, _, h⟩ := h; exact h.elim, fun A out s H gs us vs Q E _ _ _ _ _ h => by obtain ⟨_, _, _, _, _, _, h⟩ := h; exact h.elim⟩
theorem fx_gi {X : Cx} {W : WX} {x : Str} {pos : Pos} {v : Int} (hm : ∃ tk, X.mg x = some (.int v tk)) (hg : Gl X x := by rfl) (hd : (x == ("__debug__" : Str)) = false := by decide) : FX X W (.Name x pos) (tC (.int v)) (fC (.int v)) := by
  obtain ⟨tk, hm⟩ := hm
  exact fx_glob (u := .int v tk) hg hm ⟨tk, rfl⟩ (fun K O H => by simp [R]) hd
end QL
namespace QL
open PySem PySem.Spec L2
def showOk (d : D) : Bool := d.plain && d.showable && decide (d.depth ≤ 60) && decide (d.shown.length ≤ sizeLine)
def dRepr : List D → Option OV
  | [d] => if showOk d = true then some (.fz (.str d.shown)) else none
  | _ => none
def dJoin : D → List D → Option OV
  | .str a, [.list ds] => (strsD ds).bind fun ys => if (ys.map (·.length)).sum + ys.length * a.length ≤ 1000000 then some (.fz (.str (Txt.join a ys))) else none
  | _, _ => none
def rJoin (K : PySem.W.Frag) : V → List V → Hp → VK → Prop := fun x xs H Q => ∃ a p, ∃ ys : List Str, x = .str a ∧ xs = [.ref p] ∧ (SqL K H p (ys.map V.str) ∨ SqT K H p (ys.map V.str)) ∧
    (ys.map (·.length)).sum + ys.length * a.length ≤ 16777216 ∧ Q (.str (Txt.join a ys)) H
theorem opm_join {K : PySem.W.Frag} : OpM K (rJoin K) dJoin := by
  intro γ O H x ds vs z Q ow h e hq
  unfold dJoin at e
  split at e
  · rename_i a xs e1
    cases e1
    simp only [Option.bind_eq_some_iff] at e
    obtain ⟨ys, e2, e3⟩ := e
    split at e3
    · rename_i hl
      cases e3
      obtain ⟨v, ws, q1, r1, q2⟩ := h
      obtain ⟨p, us, p1, p2, p3⟩ := r1.tracked
      refine ⟨_, p, ys, rfl, by rw [q1, q2, p1], .inl (.inl (.inl ?_)), by omega, hq _ (by simp [R])⟩
      rw [← p3.strs e2]; exact p2
    · cases e3
  · cases e
end QL
namespace QL
open PySem PySem.Spec L2
def pickL {α : Type} (perm : List Nat) (l : List α) : List α := perm.filterMap fun i => l[i]?
theorem Vals.at? : ∀ {vs : List V} {us : List Value} (r : Vals vs us) (i : Nat), (∃ v u, vs[i]? = some v ∧ us[i]? = some u ∧ RelV v u) ∨ (vs[i]? = none ∧ us[i]? = none)
  | [], _, .nil, i => .inr ⟨by simp, by simp⟩
  | v :: vs, _, .cons h r, 0 => .inl ⟨v, _, rfl, rfl, h⟩
  | v :: vs, _, .cons h r, i + 1 => by simpa using Vals.at? r i
theorem Vals.pick {vs : List V} {us : List Value} (r : Vals vs us) : ∀ perm : List Nat, Vals (pickL perm vs) (pickL perm us)
  | [] => .nil
  | i :: perm => by
    rcases Vals.at? r i with ⟨v, u, h1, h2, h3⟩ | ⟨h1, h2⟩
    · simp only [pickL, List.filterMap_cons, h1, h2]
      exact .cons h3 (Vals.pick r perm)
    · simp only [pickL, List.filterMap_cons, h1, h2]
      exact Vals.pick r perm
theorem Rs.at? {K : PySem.W.Frag} {O : List Addr} {H : Hp} : ∀ {ds : List D} {vs : List V} (r : Rs K O H ds vs) (i : Nat), (∃ d v, ds[i]? = some d ∧ vs[i]? = some v ∧ R K O H d v) ∨ (ds[i]? = none ∧ vs[i]? = none)
  | [], vs, r, i => by simp only [Rs] at r; subst r; exact .inr ⟨by simp, by simp⟩
  | d :: ds, vs, r, i => by
    simp only [Rs] at r
    obtain ⟨v, ws, e, h1, h2⟩ := r
    subst e
    match i with
    | 0 => exact .inl ⟨d, v, rfl, rfl, h1⟩
    | i + 1 => simpa using Rs.at? h2 i
theorem Rs.pick {K : PySem.W.Frag} {O : List Addr} {H : Hp} {ds : List D} {vs : List V} (r : Rs K O H ds vs) : ∀ perm : List Nat, Rs K O H (pickL perm ds) (pickL perm vs)
  | [] => by simp [pickL, Rs]
  | i :: perm => by
    rcases Rs.at? r i with ⟨d, v, h1, h2, h3⟩ | ⟨h1, h2⟩
    · simp only [pickL, List.filterMap_cons, h1, h2, Rs]
      exact ⟨v, _, rfl, h3, Rs.pick r perm⟩
    · simp only [pickL, List.filterMap_cons, h1, h2]
      exact Rs.pick r perm
theorem pickL_len {α : Type} {l : List α} : ∀ {perm : List Nat}, (∀ i ∈ perm, i < l.length) → (pickL perm l).length = perm.length
  | [], _ => rfl
  | i :: perm, h => by
    have hi : i < l.length := h i (by simp)
    simp only [pickL, List.filterMap_cons, List.getElem?_eq_getElem hi, List.length_cons]
    exact congrArg (· + 1) (pickL_len fun j hj => h j (List.mem_cons_of_mem _ hj))
/-- how a call by names alone binds -/
def KB (K : PySem.W.Frag) (fd : FuncData) (ps ks : List Str) (perm : List Nat) : Prop := ∀ (s : Shared) (ws : List Value), K.In s.heap → ws.length = ks.length → BindsTo s fd ⟨[], ks.zip ws⟩ (ps.zip (pickL perm ws))
theorem Fun.kb {K : PySem.W.Frag} {x qual : Str} {st : Stmt} {f : Addr} {fd : FuncData} (F : Fun K x qual st f fd) {ps ks : List Str} {perm : List Nat}
    (h : ∀ (kV doc pm : Value) (an : Option Addr) (cdv ct : Value) (ws : List Value), ws.length = ks.length → bindArgs (PySem.W.fnOf x qual (defArgs st) (defBody st) (defScope st) .none kV doc pm an cdv ct) ⟨[], ks.zip ws⟩ = pure (ps.zip (pickL perm ws))) : KB K fd ps ks perm := by
  obtain ⟨oc, od, kV, doc, pm, an, cdv, ct, osl, rfl, lk, hcd⟩ := F.ex
  exact fun s ws _ hl => .of_eq (h kV doc pm an cdv ct ws hl)
structure DefK (P : Program) (w : World) (K : PySem.W.Frag) (mg : Str → Option Value) (base : Heap) (x : Str) (k n : Nat) (ks : List Str) (perm : List Nat) (F : List D → FR) : Prop where
  ex : ∃ f fd ps, FnG P w K mg base k f fd ps (spF K mg n F) ∧ mg x = some (.ref f) ∧ PySem.W.keepIn K (.ref f) = true ∧ KB K fd ps ks perm
  pm : perm.length = n ∧ ks.length = n ∧ ∀ i ∈ perm, i < n
structure KX (X : Cx) (W : WX) (kws : List Keyword) (t : TA) (F : S → Res (List D)) : Prop where
  pk : PK X kws t
  sim : Sim X.K X.mg W (PL X.K) t F
section
variable {X : Cx} {W : WX} {k k2 n : Nat} {x : Str} {p pos kpos : Pos} {e : Expr} {kws : List Keyword} {t : TA} {te : TE} {tl : TA} {fe : S → Res D} {FL : S → Res (List D)} {ks : List Str} {perm : List Nat} {nm : Option Str}
theorem kx_nil : KX X W [] tNil aNil := ⟨pk_nil, (ax_nil (X := X)).sim⟩
theorem kx_cons (h : FX X W e te fe) (hr : KX X W kws tl FL) : KX X W (⟨nm, e, kpos⟩ :: kws) (tCons te tl) (aCons fe FL) := by
  refine ⟨pk_cons h.pe hr.pk, fun γ Oc r σ H fs g => ?_⟩
  refine SimAt.bind (t2 := fun x H1 Q => tl σ H1 fun xs H2 => Q (x :: xs) H2) (h.sim γ Oc r σ H fs g) fun d r1 v H1 ⟨fs1, g1, v1, s1⟩ => ?_
  refine SimAt.tr s1 (SimAt.bind (t2 := fun xs H2 Q => Q (v :: xs) H2) (hr.sim γ Oc r1 σ H1 fs1 g1) fun ds r2 vs H2 ⟨fs2, g2, v2, s2⟩ => ?_)
  refine SimAt.tr s2 fun Q hq => hq _ _ ⟨fs2, g2, ?_, Stp.refl _ _ _⟩
  simp only [Rs]
  exact ⟨v, vs, rfl, R.stab g1.ow (g1.stabSub s2) _ _ v1, v2⟩
theorem ex_callK {FD : List D → FR} (h : DefK X.prog X.w X.K X.mg X.base x k n ks perm FD) (hG : X.A.guards = some []) (hr : Room k2 X.A) (tk : Takes X W) (ha : KX X W kws tl FL) (hk : k ≤ k2 := by decide) (hg : Gl X x := by rfl)
    (hall : (backToKw pos (keywordEach kws X.env)).all (·.1.isSome) = true := by rfl) (hks : (backToKw pos (keywordEach kws X.env)).filterMap (·.1) = ks := by rfl)
    (hdb : (x == ("__debug__" : Str)) = false := by decide) (hpl : ((backTo pos (starEach [] X.env)).any (·.1) || (backToKw pos (keywordEach kws X.env)).any (·.1.isNone)) = false := by rfl) :
    EX X W (.Call (.Name x p) [] kws pos) (tCallS (spF X.K X.mg n fun ds => FD (pickL perm ds)) (WE W) tl) (fCall n (fun ds => FD (pickL perm ds)) FL) := by
  obtain ⟨⟨f, fd, ps, F, hm, hkp, hb⟩, hp1, hp2, hp3⟩ := h
  refine ⟨⟨fun pins s σ H Q I q => ?_⟩, sim_call ha.sim⟩
  refine wpAny_Call_Name_kw (ld_glob I hg hm ?_ hdb)
  refine PySem.W.callWith_KW0 (h₀ := X.base) I.ok.mod.kin hkp hall (thn (ha.pk.run pos pins s σ H _ I q) fun ws s2 ⟨zs, H2, I2, rz, q2⟩ => ⟨I2.kIn, ?_⟩) hpl
  rw [hks]
  have q3 : spF X.K X.mg n FD (pickL perm zs) H2 Q (WE W σ) := by
    obtain ⟨ds, O, l, a1, a2, a3, a4⟩ := q2
    exact ⟨pickL perm ds, O, by rw [pickL_len fun i hi => by rw [l]; exact hp3 i hi, hp1], a1, a2, a3.pick perm, a4⟩
  have hl : zs.length = n := q2.elim fun ds ⟨O, l, _⟩ => l
  have hbs := hb s2 ws I2.kIn (by rw [← rz.length, hl, hp2])
  refine wpAny_call (codeAny_mono (F.run X.A X.stack s2 H2 ⟨[], ks.zip ws⟩ (pickL perm ws) (pickL perm zs) Q (WE W σ) hG (hr.mono hk) I2.env0 hbs (Vals.pick rz perm) q3) fun res s' hq => ?_)
  cases res with
  | error exn => exact passAt tk σ pins H2 s2 exn s' I2 hq
  | ok fl => cases fl with
    | ret u => exact I2.after hq
    | next => exact False.elim hq
    | brk => exact False.elim hq
    | cont => exact False.elim hq
end
theorem fg_noneT {P : Program} {w : World} {K : PySem.W.Frag} {mg : Str → Option Value} {base : Heap} {k n : Nat} {f : Addr} {fd : FuncData} {ps : List Str} : FnG P w K mg base k f fd ps (spT K mg n fun _ _ => .bad) :=
  ⟨fun vs H Q E h => by obtain ⟨_, _, _, _, _, _, _, _, _, _, _, h⟩ := h; exact h.elim, fun A out s H gs us vs Q E _ _ _ _ _ h => by obtain ⟨_, _, _, _, _, _, _, _, _, _, _, h⟩ := h; exact h.elim⟩
end QL
namespace QL
open PySem PySem.Spec L2
section
variable {X : Cx}
theorem vals_at2 : ∀ {xs : List V} {us : List Value}, xs.length = us.length → (∀ (j : Nat) (x : V) (u : Value), xs[j]? = some x → us[j]? = some u → RelV x u) → Vals xs us
  | [], [], _, _ => .nil
  | [], _ :: _, h, _ => by simp at h
  | _ :: _, [], h, _ => by simp at h
  | x :: xs, u :: us, h, f => .cons (f 0 x u rfl rfl) (vals_at2 (by simpa using h) fun j y w h1 h2 => f (j + 1) y w (by simpa using h1) (by simpa using h2))
def rListS : List V → Hp → VK → Prop := fun xs H Q => ∃ z : Str, xs = [.str z] ∧ z.length ≤ sizeLine ∧ ∀ p, H p = none → Q (.ref p) (upd H p (.lst ((z.cps.toList.map fun c => tx [c]).map V.str)))
theorem call_listS (hc : X.calm = true) : CallR X (.type "list") rListS := by
  intro pins s σ H xs us Q I r h
  obtain ⟨z, rfl, hz, q⟩ := h
  obtain ⟨u, rfl, t, rfl⟩ := vals1 r
  refine PySem.call_list_str (I.ok.hd hc) z t (fun h' tk acc' c' kp e hacc => ?_) (hn := hz)
  refine ⟨.ref s.heap.objs.size, upd H s.heap.objs.size (.lst ((z.cps.toList.map fun c => tx [c]).map V.str)), I.laid (t' := tk) kp (Nat.le_refl _)
    (show ObjOk X.prog X.w _ _ _ (.lst ((z.cps.toList.map fun c => tx [c]).map V.str)) from ⟨by rw [List.length_map, List.length_map, Array.length_toList]; exact hz, acc'.toList, c', ?_, by rw [Array.toArray_toList]; exact e⟩), rfl, q _ (I.hok.fresh (Nat.le_refl _))⟩
  refine vals_at2 (by rw [List.length_map, List.length_map, Array.length_toList, Array.length_toList, hacc.1]) fun j x u h1 h2 => ?_
  obtain ⟨c, t', hc', ev⟩ := hacc.2 j u (by rw [← Array.getElem?_toList]; exact h2)
  rw [List.getElem?_map, List.getElem?_map, Array.getElem?_toList, hc'] at h1
  cases h1
  subst ev
  exact ⟨t', rfl⟩
def rListA (K : PySem.W.Frag) : List V → Hp → VK → Prop := fun xs H Q => rListOf K xs H Q ∨ rListS xs H Q ∨ (∃ (a : Addr) (kvs : List (Key × V)), xs = [.ref a] ∧ Rd H a (.dK kvs) ∧ ∀ p, H p = none → Q (.ref p) (upd H p (.lst (kvs.map fun kv => kV kv.1)))) ∨
  ∃ d kvs, xs = [V.ref d] ∧ Rd H d (.dT kvs) ∧ ∀ p bs, H p = none → IsKeys H kvs bs → Q (.ref p) (upd H p (.lst (bs.map V.ref)))
theorem call_listA (hc : X.calm = true) : CallR X (.type "list") (rListA X.K) := CallR.or call_list_of (CallR.or (call_listS hc) (CallR.or (call_listD hc) (call_list_dT hc)))
end
def dListA : List D → Option OV
  | [.list ds] => some (.nl ds)
  | [.tuple ds] => some (.nl ds)
  | [.str z] => if z.length ≤ sizeLine then some (.nl (z.cps.toList.map fun c => .str (tx [c]))) else none
  | [.dict kvs] => if isOb kvs then none else some (.nl (kvs.map (·.1)))
  | _ => none
theorem R.key {K : PySem.W.Frag} {O : List Addr} {H : Hp} (c : Key) : R K O H (kD c) (kV c) := by
  cases c with
  | inl i => simp [kD, kV, R]
  | inr x => simp [kD, kV, R]
theorem Rs.keysV {K : PySem.W.Frag} {O : List Addr} {H : Hp} : ∀ cs : List Key, Rs K O H (cs.map kD) (cs.map kV)
  | [] => by simp [Rs]
  | c :: cs => by
    simp only [List.map_cons, Rs]
    exact ⟨_, _, rfl, R.key c, Rs.keysV cs⟩
theorem RK.keysV {K : PySem.W.Frag} {O : List Addr} {H : Hp} : ∀ {kvs : List (D × D)} {ws : List (Key × V)}, RK K O H kvs ws → Rs K O H (kvs.map (·.1)) (ws.map fun kv => kV kv.1)
  | [], ws, h => by simp only [RK] at h; subst h; simp [Rs]
  | (k, d) :: kvs, ws, h => by
    simp only [RK] at h
    obtain ⟨c, v, ws', e, e2, h1, h2⟩ := h
    subst e e2
    simp only [List.map_cons, Rs]
    exact ⟨_, _, rfl, R.key c, RK.keysV h2⟩
theorem RT.keysV {K : PySem.W.Frag} {O : List Addr} {H : Hp} : ∀ {kvs : List (D × D)} {ws : List (List Key × V)} {bs : List Addr}, RT K O H kvs ws → IsKeys H ws bs → Rs K O H (kvs.map (·.1)) (bs.map V.ref)
  | [], ws, bs, h, ik => by
    simp only [RT] at h; subst h
    unfold IsKeys at ik
    cases ik
    simp [Rs]
  | (k, d) :: kvs, ws, bs, h, ik => by
    simp only [RT] at h
    obtain ⟨c, v, ws', e, e2, h1, h2⟩ := h
    subst e e2
    unfold IsKeys at ik
    cases ik with
    | cons h3 h4 =>
      simp only [List.map_cons, Rs, R]
      exact ⟨_, _, rfl, ⟨_, _, rfl, h3, Rs.keysV c⟩, RT.keysV h2 h4⟩
theorem opb_listA {K : PySem.W.Frag} : OpB K (rListA K) dListA := by
  intro γ O H ds vs z Q ow h e hq
  unfold dListA at e
  split at e
  · cases e
    exact .inl (opb_listOf γ O H _ vs _ Q ow h rfl hq)
  · cases e
    exact .inl (opb_listOf γ O H _ vs _ Q ow h rfl hq)
  · split at e
    · rename_i zt hz
      cases e
      obtain ⟨v, ws, e1, r1, e2⟩ := h
      simp only [RE, R] at r1
      refine .inr (.inl ⟨zt, by rw [e1, e2, r1], hz, fun p hp => hq p _ hp ?_⟩)
      have e3 : (zt.cps.toList.map fun c => PyData.str (tx [c])) = (zt.cps.toList.map fun c => tx [c]).map PyData.str := by rw [List.map_map]; rfl
      rw [e3]
      exact Rs.ofStrs _
    · cases e
  · rename_i kvs
    split at e
    · cases e
    rename_i hb
    cases e
    obtain ⟨v, ws, e1, r1, e2⟩ := h
    obtain ⟨a, ea, nt, r1⟩ := r1
    rcases r1 with ⟨us, q1, q2⟩ | ⟨us, q1, q2⟩ | r1
    · exact .inr (.inr (.inl ⟨a, us, by rw [e1, e2, ea], q1, fun p hp => hq p _ hp q2.keysV⟩))
    · exact .inr (.inr (.inr ⟨a, us, by rw [e1, e2, ea], q1, fun p bs hp ik => hq p _ hp (q2.keysV ik)⟩))
    · exact noOb (by simpa using hb) r1
  · cases e
section
variable {X : Cx} {W : WX} {a : Expr} {p pos : Pos} {tl : TA} {FL : S → Res (List D)}
theorem ex_listA (hc : X.calm = true) (hm : X.mg "list" = none) (ha : BAX X W [a] tl FL) (hg : Gl X "list" := by rfl) (he : starEach [a] X.env = (false, eval a X.env) :: starEach [] X.env := by rfl) : EX X W (.Call (.Name "list" p) [a] [] pos) (tCB (rListA X.K) tl) (fCB dListA FL) :=
  ex_cb (pe_callTy (call_listA hc) hg hm PyProof.Rows.boot_list ha.pe (by decide) (by decide) he (by rfl)) opb_listA ha
end
def leS (x y : Str) : Bool := !decide (y.cps.toList < x.cps.toList)
def insS (x : Str) : List Str → List Str
  | [] => [x]
  | y :: r => if leS x y then x :: y :: r else y :: insS x r
def sortS (l : List Str) : List Str := l.foldr insS []
def insZ (x : Int) : List Int → List Int
  | [] => [x]
  | y :: r => if x ≤ y then x :: y :: r else y :: insZ x r
def sortZ (l : List Int) : List Int := l.foldr insZ []
def dSortA : List D → Option OV
  | [.list ds] => match strsD ds with
    | some ys => some (.nl ((sortS ys).map .str))
    | none => match intsD ds with
      | some ns => some (.nl ((sortZ ns).map .int))
      | none => none
  | _ => none
end QL
namespace QL
open PySem PySem.Spec L2
section
variable {K : PySem.W.Frag} {mg : Str → Option Value} {W : WX} {γ : Gh} {Oc : List Addr} {r : S} {σ : St} {H H' : Hp} {fs : List Addr}
theorem Good.setTmpO {p : Addr} {o : HO} (ld : LD o) (g : Good K γ ([p] ++ Oc) r σ H fs) : Good K γ ([p] ++ Oc) r σ (upd H p o) fs ∧ Stab (fs ++ ([p] ++ Oc)) H (fs ++ ([p] ++ Oc)) (upd H p o) ∧ p ∉ fs := by
  have g' := g
  obtain ⟨⟨f1, f2, e, sl, tp⟩, nd, ow, tt⟩ := g
  have np : p ∉ fs := fun z => (List.nodup_append.mp nd).2.2 p z p (by simp) rfl
  have ne : ∀ a, a ∉ fs ++ ([p] ++ Oc) → a ≠ p := fun a n z => n (by rw [z]; simp)
  have st : Stab (fs ++ ([p] ++ Oc)) H (fs ++ ([p] ++ Oc)) (upd H p o) := fun a n _ => ⟨n, fun u _ q => by
    rcases q with q | ⟨o, q⟩
    · exact .inl (by rw [upd_ne (ne a n)]; exact q)
    · exact .inr ⟨o, by rw [upd_ne (ne a n)]; exact q⟩, fun u _ q => by rw [upd_ne (ne a n)]; exact q⟩
  have nf : ∀ a ∈ fs, a ≠ p := fun a z y => np (y ▸ z)
  refine ⟨⟨⟨f1, f2, e, sl.stab ow st fun a z => upd_ne (nf a (by rw [e]; simp [z])), ?_⟩, nd, fun a z => ?_, tt.1, fun q hq => (by
    obtain ⟨o, ho, l⟩ := ow p (by simp)
    exact tabs_upd ho l (tt.2 q hq))⟩, st, np⟩
  · cases q : r.tp with
    | none => rw [q] at tp; exact tp
    | some t =>
      rw [q] at tp
      obtain ⟨a, e1, e2, e3⟩ := tp
      exact ⟨a, e1, by rw [upd_ne (nf a (by rw [e, e3]; simp))]; exact e2, e3⟩
  · by_cases ha : a = p
    · subst ha; exact ⟨_, upd_same, ld⟩
    · obtain ⟨o, ho, l⟩ := ow a z
      exact ⟨o, by rw [upd_ne ha]; exact ho, l⟩
end
def RPs (K : PySem.W.Frag) (O : List Addr) (H : Hp) : List (D × D) → List (V × V) → Prop
  | [], vs => vs = []
  | (k, d) :: r, vs => ∃ x y ws, vs = (x, y) :: ws ∧ R K O H k x ∧ R K O H d y ∧ RPs K O H r ws
theorem RPs.stab {K : PySem.W.Frag} {O O' : List Addr} {H H' : Hp} (ow : Own O H) (st : Stab O H O' H') : ∀ {ps : List (D × D)} {vs : List (V × V)}, RPs K O H ps vs → RPs K O' H' ps vs
  | [], vs, h => h
  | (k, d) :: r, vs, h => by
    obtain ⟨x, y, ws, e, h1, h2, h3⟩ := h
    exact ⟨x, y, ws, e, R.stab ow st _ _ h1, R.stab ow st _ _ h2, RPs.stab ow st h3⟩
def PPr (K : PySem.W.Frag) : Pst (List (D × D)) (List (V × V)) := fun γ Oc r' σ H fs H' ds vs => ∃ fs', Good K γ Oc r' σ H' fs' ∧ RPs K (fs' ++ Oc) H' ds vs ∧ Stp γ.T fs H fs' H'
instance {K : PySem.W.Frag} : PstT (PPr K) := ⟨fun s ⟨f, a, b, c⟩ => ⟨f, a, b, s.trans c⟩⟩
structure PX (X : Cx) (W : WX) (pos : Pos) (keys : List (Option Expr)) (values : List Expr) (trs : List (TE × TE)) (F : S → Res (List (D × D))) : Prop where
  pe : PPs X pos keys values trs
  sim : Sim X.K X.mg W (PPr X.K) (tPairs trs) F
def pNil : S → Res (List (D × D)) := fun r => .ok [] r
def pCons (fk fv : S → Res D) (F : S → Res (List (D × D))) : S → Res (List (D × D)) := fun r => (fk r).bind fun k r => (fv r).bind fun v r => (F r).bind fun ps r => .ok ((k, v) :: ps) r
section
variable {X : Cx} {W : WX} {pos : Pos} {k v e : Expr} {keys : List (Option Expr)} {values : List Expr} {tk tv : TE} {trs : List (TE × TE)} {fk fv : S → Res D} {F : S → Res (List (D × D))}
theorem px_nil : PX X W pos [] [] [] pNil := ⟨pps_nil, fun γ Oc r σ H fs g Q hq => hq [] H ⟨fs, g, rfl, Stp.refl _ _ _⟩⟩
theorem px_cons (hk : FX X W k tk fk) (hv : FX X W v tv fv) (h : PX X W pos keys values trs F) : PX X W pos (some k :: keys) (v :: values) ((tk, tv) :: trs) (pCons fk fv F) := by
  refine ⟨pps_cons hk.pe hv.pe h.pe, fun γ Oc r σ H fs g => ?_⟩
  refine SimAt.bind (t2 := fun x H1 Q => tv σ H1 fun y H2 => tPairs trs σ H2 fun ps H3 => Q ((x, y) :: ps) H3) (hk.sim γ Oc r σ H fs g) fun dk r1 x H1 ⟨fs1, g1, v1, s1⟩ => ?_
  refine SimAt.tr s1 (SimAt.bind (t2 := fun y H2 Q => tPairs trs σ H2 fun ps H3 => Q ((x, y) :: ps) H3) (hv.sim γ Oc r1 σ H1 fs1 g1) fun dv r2 y H2 ⟨fs2, g2, v2, s2⟩ => ?_)
  refine SimAt.tr s2 (SimAt.bind (t2 := fun ps H3 Q => Q ((x, y) :: ps) H3) (h.sim γ Oc r2 σ H2 fs2 g2) fun ps r3 us H3 ⟨fs3, g3, v3, s3⟩ => ?_)
  exact SimAt.tr s3 fun Q hq => hq _ _ ⟨fs3, g3, ⟨x, y, us, rfl, R.stab g2.ow (g2.stabSub s3) _ _ (R.stab g1.ow (g1.stabSub s2) _ _ v1), R.stab g2.ow (g2.stabSub s3) _ _ v2, v3⟩, Stp.refl _ _ _⟩
/-- the pairs by their keys -/
def keysD : List (D × D) → Option (List (Key × D))
  | [] => some []
  | (k, d) :: r => match keyD k, keysD r with
    | some c, some cs => some ((c, d) :: cs)
    | _, _ => none
def mergeD (kvs : List (D × D)) (more : List (Key × D)) : List (D × D) := more.foldl (fun acc kv => putD acc kv.1 kv.2) kvs
theorem RPs.toK {K : PySem.W.Frag} {O : List Addr} {H : Hp} : ∀ {ps : List (D × D)} {vs : List (V × V)} {cs : List (Key × D)}, RPs K O H ps vs → keysD ps = some cs → ∃ kvs : List (Key × V), vs = kvs.map (fun kv => (kV kv.1, kv.2)) ∧ kvs.length = ps.length ∧
    ∀ {acc : List (D × D)} {ws : List (Key × V)}, RK K O H acc ws → RK K O H (mergeD acc cs) (mergeK ws kvs)
  | [], vs, cs, h, e => by
    cases e
    have h : vs = [] := h
    subst h
    exact ⟨[], rfl, rfl, fun h => h⟩
  | (k, d) :: r, vs, cs, h, e => by
    obtain ⟨x, y, ws, e1, h1, h2, h3⟩ := h
    unfold keysD at e
    split at e
    · rename_i c cs' ek er
      cases e
      obtain ⟨kvs, q1, q2, q3⟩ := RPs.toK h3 er
      have ex : x = kV c := by
        cases k with
        | int i => simp only [R] at h1; cases ek; exact h1
        | str z => simp only [R] at h1; cases ek; exact h1
        | _ => cases ek
      subst ex
      exact ⟨(c, y) :: kvs, by rw [e1, q1]; rfl, by rw [List.length_cons, List.length_cons, q2], fun ha => q3 (ha.put c h2)⟩
    · cases e
def eDisp (F : S → Res (List (D × D))) : S → Res SV := fun r => (F r).bind fun ps r => match keysD ps with
  | some cs => if ps.length ≤ 15 then Res.ok (SV.od (mergeD [] cs)) r else Res.bad
  | none => Res.bad
theorem sim_disp {K : PySem.W.Frag} {mg : Str → Option Value} (h : Sim K mg W (PPr K) (tPairs trs) F) : Sim K mg W (PV K) (tDisp trs) (eDisp F) := by
  intro γ Oc r σ H fs g Q
  have main : ∀ p, H p = none → ∃ g1 : Good K γ ([p] ++ Oc) r σ (upd H p (.dK [])) fs, True := fun p hp => ⟨g.grow (SameT.of (upd_kept (o := .dK []) hp)) (by simpa using hp) (by simp) (by simp [Own, upd_same, LD]), trivial⟩
  unfold eDisp
  cases eF : F r with
  | bad => trivial
  | exc c f r' =>
    refine fun hw p hp => ?_
    obtain ⟨g1, _⟩ := main p hp
    have z := h γ ([p] ++ Oc) r σ _ fs g1
    rw [eF] at z
    refine z _ fun C d H2 pp => hw C d H2 ?_
    obtain ⟨fs2, g2, s2, m, y⟩ := pp
    have kp := upd_kept (o := .dK []) hp
    exact ⟨fs2, g2.drop, (Stp.same _ _ (SameT.of kp)).trans s2, m, xr_sub g2.ow (fun a z => by
      simp only [List.mem_append] at z ⊢
      rcases z with z | z <;> simp [z]) y⟩
  | ok ps r' =>
    unfold Res.bind
    dsimp only
    cases ek : keysD ps with
    | none => trivial
    | some cs =>
      dsimp only
      by_cases hl : ps.length ≤ 15
      · rw [if_pos hl]
        refine fun hq p hp => ?_
        obtain ⟨g1, _⟩ := main p hp
        have z := h γ ([p] ++ Oc) r σ _ fs g1
        rw [eF] at z
        refine z _ fun us H2 ⟨fs2, g2, v2, s2⟩ => ?_
        have np : p ∉ fs := fun z => (List.nodup_append.mp g1.nd).2.2 p z p (by simp) rfl
        have hp2 : H2 p = some (.dK []) := s2.keep p _ upd_same fun _ => np
        obtain ⟨kvs, q1, q2, q3⟩ := v2.toK ek
        refine ⟨hp2, kvs, q1, by rw [q2]; exact hl, ?_⟩
        have rk : RK K (fs2 ++ ([p] ++ Oc)) H2 (mergeD [] cs) (mergeK [] kvs) := q3 (by simp [RK])
        obtain ⟨g3, st3, np2⟩ := g2.setTmpO (o := .dK (mergeK [] kvs)) trivial
        have ne : ∀ a o, H a = some o → a ≠ p := fun a o e z => by rw [z, hp] at e; cases e
        refine hq _ _ ⟨fs2, [p], g3, ⟨p, _, rfl, upd_same, RK.stab g2.ow st3 _ _ rk, rfl⟩, ⟨s2.sub, fun a o e n ht => ?_, fun a e => ?_, fun P t => ?_⟩, by simpa using hp⟩
        · rw [upd_ne (ne a o e)]
          exact s2.keep a o (by rw [upd_ne (ne a o e)]; exact e) n ht
        · exact nn_upd hp2 rfl (s2.there a (e.kept (upd_kept hp)))
        · exact tabs_upd hp2 trivial (s2.tb P (t.ext (upd_kept hp)))
      · rw [if_neg hl]; trivial
theorem ex_disp (h : PX X W pos keys values trs F) (hall : keys.all (·.isSome) = true := by rfl) (hl : keys.length = values.length := by rfl) (h0 : keys ≠ [] := by simp) (h15 : keys.length ≤ 15 := by decide) : EX X W (.Dict keys values pos) (tDisp trs) (eDisp F) :=
  ⟨pe_disp h.pe hall hl h0 h15, sim_disp h.sim⟩
end
def popD (xs : List D) (k : Int) : Option (D × List D) := if -(2 ^ 62) ≤ k ∧ k < 2 ^ 62 then (ixN xs.length k).bind fun n => (xs[n]?).map fun d => (d, xs.eraseIdx n) else none
def fPop (j : Nat) (fe : S → Res D) : S → Res D := fun r => match r.sl[j]? with
  | some (some (.ol _)) => (fe r).bind fun d r => match d, r.sl[j]? with
    | .int k, some (some (.ol xs)) => (match popD xs k with
      | some p => Res.ok p.1 { r with sl := r.sl.set j (some (.ol p.2)) }
      | none => Res.bad)
    | _, _ => Res.bad
  | _ => .bad
theorem Rs.erase {K : PySem.W.Frag} {O : List Addr} {H : Hp} : ∀ {ds : List D} {vs : List V} (n : Nat), Rs K O H ds vs → Rs K O H (ds.eraseIdx n) (vs.eraseIdx n)
  | [], vs, n, h => by simp only [Rs] at h; rw [h]; simp [Rs]
  | d :: ds, vs, 0, h => by
    simp only [Rs] at h
    obtain ⟨v, us, q, h1, h⟩ := h
    rw [q]
    exact h
  | d :: ds, vs, n + 1, h => by
    simp only [Rs, List.eraseIdx_cons_succ] at h ⊢
    obtain ⟨v, us, q, h1, h⟩ := h
    rw [q]
    exact ⟨v, us.eraseIdx n, rfl, h1, h.erase n⟩
end QL
namespace QL
open PySem PySem.Spec L2
section
variable {prog : Program} {w : World} {K : Type} [DecidableEq K] {knd : HeapKind prog w K} {A : Around} {E : Value → Shared → Prop} {s : Shared} {env : Env}
theorem wpAny_Dict_walkH {keys : List (Option Expr)} {values : List Expr} {pos : Pos} {Q : Value → Shared → Prop} (hu : knd.room A)
    (hall : keys.all (·.isSome) = true) (hl : keys.length = values.length) (h0 : keys ≠ []) (hlen : keys.length ≤ 15)
    (h : wpAny (model prog w) A (evalPairs (pairTrees keys values env pos)) (fun vs s₁ => ∃ ps, CarriesH knd s₁.heap vs ps ∧ s₁.heap.DictOfH knd s.heap.objs.size [] ∧
      ∀ h' tk, h'.DictOfH knd s.heap.objs.size (storedAllH [] ps) → Heap.SameBut s.heap.objs.size s₁.heap h' → Q (.ref s.heap.objs.size) { s₁ with heap := h', toks := tk }) E
      { s with heap := s.heap.push { cls := .type "dict", data := .dict #[] } }) :
    wpAny (model prog w) A (eval (.Dict keys values pos) env) Q E s := by
  have hn := pairTrees_length keys values env pos hall hl
  have hne : pairTrees keys values env pos ≠ [] := fun he => by
    rw [he] at hn
    exact h0 (List.length_eq_zero_iff.mp hn.symm)
  rw [arm_eval_Dict, zip_pairTrees keys values env pos hall hl, dictDisplay_pairs _ hne (by rw [hn]; omega)]
  exact wpAny_bind (wpAny_standAt (wpAny_bind (wpAny_subDictH (knd := knd) (Q := fun d s' => wpAny (model prog w) A (pure (Value.ref d)) Q E s') hu (by rw [hn]; exact hlen)
    (wpAny_mono h (fun vs s₁ h₁ => by obtain ⟨ps, hc, hm, hq⟩ := h₁; exact ⟨ps, hc, hm, fun h' tk a b => wpAny_pure (hq h' tk a b)⟩) fun _ _ e => e))))
end
def mergeT (kvs : List (List Key × V)) (more : List (List Key × Addr × V)) : List (List Key × V) := more.foldl (fun acc kv => putK acc kv.1 kv.2.2) kvs
theorem KT.merge {H : Hp} : ∀ {more : List (List Key × Addr × V)} {rs : List (List Key × Addr × Value)} {kvs : List (List Key × V)} {vs : List (List Key × Addr × Value)},
    Paired (fun p q => p.1 = q.1 ∧ p.2.1 = q.2.1 ∧ H p.2.1 = some (.tup (p.1.map kV)) ∧ RelV p.2.2 q.2.2) more rs → KT H kvs vs → KT H (mergeT kvs more) (storedAllH vs rs) := by
  intro more rs kvs vs r
  induction r generalizing kvs vs with
  | nil => intro q; exact q
  | @cons p q ps qs h t ih =>
    intro r0
    obtain ⟨h1, h2, h3, h4⟩ := h
    have e := r0.put p.1 h3 h4
    rw [show mergeT kvs (p :: ps) = mergeT (putK kvs p.1 p.2.2) ps from rfl, show storedAllH vs (q :: qs) = storedAllH (storedH vs q.1 q.2.1 q.2.2) qs from rfl, ← h1, ← h2]
    exact ih e
theorem length_mergeT : ∀ (more : List (List Key × Addr × V)) (kvs : List (List Key × V)), (mergeT kvs more).length ≤ kvs.length + more.length
  | [], kvs => by show kvs.length ≤ kvs.length + 0; omega
  | p :: r, kvs => by
    have h1 := length_mergeT r (putK kvs p.1 p.2.2)
    have h2 := length_putK kvs p.1 p.2.2
    show (mergeT (putK kvs p.1 p.2.2) r).length ≤ _
    rw [List.length_cons]; omega
theorem carriesT_of {P : Program} {w : World} {H : Hp} {h : Heap} (ok : HOk P w H h) : ∀ {kvs : List (List Key × Addr × V)} {ws : List (Value × Value)}, (∀ kv ∈ kvs, H kv.2.1 = some (.tup (kv.1.map kV))) →
    VV (kvs.map fun kv => (V.ref kv.2.1, kv.2.2)) ws → ∃ rs, CarriesH (tupleKind (mixKind P w)) h ws rs ∧ Paired (fun p q => p.1 = q.1 ∧ p.2.1 = q.2.1 ∧ H p.2.1 = some (.tup (p.1.map kV)) ∧ RelV p.2.2 q.2.2) kvs rs
  | [], _, _, r => by rw [List.map_nil] at r; cases r; exact ⟨[], True.intro, .nil⟩
  | p :: kvs, _, a, r => by
    rw [List.map_cons] at r
    cases r with
    | @cons x b as bs h2 t =>
      obtain ⟨rs, c, q⟩ := carriesT_of ok (kvs := kvs) (fun kv z => a kv (by simp [z])) t
      obtain ⟨b1, b2⟩ := b
      have e1 : b1 = .ref p.2.1 := h2.1
      have e2 := a p (by simp)
      exact ⟨(p.1, p.2.1, b2) :: rs, ⟨e1, rfl, key_of ok e2, c⟩, .cons ⟨rfl, rfl, e2, h2.2⟩ q⟩
def tDispT (trs : List (TE × TE)) : TE := fun σ H Q => ∀ p, H p = none → tPairs trs σ (upd H p (.dT [])) fun ps H2 => H2 p = some (.dT []) ∧ ∃ kvs : List (List Key × Addr × V),
  ps = kvs.map (fun kv => (V.ref kv.2.1, kv.2.2)) ∧ (∀ kv ∈ kvs, H2 kv.2.1 = some (.tup (kv.1.map kV))) ∧ kvs.length ≤ 15 ∧ Q (.ref p) (upd H2 p (.dT (mergeT [] kvs)))
theorem pe_dispT {X : Cx} {pos : Pos} {keys : List (Option Expr)} {values : List Expr} {trs : List (TE × TE)} (hu : X.A.units < cLine) (h : PPs X pos keys values trs) (hall : keys.all (·.isSome) = true) (hl : keys.length = values.length) (h0 : keys ≠ [])
    (h15 : keys.length ≤ 15) : PE X (.Dict keys values pos) (tDispT trs) := by
  refine ⟨fun pins s σ H Q I q => ?_⟩
  have hn := I.hok.fresh (Nat.le_refl s.heap.objs.size)
  have I1 := I.laid (a := s.heap.objs.size) (o := .dT []) (h' := s.heap.push { cls := .type "dict", data := .dict #[] }) (t' := s.toks) (fun _ _ q => Heap.get?_push_of_some _ q) (Nat.le_refl _) (dt_empty s.heap I.big)
  refine wpAny_Dict_walkH (knd := tupleKind (mixKind X.prog X.w)) hu hall hl h0 h15 (thn (h.run pins _ σ _ _ I1 (q _ hn)) fun ws s2 ⟨ps, H2, I2, rel, e, kvs, ep, hk, lk, q2⟩ => ?_)
  subst ep
  obtain ⟨rs, c, rk⟩ := carriesT_of I2.hok hk rel
  obtain ⟨z, hd, vs0, r0, dd⟩ := dt_of I2.hok e
  cases r0
  refine ⟨rs, c, dd, fun h' tk dd' hs => ⟨.ref s.heap.objs.size, _, ?_, rfl, q2⟩⟩
  have hz : (mergeT [] kvs).length ≤ sizeLine := by
    have h1 := length_mergeT kvs []
    rw [List.length_nil] at h1
    rw [sizeLine_eq]; omega
  obtain ⟨qo, es, ep, hq, h2, h3, h4, _, h5⟩ := dd'
  refine d_write I2 (by rw [e]; exact True.intro) hs ⟨qo, hq⟩ ⟨hz, hd, _, KT.keeps (KT.merge rk .nil) fun c ys ec => ?_, qo, es, ep, hq, h2, h3, h4, h5⟩
  rw [upd_ne (ne_of ec e (fun z => nomatch z))]
  exact ec
def keysL : List D → Option (List Key)
  | [] => some []
  | d :: r => match keyD d, keysL r with
    | some c, some cs => some (c :: cs)
    | _, _ => none
def keyT : D → Option (List Key)
  | .tuple ds => keysL ds
  | _ => none
theorem keysL_map : ∀ cs : List Key, keysL (cs.map kD) = some cs
  | [] => rfl
  | c :: cs => by simp only [List.map_cons, keysL, keyD_kD, keysL_map cs]
theorem keyT_map (cs : List Key) : keyT (.tuple (cs.map kD)) = some cs := keysL_map cs
theorem keysL_eq : ∀ {ds : List D} {cs : List Key}, keysL ds = some cs → ds = cs.map kD
  | [], cs, h => by cases h; rfl
  | d :: r, cs, h => by
    unfold keysL at h
    split at h
    · rename_i c cs' e1 e2
      cases h
      rw [List.map_cons, ← keysL_eq e2]
      congr
      cases d with
      | int i => cases e1; rfl
      | str i => cases e1; rfl
      | _ => cases e1
    · cases h
theorem keyT_eq {d : D} {cs : List Key} (h : keyT d = some cs) : d = .tuple (cs.map kD) := by
  cases d with
  | tuple ds => rw [keysL_eq h]
  | _ => cases h
theorem Rs.kV_of {K : PySem.W.Frag} {O : List Addr} {H : Hp} : ∀ {cs : List Key} {vs : List V}, Rs K O H (cs.map kD) vs → vs = cs.map kV
  | [], vs, h => by simpa [Rs] using h
  | c :: cs, vs, h => by
    simp only [List.map_cons, Rs] at h
    obtain ⟨v, us, e, h1, h2⟩ := h
    rw [e, Rs.kV_of h2, List.map_cons]
    congr
    cases c with
    | inl i => simp only [kD, R] at h1; exact h1
    | inr i => simp only [kD, R] at h1; exact h1
theorem R.keyT {K : PySem.W.Frag} {O : List Addr} {H : Hp} {d : D} {v : V} {cs : List Key} (h : R K O H d v) (e : keyT d = some cs) : ∃ b, v = .ref b ∧ H b = some (.tup (cs.map kV)) := by
  rw [keyT_eq e] at h
  simp only [R] at h
  obtain ⟨a, vs, e1, h1, h2⟩ := h
  rw [Rs.kV_of h2] at h1
  exact ⟨a, e1, h1⟩
def putT (kvs : List (D × D)) (c : List Key) (v : D) : List (D × D) :=
  if (kvs.any fun p => decide (keyT p.1 = some c)) = true then kvs.map (fun p => if keyT p.1 = some c then (p.1, v) else p) else kvs ++ [(.tuple (c.map kD), v)]
section
variable {K : PySem.W.Frag} {O : List Addr} {H : Hp}
theorem RT.any (c : List Key) : ∀ {kvs : List (D × D)} {ws : List (List Key × V)}, RT K O H kvs ws → (kvs.any fun p => decide (keyT p.1 = some c)) = ws.any fun p => decide (p.1 = c)
  | [], _, h => by simp only [RT] at h; subst h; rfl
  | (k, d) :: r, _, h => by
    simp only [RT] at h
    obtain ⟨c', v, ws, e, e2, h1, h2⟩ := h
    subst e e2
    rw [List.any_cons, List.any_cons, RT.any c h2, keyT_map]
    simp
theorem RT.repl (c : List Key) {x : D} {y : V} (hx : R K O H x y) : ∀ {kvs : List (D × D)} {ws : List (List Key × V)}, RT K O H kvs ws → RT K O H (kvs.map fun p => if keyT p.1 = some c then (p.1, x) else p) (ws.map fun p => if p.1 = c then (p.1, y) else p)
  | [], _, h => by simp only [RT] at h; subst h; simp [RT]
  | (k, d) :: r, _, h => by
    simp only [RT] at h
    obtain ⟨c', v, ws, e, e2, h1, h2⟩ := h
    subst e e2
    rw [List.map_cons, List.map_cons]
    by_cases q : c' = c
    · subst q
      simp only [keyT_map, if_true, RT]
      exact ⟨c', y, _, rfl, rfl, hx, RT.repl c' hx h2⟩
    · have q' : ¬ (keyT (.tuple (c'.map kD)) = some c) := by rw [keyT_map]; simpa using q
      simp only [if_neg q', if_neg q, RT]
      exact ⟨c', v, _, rfl, rfl, h1, RT.repl c hx h2⟩
theorem RT.snoc (c : List Key) {x : D} {y : V} (hx : R K O H x y) : ∀ {kvs : List (D × D)} {ws : List (List Key × V)}, RT K O H kvs ws → RT K O H (kvs ++ [(.tuple (c.map kD), x)]) (ws ++ [(c, y)])
  | [], _, h => by
    simp only [RT] at h; subst h
    simp only [List.nil_append, RT]
    exact ⟨c, y, [], rfl, rfl, hx, rfl⟩
  | (k, d) :: r, _, h => by
    simp only [RT] at h
    obtain ⟨c', v, ws, e, e2, h1, h2⟩ := h
    subst e e2
    simp only [List.cons_append, RT]
    exact ⟨c', v, _, rfl, rfl, h1, RT.snoc c hx h2⟩
theorem RT.put (c : List Key) {x : D} {y : V} (hx : R K O H x y) {kvs : List (D × D)} {ws : List (List Key × V)} (h : RT K O H kvs ws) : RT K O H (putT kvs c x) (putK ws c y) := by
  unfold putT putK
  rw [RT.any c h]
  split
  · exact RT.repl c hx h
  · exact RT.snoc c hx h
end
/-- the pairs by their keys -/
def keysDT : List (D × D) → Option (List (List Key × D))
  | [] => some []
  | (k, d) :: r => match keyT k, keysDT r with
    | some c, some cs => some ((c, d) :: cs)
    | _, _ => none
def mergeDT (kvs : List (D × D)) (more : List (List Key × D)) : List (D × D) := more.foldl (fun acc kv => putT acc kv.1 kv.2) kvs
theorem RPs.toT {K : PySem.W.Frag} {O : List Addr} {H : Hp} : ∀ {ps : List (D × D)} {vs : List (V × V)} {cs : List (List Key × D)}, RPs K O H ps vs → keysDT ps = some cs → ∃ kvs : List (List Key × Addr × V), vs = kvs.map (fun kv => (V.ref kv.2.1, kv.2.2)) ∧
    (∀ kv ∈ kvs, H kv.2.1 = some (.tup (kv.1.map kV))) ∧ kvs.length = ps.length ∧ ∀ {acc : List (D × D)} {ws : List (List Key × V)}, RT K O H acc ws → RT K O H (mergeDT acc cs) (mergeT ws kvs)
  | [], vs, cs, h, e => by
    cases e
    have h : vs = [] := h
    subst h
    exact ⟨[], rfl, by simp, rfl, fun h => h⟩
  | (k, d) :: r, vs, cs, h, e => by
    obtain ⟨x, y, ws, e1, h1, h2, h3⟩ := h
    unfold keysDT at e
    split at e
    · rename_i c cs' ek er
      cases e
      obtain ⟨kvs, q1, q2, q3, q4⟩ := RPs.toT h3 er
      obtain ⟨b, eb, hb⟩ := h1.keyT ek
      refine ⟨(c, b, y) :: kvs, by rw [e1, q1, eb]; rfl, fun kv hm => ?_, by rw [List.length_cons, List.length_cons, q3], fun ha => q4 (ha.put c h2)⟩
      rcases List.mem_cons.mp hm with z | z
      · rw [z]; exact hb
      · exact q2 kv z
    · cases e
section
variable {X : Cx} {W : WX} {pos : Pos} {k v e : Expr} {keys : List (Option Expr)} {values : List Expr} {tk tv : TE} {trs : List (TE × TE)} {fk fv : S → Res D} {F : S → Res (List (D × D))}
def eDispT (F : S → Res (List (D × D))) : S → Res SV := fun r => (F r).bind fun ps r => match keysDT ps with
  | some cs => if ps.length ≤ 15 then Res.ok (SV.ot (mergeDT [] cs)) r else Res.bad
  | none => Res.bad
theorem sim_dispT {K : PySem.W.Frag} {mg : Str → Option Value} (h : Sim K mg W (PPr K) (tPairs trs) F) : Sim K mg W (PV K) (tDispT trs) (eDispT F) := by
  intro γ Oc r σ H fs g Q
  have main : ∀ p, H p = none → ∃ g1 : Good K γ ([p] ++ Oc) r σ (upd H p (.dT [])) fs, True := fun p hp => ⟨g.grow (SameT.of (upd_kept (o := .dT []) hp)) (by simpa using hp) (by simp) (by simp [Own, upd_same, LD]), trivial⟩
  unfold eDispT
  cases eF : F r with
  | bad => trivial
  | exc c f r' =>
    refine fun hw p hp => ?_
    obtain ⟨g1, _⟩ := main p hp
    have z := h γ ([p] ++ Oc) r σ _ fs g1
    rw [eF] at z
    refine z _ fun C d H2 pp => hw C d H2 ?_
    obtain ⟨fs2, g2, s2, m, y⟩ := pp
    have kp := upd_kept (o := .dT []) hp
    exact ⟨fs2, g2.drop, (Stp.same _ _ (SameT.of kp)).trans s2, m, xr_sub g2.ow (fun a z => by
      simp only [List.mem_append] at z ⊢
      rcases z with z | z <;> simp [z]) y⟩
  | ok ps r' =>
    unfold Res.bind
    dsimp only
    cases ek : keysDT ps with
    | none => trivial
    | some cs =>
      dsimp only
      by_cases hl : ps.length ≤ 15
      · rw [if_pos hl]
        refine fun hq p hp => ?_
        obtain ⟨g1, _⟩ := main p hp
        have z := h γ ([p] ++ Oc) r σ _ fs g1
        rw [eF] at z
        refine z _ fun us H2 ⟨fs2, g2, v2, s2⟩ => ?_
        have np : p ∉ fs := fun z => (List.nodup_append.mp g1.nd).2.2 p z p (by simp) rfl
        have hp2 : H2 p = some (.dT []) := s2.keep p _ upd_same fun _ => np
        obtain ⟨kvs, q1, q5, q2, q3⟩ := v2.toT ek
        refine ⟨hp2, kvs, q1, q5, by rw [q2]; exact hl, ?_⟩
        have rk : RT K (fs2 ++ ([p] ++ Oc)) H2 (mergeDT [] cs) (mergeT [] kvs) := q3 (by simp [RT])
        obtain ⟨g3, st3, np2⟩ := g2.setTmpO (o := .dT (mergeT [] kvs)) trivial
        have ne : ∀ a o, H a = some o → a ≠ p := fun a o e z => by rw [z, hp] at e; cases e
        refine hq _ _ ⟨fs2, [p], g3, ⟨p, _, rfl, upd_same, RT.stab g2.ow st3 _ _ rk, rfl⟩, ⟨s2.sub, fun a o e n ht => ?_, fun a e => ?_, fun P t => ?_⟩, by simpa using hp⟩
        · rw [upd_ne (ne a o e)]
          exact s2.keep a o (by rw [upd_ne (ne a o e)]; exact e) n ht
        · exact nn_upd hp2 rfl (s2.there a (e.kept (upd_kept hp)))
        · exact tabs_upd hp2 trivial (s2.tb P (t.ext (upd_kept hp)))
      · rw [if_neg hl]; trivial
theorem ex_dispT (hu : X.A.units < cLine) (h : PX X W pos keys values trs F) (hall : keys.all (·.isSome) = true := by rfl) (hl : keys.length = values.length := by rfl) (h0 : keys ≠ [] := by simp) (h15 : keys.length ≤ 15 := by decide) : EX X W (.Dict keys values pos) (tDispT trs) (eDispT F) :=
  ⟨pe_dispT hu h.pe hall hl h0 h15, sim_dispT h.sim⟩
end
end QL
namespace QL
open PySem PySem.Spec L2
def dTupA : List D → Option OV
  | [.list ds] => some (.nt ds)
  | [.tuple ds] => some (.fz (.tuple ds))
  | [.str z] => if z.length ≤ sizeLine then some (.nt (z.cps.toList.map fun c => .str (tx [c]))) else none
  | _ => none
end QL
namespace QL
open PySem PySem.Spec L2 PySem.W PyProof.Rows
section
variable {prog : Program} {w : World} {A : Around} {E : Value → Shared → Prop} {h : Heap} {g : Array GenState} {d : Drawn} {t : Nat} {os : OsState}
variable {nm q : Str} {C N : Addr} {bs bm : List Value} {hdct : Bool} {sn : List Str} {sub : List Value} {ab : Bool} {col : Option Bool} {dd : Option Addr} {k0 k1 k2 k3 k5 : Option Value}
theorem call_mwV {u e t0 : Addr} {rest : List Value} {Q : Value → Shared → Prop} (hbm : PySem.HandSPX.refsVE bm = true)
    (hC : h.get? C = some (excClassObj nm q C N bs bm hdct sn sub ab col dd k0 k1 k2 k3 k5 "ValueError.__new__")) (he : h.get? e = some (HandSPX.excO C t0)) (hu : h.get? u = some (kxs_mw "ValueError.__init__" e)) (hrest : rest.length ≤ sizeLine)
    (hq : ∀ h' t1, (∀ b o, b ≠ e → h.get? b = some o → h'.get? b = some o) → h'.get? e = some (HandSPX.excO C t1) → Q .none ⟨h', g, d, t, os⟩) :
    wpAny (model prog w) A (call (.ref u) rest) Q E ⟨h, g, d, t, os⟩ := by
  refine wpAny_call (codeAny_of_tree ?_)
  show wpAny _ A.in1 (callAny (.ref u) ⟨rest, []⟩) _ _ _
  simp only [callAny]
  refine wpAny_bind (wpAny_load hu ?_)
  simp only [kxs_mw, show (Value.type "method-wrapper" == Value.type "method" || Value.type "method-wrapper" == Value.type "builtin_function_or_method" || Value.type "method-wrapper" == Value.type "method-wrapper") = true by decide, if_true]
  refine KFB.if_so (by decide) ?_
  refine wpAny_bind (check_bound_init F.excBase_ValueError.toExcCallFacts hC he rfl ?_)
  refine wpAny_bind (wpAny_pure (wpAny_pure ?_))
  refine ⟨plainId_quiet F.excBase_ValueError.init.plain _, codeAny_builtin F.excBase_ValueError.initEntry ?_⟩
  refine exc_init_tree (cls := .ref C) (t0 := t0) (dv := none) (c2 := .none) (c3 := .none) (b4 := .bool false) he hrest fun h' k e' t' => ?_
  exact hq h' _ k e'
end
/-- what __init__(self, v) keeps -/
def spSup (C : Addr) (v : Str) : Sp := fun vs H Q _ => ∃ (a : Addr) (y : V), vs = [.ref a, y] ∧ H a = some (exo a C none) ∧ ∀ dx, H dx = none → dx ≠ a → Q .non (upd (upd H dx (exd dx [(v, y)])) a (exo a C (some dx)))
theorem cls_own {K : Frag} {C : Addr} (T : OexC K C) : ∃ cd, clsIn K C = some cd := by
  obtain ⟨nm, q, N, bs, bm, sn, sub, ab, col, dd, k0, k1, k2, k3, k5, hC, hbm⟩ := T.cls
  exact ⟨_, by unfold clsIn; rw [hC]⟩
/-- what the written part says of the class and its __init__ -/
structure SupC (P : Program) (K : Frag) (mg : Str → Option Value) (C fI cc cda : Addr) (qual : Str) (params : Arguments) (body : List Stmt) (scope : Scope) (v : Str) : Prop where
  T : OexC K C
  no : findIn K (.ref C) v = some none
  iC : findIn K (.ref C) "__init__" = some (some (.ref fI))
  tI : typeIn K (.ref fI) = some (.type "function")
  fn : ∃ oc od dV kV doc pm an ct osl, K.lookup fI = some ⟨oc, od, .func (ksFn "__init__" qual params body scope dV kV doc pm an (.ref cda) ct cc), osl⟩
  cd : codeIn K (.ref cda) qual = true
  code : ∃ ccl cdd vs ccs file tf, K.lookup cda = some ⟨ccl, cdd, .fields vs, ccs⟩ ∧ vs[2]? = some (.str file tf) ∧ ((P.main.file : Str) == file) = true
  cell : ∃ cl cld csl, K.lookup cc = some ⟨cl, cld, .cell (some (.ref C)), csl⟩
  sub : mroIn K C (.ref C) = some true
  subV : subIn K (.ref C) (.type "ValueError") = some true
  along : ks_superIn K C C "__init__" = some (some (.builtin "ValueError.__init__"))
  tp : nsIn K cStatics "thirdparty.any" = some none
  sup : mg "super" = none
  top : (P.main.scope.names.lookup ("super" : Str)).isSome = false
section
variable {P : Program} {w : World} {K : Frag} {mg : Str → Option Value} {base : Heap} {CX : CXT} {k : Nat} {C fI cc cda : Addr} {qual msg v : Str} {params : Arguments} {body : List Stmt} {scope : Scope} {ar : Arg} {j : Nat} {p0 p1 p2 p3 p4 p5 p6 p7 p8 p9 : Pos} {oc dV kV doc pm ct : Value} {od an : Option Addr} {osl : Array (Option Value)}
theorem fn_sup (S : SupC P K mg C fI cc cda qual params body scope v) (lk : K.lookup fI = some ⟨oc, od, .func (ksFn "__init__" qual params body scope dV kV doc pm an (.ref cda) ct cc), osl⟩)
    (hp : (params.posonlyargs ++ params.args).head? = some ar) (har : ar.arg = "self") (Sc : NdefX.NScope ["self", v, "__class__"] ["self", v] ["__class__"] scope) (hks : scope.names.lookup ("super" : Str) = some .globalImplicit)
    (hnd : (v == ("__debug__" : Str)) = false) (hnc : (v == ("__classdict__" : Str)) = false)
    {pl : Addr → Sem Bool} (hev : ∀ L, eval (.Call (.Attribute (.Call (.Name "super" p0) [] [] p1) "__init__" p2) [.Constant (.str msg) j p3] [] p4) (callEnv (ksFn "__init__" qual params body scope dV kV doc pm an (.ref cda) ct cc) L fI) = (do
      let ov ← attributeBase (.Call (.Name "super" p0) [] [] p1) "__init__" (callEnv (ksFn "__init__" qual params body scope dV kV doc pm an (.ref cda) ct cc) L fI) (eval (.Call (.Name "super" p0) [] [] p1) (callEnv (ksFn "__init__" qual params body scope dV kV doc pm an (.ref cda) ct cc) L fI))
      standAt p2.atName
      let (f, first) ← holding [ov] (getMethod ov "__init__" (pl L))
      callWith p4 f first (backTo p4 (starEach [.Constant (.str msg) j p3] (callEnv (ksFn "__init__" qual params body scope dV kV doc pm an (.ref cda) ct cc) L fI))) []))
    (hint : ∀ L, interactive (callEnv (ksFn "__init__" qual params body scope dV kV doc pm an (.ref cda) ct cc) L fI) = false) (hsw : ∀ L, swapsWith (.Call (.Attribute (.Call (.Name "super" p0) [] [] p1) "__init__" p2) [.Constant (.str msg) j p3] [] p4) none p5.line (callEnv (ksFn "__init__" qual params body scope dV kV doc pm an (.ref cda) ct cc) L fI) = pure false)
    (hsw2 : ∀ L, swapsWith (.Name v p8) (some (.Attribute (.Name "self" p6) v p7)) p9.line (callEnv (ksFn "__init__" qual params body scope dV kV doc pm an (.ref cda) ct cc) L fI) = pure false)
    (hbody : body = [.Expr (.Call (.Attribute (.Call (.Name "super" p0) [] [] p1) "__init__" p2) [.Constant (.str msg) j p3] [] p4) p5, .Assign [.Attribute (.Name "self" p6) v p7] (.Name v p8) p9]) :
    FnOk P w K mg base CX (k + 1) fI (ksFn "__init__" qual params body scope dV kV doc pm an (.ref cda) ct cc) ["self", v] (spSup C v) := by
  refine ⟨fun vs H Q E ⟨a, y, e, _⟩ => by rw [e]; rfl, fun A outer s H args us vs Q E hr e0 hb r hs => ?_⟩
  obtain ⟨a, y, rfl, ea, hq⟩ := hs
  obtain ⟨ub, uy, rfl, ra, ry⟩ : ∃ ub uy, us = [ub, uy] ∧ RelV (.ref a) ub ∧ RelV y uy := by
    cases r with
    | cons h1 r => cases r with
      | cons h2 r => cases r; exact ⟨_, _, rfl, h1, h2⟩
  obtain rfl : ub = Value.ref a := ra
  have KX : K.In s.heap := e0.mod.kin.keeps fun b o e => (e0.bs b o e).1
  have lim : s.heap.NoLimit := e0.mod.nolimit.keeps fun b o e => (e0.bs b o e).1
  have fr1 : scope.names.lookup ("__class__" : Str) = some .free := Sc.frk _ (by simp)
  have lo1 : scope.names.lookup ("self" : Str) = some .local := Sc.par _ (by simp)
  have lo2 : scope.names.lookup v = some .local := Sc.par _ (by simp)
  obtain ⟨cl, cld, csl, hcell⟩ := S.cell
  obtain ⟨ccl, cdd, fvs, ccs, file, tf, hcode, hvs, hfile⟩ := S.code
  have hccn : H cc = none := (e0.bs cc _ (e0.mod.kin cc _ hcell)).2
  refine ks_codeAny_call_defAt (fd := ksFn "__init__" qual params body scope dV kV doc pm an (.ref cda) ct cc) (body := body) (binds := [("self", .ref a), (v, uy)]) hr.depth (KX _ _ lk) rfl lim (codeRec_of KX S.cd) rfl hb Sc.nocell (fun x hx => ?_) (fun h₀ hns kp => ?_) Sc.co Sc.gen Sc.kind
  · simp only [List.mem_cons, List.not_mem_nil, or_false] at hx
    rcases hx with rfl | rfl
    · exact lo1
    · exact lo2
  have CA : NdefX.CellsAt [("__class__", cc)] ["__class__"] [some (.ref C)] s.heap H := by
    refine ⟨rfl, fun y c e => ?_, fun x y c e1 e2 => ?_, fun i y e => ?_⟩
    · simp only [List.lookup] at e
      split at e
      · cases e; exact ⟨hccn, _, _, KX _ _ hcell, rfl⟩
      · cases e
    · simp only [List.lookup] at e1 e2
      split at e1 <;> split at e2 <;> simp_all
    · cases i with
      | zero =>
        simp at e
        subst e
        exact ⟨cc, by simp [List.lookup], fun v hv => by cases hv; exact ⟨.ref C, rfl, _, KX _ _ hcell, rfl⟩⟩
      | succ i => simp at e
  have I0 : L2.Inv (NdefX.ncx CX P w K mg base ["self", v, "__class__"] ⟨"__init__", qual, params, body, scope, [("__class__", cc)], cda⟩ fI A outer s H E) [] (NdefX.startF ["self", v, "__class__"] [.ref a, y] [some (.ref C)]) H { s with heap := h₀, toks := s.toks + [(("self" : Str), Value.ref a), (v, uy)].length } :=
    NdefX.inv_startN (us := [.ref a, uy]) Sc hr.hd e0 rfl r CA hns kp
  obtain ⟨t1, he⟩ := exo_at e0.hok ea
  obtain ⟨nm, q, N, bs, bm, sn, sub, ab, col, dd, k0, k1, k2, k3, k5, hC, hbm⟩ := S.T.cls
  obtain ⟨cdC, hcdC⟩ := cls_own S.T
  generalize hs0 : ({ s with heap := h₀, toks := s.toks + [(("self" : Str), Value.ref a), (v, uy)].length } : Shared) = s1 at I0
  have X1 : K.In s1.heap := I0.kIn
  have hns1 : s1.heap.Ns s.heap.objs.size (fun x => ([(("self" : Str), Value.ref a), (v, uy)]).reverse.lookup x) := by rw [← hs0]; exact hns
  have he1 : s1.heap.get? a = some (HandSPX.excO C t1) := by rw [← hs0]; exact kp _ _ he
  have II : InstAt s1.heap a (HandSPX.excO C t1) C none := ⟨he1, rfl, rfl, trivial⟩
  obtain ⟨oD, hD1, hD2⟩ : ∃ oD, s1.heap.get? C = some oD ∧ oD.data = .cls cdC := by
    unfold clsIn at hcdC
    rw [hC] at hcdC
    exact ⟨_, X1 _ _ hC, by cases hcdC; rfl⟩
  have env1 : (callEnv (ksFn "__init__" qual params body scope dV kV doc pm an (.ref cda) ct cc) s.heap.objs.size fI).kindOf "super" = some .globalImplicit := hks
  have env2 : (callEnv (ksFn "__init__" qual params body scope dV kV doc pm an (.ref cda) ct cc) s.heap.objs.size fI).kindOf "__class__" = some .free := fr1
  rw [show execs body (callEnv (ksFn "__init__" qual params body scope dV kV doc pm an (.ref cda) ct cc) s.heap.objs.size fI) = execs [.Expr (.Call (.Attribute (.Call (.Name "super" p0) [] [] p1) "__init__" p2) [.Constant (.str msg) j p3] [] p4) p5, .Assign [.Attribute (.Name "self" p6) v p7] (.Name v p8) p9] (callEnv (ksFn "__init__" qual params body scope dV kV doc pm an (.ref cda) ct cc) s.heap.objs.size fI) by rw [← hbody]]
  refine ks_wpAt_execs_cons (ks_wpAt_Expr_any (ks_wpAt_MethodCall ?_ (hev s.heap.objs.size)) (hint _) (hsw _))
  refine ks_wpAt_super_base env1 env2 (by decide) rfl (X1 _ _ lk) rfl hp rfl (X1 _ _ hcode) rfl hvs hfile S.top ?_
  obtain ⟨mb, hb1, hb2⟩ := I0.mod.blt
  refine ks_loadName_global Sc.kind hks (PySem.Calls.loadGlobal_builtin (env := callEnv (ksFn "__init__" qual params body scope dV kV doc pm an (.ref cda) ct cc) s.heap.objs.size fI) (I0.mod.glob.keeps I0.bk) S.sup (hb1.keeps I0.bk) ((hb2 _ (by decide)).trans (show bootBuiltins "super" = some (.type "super") by decide +kernel)) ⟨rfl, ?_⟩)
  refine PySem.wpAny_loadName_free Sc.kind fr1 rfl ⟨_, X1 _ _ hcell, rfl⟩ ?_
  rw [har]
  refine wpAny_loadName_local Sc.kind lo1 hns1 (by
    show ([(("self" : Str), Value.ref a), (v, uy)]).reverse.lookup ("self" : Str) = some (Value.ref a)
    exact NdefX.zip_look (ps := ["self", v]) (us := [.ref a, uy]) (i := 0) (by
      have nd := Sc.nd
      simp only [List.nodup_cons, List.mem_cons] at nd ⊢
      exact ⟨fun z => nd.1 (by simp at z ⊢; exact .inl z), by simp⟩) rfl rfl) ?_
  refine ks_wpAny_isType_cls hD1 hD2 ⟨rfl, ?_⟩
  obtain ⟨hp1, g1, d1, tk1, os1⟩ := s1
  refine ks_wpAny_call_super hD1 hD2 II.at_ II.cls (fun c e => ?_) (looks_mroIn X1 S.sub) (fun h2 e2 kp2 => ?_)
  · cases e
  have X2 : K.In h2 := X1.keeps kp2
  have LC : Looks (model P w) h2 (mroOf (.ref C)) cdC.mro := fun A Q E s k q => wpAny_bind ((looks_clsIn X2 hcdC) A _ E s k (wpAny_pure q))
  have al : alongIn K "__init__" ((cdC.mro.dropWhile (· != .ref C)).drop 1) = some (some (.builtin "ValueError.__init__")) := by
    have := S.along
    unfold ks_superIn at this
    rw [hcdC] at this
    exact this
  have I2a : InstAt h2 a (HandSPX.excO C t1) C none := ⟨kp2 _ _ he1, rfl, rfl, trivial⟩
  have LV : Looks (model P w) h2 (isInstance (.ref a) (.type "ValueError")) true := I2a.type.andThen (looks_subIn X2 S.subV)
  refine kxs_getMethod kxs_ValueError e2 (looks_opaque X2 S.tp) LC rfl X2 al LV (fun z => ?_) (by decide) ?_
  · rw [z] at he1
    rw [he1] at hD1
    cases hD1
    cases hD2
  refine kxs_callWith (i := "ValueError.__init__") (x := a) (by rfl) ?_
  refine PySem.Calls.evalArgs_plain (PySem.Calls.spliced_cons ?_)
  rw [if_neg (by decide)]
  refine PySem.Calls.Constant_str (PySem.Calls.spliced_nil ⟨Heap.get?_push_size _ rfl, ?_⟩)
  have kp3 : ∀ b o, hp1.get? b = some o → (h2.push (kxs_mw "ValueError.__init__" a)).get? b = some o := fun b o e => Heap.get?_push_of_some _ (kp2 b o e)
  have I3 : L2.Inv (NdefX.ncx CX P w K mg base ["self", v, "__class__"] ⟨"__init__", qual, params, body, scope, [("__class__", cc)], cda⟩ fI A outer s H E) [] (NdefX.startF ["self", v, "__class__"] [.ref a, y] [some (.ref C)]) H ⟨h2.push (kxs_mw "ValueError.__init__" a), g1, d1, tk1 + 1 + 1, os1⟩ := I0.kept (t' := tk1 + 1 + 1) kp3
  refine call_mwV hbm (X1.keeps kp3 _ _ hC) (kp3 _ _ he1) (Heap.get?_push_size _ rfl) (by simp [sizeLine_eq]) fun h4 t4 k4 e4 => ?_
  have I4 := I3.write (t' := tk1 + 1 + 1) (x := a) (e := a) (o := exo a C none) (by rw [ea]; exact True.intro) (.inl rfl) k4 ⟨_, e4⟩ (exo_ok e4)
  have eu : upd H a (exo a C none) = H := by
    funext b
    by_cases hb : b = a
    · rw [hb, upd_same, ea]
    · rw [upd_ne hb]
  rw [eu] at I4
  refine ks_wpAt_execs_cons (wpAt_of_wpAny ?_)
  have vis1 : Vis scope "self" := .inl lo1
  have vis2 : Vis scope v := .inl lo2
  have st := ps_ost (X := NdefX.ncx CX P w K mg base ["self", v, "__class__"] ⟨"__init__", qual, params, body, scope, [("__class__", cc)], cda⟩ fI A outer s H E) (f := v) (p' := p7) (pos := p9)
    (pe_var (x := "self") (i := 0) (pos := p6) rfl vis1 (by decide) (by decide)) (pe_var (x := v) (i := 1) (pos := p8) rfl vis2 hnd hnc) (hsw2 s.heap.objs.size)
  refine wpAny_mono (st.run [] _ _ H { nx := fun _ H' => Q .non H', rt := fun _ _ => False } I4 ⟨y, rfl, .ref a, rfl, a, C, rfl, S.T, S.no, .inl ⟨ea, fun dx n ne => hq dx n ne⟩⟩) (fun fl s' hf => ?_) fun e s' hx => hx
  cases fl with
  | next =>
    obtain ⟨σ', H', J, hQ⟩ := hf
    refine wpAt_of_wpAny (wpAny_execs_nil ?_)
    exact ⟨.non, H', J.os, J.bare, J.base, J.hok, rfl, hQ⟩
  | ret u =>
    obtain ⟨v6, σ6, H6, S6, r6, q6⟩ := hf
    exact q6.elim
  | brk =>
    obtain ⟨σ6, H6, S6, q6⟩ := hf
    exact q6.elim
  | cont =>
    obtain ⟨σ6, H6, S6, q6⟩ := hf
    exact q6.elim
end
structure DefE (P : Program) (w : World) (K : Frag) (mg : Str → Option Value) (base : Heap) (x v : Str) (C : Addr) : Prop where
  ex : ∃ (fI : Addr) (fd : FuncData), mg x = some (.ref C) ∧ OexC K C ∧ findIn K (.ref C) "__init__" = some (some (.ref fI)) ∧ typeIn K (.ref fI) = some (.type "function") ∧ FnOk P w K mg base (L2.CX P w) 1 fI fd ["self", v] (spSup C v) ∧ Binds K fd ["self", v] []
def sRaise (c v : Str) (fe : S → Res D) : S → RS := fun r => (fe r).bindS fun d r => RS.exc c [(v, d)] r
section
variable {X : Cx} {W : WX} {e : Expr} {te : TE} {fe : S → Res D} {x v : Str} {p pos pos' : Pos}
theorem sim_raise {C : Addr} {K : Frag} {mg : Str → Option Value} (hm : mg x = some (.ref C)) (h : Sim K mg W (PF K) te fe) : SimS K mg W (fun D σ H => tMkO C (spSup C v) [] (tCons te tNil) σ H fun cls d H' => W cls d σ H') (sRaise x v fe) := by
  intro γ Oc r σ H fs g
  unfold sRaise
  refine SimSAt.bindE (t2 := fun (y : V) (H1 : Hp) (E : Ends) => ([y] : List V).length ≤ 1000 ∧ ∀ a, H1 a = none → spSup C v (.ref a :: ([y] ++ [])) (upd H1 a (exo a C none))
    (fun v H2 => v = .non ∧ ∃ (d : Addr) (fs : List (Str × V)), H2 a = some (exo a C (some d)) ∧ H2 d = some (exd d fs) ∧ H1 d = none ∧ W (.ref C) (some d) σ (upd (del H2 a) d (.xd fs))) (fun _ _ _ => False)) (h γ Oc r σ H fs g) fun d r1 y H1 ⟨fs1, g1, v1, s1⟩ => ?_
  refine SimSAt.tr s1.evo fun E hw => ⟨by simp, fun a ha => ⟨a, y, rfl, upd_same, fun dx hdx hne => ⟨rfl, dx, [(v, y)], upd_same, ?_, ?_, ?_⟩⟩⟩
  · rw [upd_ne hne, upd_same]
  · rw [upd_ne hne] at hdx; exact hdx
  · rw [upd_ne hne] at hdx
    have kp := upd_kept (o := .xd [(v, y)]) hdx
    have g2 : Good K γ ([] ++ Oc) r1 σ (upd H1 dx (.xd [(v, y)])) fs1 := g1.grow (SameT.of kp) (by simp) (by simp) (by simp [Own])
    have v2 := R.stab g1.ow (g1.stabSub (Stp.same _ _ (SameT.of kp))) _ _ v1
    have eH : upd (del (upd (upd (upd H1 a (exo a C none)) dx (exd dx [(v, y)])) a (exo a C (some dx))) a) dx (.xd [(v, y)]) = upd H1 dx (.xd [(v, y)]) := by
      funext b
      by_cases h1 : b = dx
      · rw [h1, upd_same, upd_same]
      · rw [upd_ne h1, upd_ne h1]
        by_cases h2 : b = a
        · rw [h2, del_same, ha]
        · rw [del_ne h2, upd_ne h2, upd_ne h1, upd_ne h2]
    rw [eH]
    exact hw _ _ _ _ (XP.ps ⟨⟨fs1, by simpa using g2, Stp.same _ _ (SameT.of kp), hm, .inr ⟨dx, [(v, y)], rfl, upd_same, rfl, by simp only [List.map_cons, List.map_nil, Rs]; exact ⟨y, [], rfl, v2, rfl⟩⟩⟩⟩)
theorem sx_raise {C : Addr} (h : DefE X.prog X.w X.K X.mg X.base x v C) {k : Nat} (hr : Room (k + 1) X.A) (hc : X.calm = true) (tk : Takes X W) (hf : FX X W e te fe) (hk : 1 ≤ k := by decide) (hg : Gl X x := by rfl)
    (hdb : (x == ("__debug__" : Str)) = false := by decide) (he : starEach [e] X.env = (false, eval e X.env) :: starEach [] X.env := by rfl) (hpl : (backTo pos (starEach [] X.env)).any (·.1) = false := by rfl) :
    SX X W (.Raise (some (.Call (.Name x p) [e] [] pos)) none pos') (fun _ σ H => tMkO C (spSup C v) [] (tCons te tNil) σ H fun cls d H' => W cls d σ H') (sRaise x v fe) := by
  obtain ⟨fI, fd, hm, T, iC, tI, F1, hb⟩ := h.ex
  have pm : PMk X (.Call (.Name x p) [e] [] pos) (tMkO C (spSup C v) [] (tCons te tNil)) := pmk_oex T iC tI (F1.mono hk) hr hb .nil (passes_call tk fun _ _ _ _ z => z.elim) hg hm (pa_cons hf.pe pa_nil he) hdb he hpl
  exact ⟨ps_raise hc tk pm, sim_raise hm hf.sim⟩
end
end QL
namespace QL
open PySem PySem.Spec L2
abbrev HTS := Addr → Value → Option Addr → TS
/-- an except suite ends: its name goes -/
def goneE (i : Nat) (D : Ends) : Ends := { nx := fun σ' H' => D.nx (σ'.set i none) H', rt := D.rt, bk := fun σ' H' => D.bk (σ'.set i none) H', ct := fun σ' H' => D.ct (σ'.set i none) H' }
def wManyA (K : PySem.W.Frag) (i : Nat) (Wout : WX) (D : Ends) : List (Value × HTS) → WX
  | [] => Wout
  | (c, ts) :: r => fun cls d σ H => ∃ b, PySem.W.exmOne K cls c = some b ∧ (b = true → ∀ a, H a = none → ts a cls d (goneE i D) (σ.set i (some (.ref a))) H) ∧ (b = false → wManyA K i Wout D r cls d σ H)
inductive HdsA (X : Cx) (n : Str) : List ExceptHandler → List (Value × HTS) → Prop
  | nil : HdsA X n [] []
  | cons {x : Str} {c : Value} {ts : HTS} {b₀ : Stmt} {suite : List Stmt} {np pos' : Pos} {hds : List ExceptHandler} {l : List (Value × HTS)} (hc : Names X x c)
      (hsu : ∀ (a : Addr) (oe : Obj) (cls : Value) (d : Option Addr) (pn : List (Addr × Obj)), Zc cls d oe → (∃ vs, oe.data = .fields vs) → PSs (X.suite a ((a, oe) :: pn)) (b₀ :: suite) (ts a cls d)) (r : HdsA X n hds l) :
      HdsA X n (.ExceptHandler (some (.Name x np)) (some n) (b₀ :: suite) pos' :: hds) ((c, ts) :: l)
section
variable {X : Cx} {n : Str} {i : Nat} {Wout : WX} {D : Ends} {pins : List (Addr × Obj)} {σ : St} {H : Hp} {sI s : Shared} {B : Heap} {a : Addr} {cls : Value} {d : Option Addr}
theorem ps_try_manyA {body : List Stmt} {h₀ : ExceptHandler} {hds : List ExceptHandler} {l : List (Value × HTS)} {pos : Pos} {tb : WX → TS}
    (hs : X.stack = X.env :: X.outer) (hf : X.env.frame = some X.env.locals) (hN : X.N.Nodup) (hi : X.N[i]? = some n) (hln : X.env.kindOf n = some .local) (tk : Takes X Wout)
    (hb : ∀ (W : WX) (pn : List (Addr × Obj)) (xe : Value → Shared → Prop), Takes (X.tr pn xe) W → PassesOwn (model X.prog X.w) X.A X.env xe → PSs (X.tr pn xe) body (tb W))
    (hh : HdsA X n (h₀ :: hds) l) : PS X (.Try body (h₀ :: hds) [] [] pos) (fun D σ H => tb (wManyA X.K i Wout D l) D σ H) := by
  refine ⟨fun pins s σ H D I h => ?_⟩
  have ok := I.ok
  have hfr : X.A.frames = some (X.env :: X.outer) := by rw [ok.frames, hs]
  have hloc : Loc X.env.scope n := .inl hln
  refine wpAny_Try_except (wpAny_mono ((hb (wManyA X.K i Wout D l) (X.pn ++ pins) (fun e s₁ => wpAny (model X.prog X.w) X.A (noteFrame e X.env) (fun _ s₂ => wpAny (model X.prog X.w) X.A (setFlight e none) (fun _ s₃ =>
    wpAny (model X.prog X.w) X.A (handleBy e X.env (h₀ :: hds)) (SP X pins D) X.xe s₃) X.xe s₂) X.xe s₁) (fun u s' xx => ?_) PassesOwn.looking).run [] s σ H D (I.toTry _) h) (fun f s1 hsp => ?_) fun e s1 he => he)
  · obtain ⟨a, B, sI, pins', σ', H', cls, d, rfl, J', nb, up, sky, na, os, ag, w⟩ := xx
    have J : L2.Inv X pins σ' H' sI := J'.ofTry ok
    refine Sky.land Zc.steady hfr hf (by rw [← hs]; exact sky) fun h3 fl3 up3 => ?_
    have J3 : L2.Inv X pins σ' H' { s' with heap := h3 } := J.landed nb fl3.1 (up.trans up3) os ag
    obtain ⟨oe3, vs3, he3, hz3, hd3⟩ := fl3.there
    have nfr : a ∉ frs (X.env :: X.outer) := fun hm => by
      obtain ⟨_, o', e', hnf⟩ := fl3.2.2.1.mem hm
      rw [he3] at e'; cases e'
      exact hnf _ hd3
    have nL : a ≠ X.env.locals := fun z => nfr (List.mem_filterMap.mpr ⟨X.env, List.mem_cons_self, by rw [hf, z]⟩)
    have nF : a ∉ X.fs := fun hm => by
      obtain ⟨e, he, q⟩ := List.mem_filterMap.mp hm
      exact nfr (List.mem_filterMap.mpr ⟨e, List.mem_cons_of_mem _ he, q⟩)
    have S3 := J3.suite he3 hd3 na nL nF
    have go : ∀ {hds' : List ExceptHandler} {l' : List (Value × HTS)}, HdsA X n hds' l' → wManyA X.K i Wout D l' cls d σ' H' →
        wpAny (model X.prog X.w) X.A (handleBy (.ref a) X.env hds') (SP X pins D) X.xe { s' with heap := h3 } := by
      intro hds' l' hk
      induction hk with
      | nil =>
        intro w
        refine wpAny_handleBy_nil ?_
        obtain ⟨k1, k2, k3, oe, vs, T, oT, ts', he, hz, hd, h1, hr⟩ := id fl3
        unfold PySem.passOn
        refine wpAny_bind (wpAny_field he hd h1 ?_)
        rw [if_neg (show ¬ ((Value.ref T == Value.none) = true) from by simp)]
        have fin : wpAny (model X.prog X.w) X.A (setFlight (.ref a) X.env.frame) (fun _ s4 => wpAny (model X.prog X.w) X.A (throw (.ref a) : Sem Flow) (SP X pins D) X.xe s4) X.xe { s' with heap := h3 } := by
          rw [hf]
          exact HandSPX.setFlight_upZ fl3 fun h4 hh4 up4 => wpAny_throw (tk _ _ ⟨a, B, sI, pins, σ', H', cls, d, rfl, J, nb, (up.trans up3).trans up4, .inr (.inr (by rw [hs]; exact hh4)), na, os, ag, w⟩)
        first
          | exact wpAny_bind (wpAny_pure (wpAny_bind fin))
          | exact wpAny_bind fin
      | @cons x c ts b₀ suite np pos' hds2 l2 hc hsu r ih =>
        intro w
        obtain ⟨b, hb1, hyes, hno⟩ := w
        refine wpAny_handleBy_cons (codeAny_handlers_test ?_) (by intro q; cases q)
        have LM := PySem.W.exm_one (M := model X.prog X.w) (J3.kIn) (fun A Q E s k q => wpAny_typeOf_ref (k _ _ he3) (by rw [hz3.1]; exact q)) hb1
        have test : ∀ {Q : Value → Shared → Prop} {E : Value → Shared → Prop}, Q c { s' with heap := h3 } → wpAny (model X.prog X.w) (X.A.mark (some (.ref a))) (eval (.Name x np) X.env) Q E { s' with heap := h3 } := fun {Q E} q => by
          obtain ⟨hg, hdbg, hm | ⟨hm, hv, hnn⟩⟩ := hc
          · exact ld_glob (X := X.suite a ((a, oe3) :: (X.pn ++ pins))) S3 hg hm q hdbg
          · exact ld_blt (X := X.suite a ((a, oe3) :: (X.pn ++ pins))) S3 hg hm hv q hnn hdbg
        refine test (LM.here ?_)
        cases b with
        | false =>
          show wpAny _ X.A (handleBy (.ref a) X.env hds2) _ _ _
          exact ih (hno rfl)
        | true =>
          refine codeAny_handlers_suite_as (HandSPX.lands_againZ fl3 fun h4 fl4 up4 => ?_)
          have J4 : L2.Inv X pins σ' H' { s' with heap := h4 } := J.landed nb fl4.1 ((up.trans up3).trans up4) os ag
          obtain ⟨oe4, vs4, he4, hz4, hd4⟩ := fl4.there
          refine store_ok (X := X.suite a ((a, oe4) :: (X.pn ++ pins))) (v := .ref a) (J4.suite he4 hd4 na nL nF) hN hi hloc rfl (fun s5 S5 => ?_) (.inr hln)
          refine wpAny_mono ((hsu a oe4 cls d (X.pn ++ pins) hz4 ⟨_, hd4⟩).run [] s5 _ H' _ S5 (hyes rfl a na)) (fun f s6 hsp => ?_) (fun _ _ z => z.elim)
          have end_ : ∀ {σ6 : L2.St} {H6 : Hp} {Q : Shared → Prop}, L2.Inv (X.suite a ((a, oe4) :: (X.pn ++ pins))) [] σ6 H6 s6 → (∀ s7, L2.Inv X pins (σ6.set i none) H6 s7 → Q s7) →
              wpAny (model X.prog X.w) X.A (do bindName X.env n .none; unbindBehindTheSuite X.env n pos') (fun _ s7 => Q s7) X.xe s6 := fun {σ6 H6 Q} S6 hq => gone_ok (S6.unsuite ok) hN hi hln hq
          cases f with
          | next => obtain ⟨σ6, H6, S6, q6⟩ := hsp; exact end_ S6 fun s7 J7 => ⟨_, _, J7, q6⟩
          | brk => obtain ⟨σ6, H6, S6, q6⟩ := hsp; exact end_ S6 fun s7 J7 => ⟨_, _, J7, q6⟩
          | cont => obtain ⟨σ6, H6, S6, q6⟩ := hsp; exact end_ S6 fun s7 J7 => ⟨_, _, J7, q6⟩
          | ret u => obtain ⟨v6, σ6, H6, S6, r6, q6⟩ := hsp; exact end_ S6 fun s7 J7 => ⟨_, _, _, J7, r6, q6⟩
    exact go hh w
  · cases f with
    | next => obtain ⟨σ', H', J', q⟩ := hsp; exact wpAny_execs_nil ⟨σ', H', J'.ofTry ok, q⟩
    | brk => obtain ⟨σ', H', J', q⟩ := hsp; exact ⟨σ', H', J'.ofTry ok, q⟩
    | cont => obtain ⟨σ', H', J', q⟩ := hsp; exact ⟨σ', H', J'.ofTry ok, q⟩
    | ret u => obtain ⟨v, σ', H', J', r, q⟩ := hsp; exact ⟨v, σ', H', J'.ofTry ok, r, q⟩
end
end QL
namespace QL
open PySem PySem.Spec L2 LamX
/-- a lambda made in X at s: it stands at f -/
structure LamAt (X : Cx) (pins : List (Addr × Obj)) (σ : L2.St) (H : Hp) (s : Shared) (f c' : Addr) (k : Nat) (t : XK → TE) : Prop where
  I : L2.Inv X pins σ H s
  ex : ∃ (params : Arguments) (body : Expr) (scope : Scope) (pm ctv : Value), LamS X.env.scope scope ∧
    s.heap.get? f = some (PySem.W.kla_obj "<lambda>" (X.env.qual ++ "<lambda>") params body scope (cloFrom X.env.cells scope.names []) pm c' ctv) ∧ H f = none ∧ f ∉ frs X.stack ∧
    bindArgs (PySem.W.kla_fn "<lambda>" (X.env.qual ++ "<lambda>") params body scope (cloFrom X.env.cells scope.names []) pm (.ref c') ctv) ⟨[], []⟩ = pure [] ∧
    ∀ (A : Around) (outer : List Env) (s : Shared) (H : Hp) (E : XK), A.guards = some [] → Room k (A.deeper (lamEnv X scope s.heap.objs.size f c')) → PE (lamCx X A outer s H E scope f c') body (t E)
/-- the frames above X's: new ones alone -/
structure Above (X : Cx) (H : Hp) (s : Shared) (stack' : List Env) (H' : Hp) (s' : Shared) : Prop where
  un : Un (frs X.stack) [] H H' s.heap s'.heap
  fr : ∀ b ∈ frs stack', b ∈ frs X.stack ∨ s.heap.objs.size ≤ b
  sz : s.heap.objs.size ≤ s'.heap.objs.size
theorem Above.on {X Z : Cx} {pz : List (Addr × Obj)} {σz : L2.St} {H H' HZ : Hp} {s s' sZ : Shared} (A : Above X H s Z.outer H' s') (I : L2.Inv Z pz σz HZ sZ) (e1 : Z.s_0 = s') (e2 : Z.H_0 = H') (e3 : Z.ex = []) (e4 : Z.stack = Z.env :: Z.outer) (e5 : Z.env.frame = some Z.env.locals) : Above X H s Z.stack HZ sZ := by
  have hb := I.base
  rw [e1, e2, e3] at hb
  have hl : s.heap.objs.size ≤ Z.env.locals := Nat.le_trans A.sz (by have := I.ok.above; rw [e1] at this; exact this)
  refine ⟨⟨fun b o q n nf _ => ?_, fun b o q n nf _ => ?_, fun b o q n _ => ?_, fun b o q _ => ?_, fun b xs q => hb.tups b xs (A.un.tups b xs q), fun b o u q => hb.frzs b o u (A.un.frzs b o u q), fun b ps q => ?_⟩, fun b hb2 => ?_, Nat.le_trans A.sz (by have := I.sz; rw [e1] at this; exact this)⟩
  · have h1 := A.un.keep b o q n nf (by simp)
    refine hb.keep b o h1 (A.un.free b o q n (by simp)) (fun z => ?_) (by simp)
    rcases A.fr b z with z | z
    · exact nf z
    · exact absurd (Heap.lt_size q) (Nat.not_lt.mpr z)
  · obtain ⟨sl, h1⟩ := A.un.any q n (by simp)
    obtain ⟨sl2, h2⟩ := hb.any h1 (A.un.free b o q n (by simp)) (by simp)
    exact ⟨sl2, h2⟩
  · obtain ⟨sl, h1⟩ := A.un.any q n (by simp)
    exact hb.free b _ h1 (A.un.free b o q n (by simp)) (by simp)
  · obtain ⟨o1, h1⟩ := A.un.there b o q (by simp)
    exact hb.there b o1 h1 (by simp)
  · obtain ⟨m1, h1⟩ := A.un.tbls b ps q
    obtain ⟨m2, h2⟩ := hb.tbls b _ h1
    exact ⟨m1 ++ m2, by rw [h2, Array.append_assoc]⟩
  · rw [e4] at hb2
    obtain ⟨e, he, q⟩ := List.mem_filterMap.mp hb2
    rcases List.mem_cons.mp he with z | z
    · subst z
      rw [e5] at q
      cases q
      exact .inr hl
    · exact A.fr b (List.mem_filterMap.mpr ⟨e, z, q⟩)
section
variable {X Z : Cx} {pins : List (Addr × Obj)} {σ : L2.St} {H H' : Hp} {s s' : Shared} {f c' : Addr} {k k2 i : Nat} {t : XK → TE} {a : Str} {W : WX} {E : XK} {p1 p2 : Pos}
/-- a(): the lambda is called, in a def above its maker -/
theorem pe_act3 (L : LamAt X pins σ H s f c' k t) (z1 : Z.prog = X.prog) (z2 : Z.w = X.w) (z3 : Z.K = X.K) (z4 : Z.mg = X.mg) (z5 : Z.base = X.base) (hA : ∀ pz σz HZ sZ, L2.Inv Z pz σz HZ sZ → Above X H s Z.stack HZ sZ)
    (tk : Takes Z W) (hG : Z.A.guards = some []) (hr : Room (k + 1) Z.A) (hN : Z.N[i]? = some a) (hv : Vis Z.env.scope a) (hd : (a == ("__debug__" : Str)) = false := by decide) (hcd : (a == ("__classdict__" : Str)) = false := by decide) :
    PE Z (.Call (.Name a p1) [] [] p2) (fun σZ HZ Q => (∀ cls d H', E cls d H' → W cls d σZ H') ∧ σZ[i]? = some (some (.ref f)) ∧ HZ c' = some (CodeO c' (X.env.qual ++ "<lambda>")) ∧ t E σ HZ Q) := by
  obtain ⟨I, params, body, scope, pm, ctv, LS, hf, hfn, hfr, hbind, hbody⟩ := L
  refine ⟨fun pinsZ sZ σZ HZ Q IZ h => ?_⟩
  obtain ⟨hW, hs, hc, ht⟩ := h
  refine wpAny_Call_Name_kw (thn ((pe_var (pos := p1) (i := i) hN hv hd hcd).run pinsZ sZ σZ HZ (fun v H1 => v = .ref f ∧ H1 = HZ) IZ ⟨.ref f, hs, rfl, rfl⟩) fun u s1 ⟨v, H1, I1, r1, q1⟩ => ?_)
  obtain ⟨ev, eH⟩ := q1
  subst ev
  rw [eH] at I1
  obtain rfl : u = Value.ref f := r1
  have un := (hA _ _ _ _ I1).un
  have of1 : s1.heap.get? f = some (PySem.W.kla_obj "<lambda>" (X.env.qual ++ "<lambda>") params body scope (cloFrom X.env.cells scope.names []) pm c' ctv) := un.keep f _ hf hfn hfr (by simp)
  refine PySem.W.callWith_F0 ⟨_, _, _, _, of1⟩ ?_
  obtain ⟨⟨oc, vs, tt, hoc, hdc, hvc⟩, _, _⟩ := I1.hok c' _ hc
  have e0 : Env0 X.prog X.w X.K X.mg X.base Z.A Z.stack s1 HZ := by
    have := I1.env0
    rw [z1, z2, z3, z4, z5] at this
    exact this
  have rc : codeAny (model X.prog X.w) Z.A (.call (.ref f) ⟨[], []⟩) (CR (L2.CX X.prog X.w) Z.stack X.prog X.w HZ s1 Q E) s1 := by
    refine PySem.W.kla_callFunE hr.depth of1 rfl LS.co LS.gen rfl ⟨c', oc, vs, tt, rfl, hoc, hdc, hvc⟩ ?_
    rw [hbind]
    refine wpAny_pure (wpAny_newFunctionEnv (fun y hy => (LS.own y hy).2) (fun y hy => absurd hy (by simp)) (fun h₁ hns hsb => ⟨I1.nolimit.fresh _ hsb, ?_⟩) LS.kind)
    show codeAny _ _ (.expr body (lamEnv X scope s1.heap.objs.size f c')) _ _
    have kp : ∀ b o, s1.heap.get? b = some o → h₁.get? b = some o := fun b o e => hsb.extBut b o (Nat.ne_of_lt (Heap.lt_size e)) (Heap.get?_push_of_some _ e)
    have J : L2.Inv (lamCx X Z.A Z.stack s1 HZ E scope f c') [] σ HZ { s1 with heap := h₁, toks := s1.toks + ([] : List (Str × Value)).length } := lam_start2 I LS e0 hr.hd un hns kp
    refine PySem.W.kla_codeExpr (wpAny_mono ((hbody _ _ s1 HZ E hG (hr.deeper _)).run [] _ _ HZ Q J ht) (fun v s' hq => ?_) fun e s' hq => hq)
    obtain ⟨w', H2, J', rv, q⟩ := hq
    exact ⟨w', H2, J'.os, J'.bare, J'.base, J'.hok, rv, q⟩
  have z12 : model Z.prog Z.w = model X.prog X.w := by rw [z1, z2]
  refine wpAny_call (codeAny_mono (by rw [z12]; exact rc) fun r s2 hq => ?_)
  rw [← z1, ← z2] at hq
  cases r with
  | error e => exact tk e s2 (XE.of_call I1 (fun cls d H' h => hW cls d H' h) hq)
  | ok fl =>
    cases fl with
    | ret u => exact I1.after hq
    | next => exact False.elim hq
    | brk => exact False.elim hq
    | cont => exact False.elim hq
end
/-- class, field, words -/
abbrev HR := Addr × Str × List Str
/-- what an exception is told as: a list; or it goes on -/
def ERef (K : PySem.W.Frag) (Q : VK) (E : XK) : List HR → XK
  | [] => E
  | (C, n, tag) :: r => fun cls d H' => ∃ b, PySem.W.exmOne K cls (.ref C) = some b ∧
      (b = true → cls = .ref C ∧ ∃ (dd : Addr) (fs : List (Str × V)) (v : V), d = some dd ∧ H' dd = some (.xd fs) ∧ fs.lookup n = some v ∧ ∀ q, H' q = none → Q (.ref q) (upd H' q (.lst (tag.map V.str ++ [v])))) ∧ (b = false → ERef K Q E r cls d H')
def tagT : List Str → TA → TA
  | [], t => t
  | w :: r, t => tCons (tC (.str w)) (tagT r t)
theorem tagT_run {tag : List Str} {v : V} {te : TE} {σ : L2.St} {H : Hp} {Q : List V → Hp → Prop} (h : te σ H fun x H1 => Q (tag.map V.str ++ [x]) H1) : tagT tag (tCons te tNil) σ H Q := by
  induction tag generalizing Q with
  | nil => exact h
  | cons w r ih => exact ih (Q := fun xs H => Q (V.str w :: xs) H) h
def tsRef (a : HR) : HTS := fun e cls d => tAsg (tLst (tagT a.2.2 (tCons (tXf e cls d a.1 a.2.1 (tVar 2)) tNil))) (gName 1)
inductive HdsR (X : Cx) : List ExceptHandler → List HR → Prop
  | nil : HdsR X [] []
  | tag {x n w : Str} {C : Addr} {j : Nat} {hds : List ExceptHandler} {hs : List HR} {q0 q1 q2 q3 q4 q5 q6 q7 : Pos} (hx : Names X x (.ref C)) (T : XfC X.K C) (hno : PySem.W.findIn X.K (.ref C) n = some none) (r : HdsR X hds hs) :
      HdsR X (.ExceptHandler (some (.Name x q0)) (some "e") [.Assign [.Name "found" q1] (.List [.Constant (.str w) j q2, .Attribute (.Name "e" q3) n q4] q5) q6] q7 :: hds) ((C, n, [w]) :: hs)
  | bare {x n : Str} {C : Addr} {hds : List ExceptHandler} {hs : List HR} {q0 q1 q3 q4 q5 q6 q7 : Pos} (hx : Names X x (.ref C)) (T : XfC X.K C) (hno : PySem.W.findIn X.K (.ref C) n = some none) (r : HdsR X hds hs) :
      HdsR X (.ExceptHandler (some (.Name x q0)) (some "e") [.Assign [.Name "found" q1] (.List [.Attribute (.Name "e" q3) n q4] q5) q6] q7 :: hds) ((C, n, []) :: hs)
section
variable {X : Cx} {hds : List ExceptHandler} {hs : List HR}
theorem HdsR.toA (hN : X.N.Nodup) (h1 : X.N[1]? = some ("found" : Str)) (h2 : X.N[2]? = some ("e" : Str)) (l1 : X.env.scope.names.lookup ("found" : Str) = some .local) (l2 : X.env.scope.names.lookup ("e" : Str) = some .local) (r : HdsR X hds hs) : HdsA X "e" hds (hs.map fun a => (Value.ref a.1, tsRef a)) := by
  induction r with
  | nil => exact .nil
  | @tag x n w C j hds hs q0 q1 q2 q3 q4 q5 q6 q7 hx T hno r ih =>
    refine .cons hx (fun a oe cls d pn hz hf => pss_one ?_) ih
    exact ps_set (X := X.suite a ((a, oe) :: pn)) hN h1 (.inl l1) (pe_lst (pa_cons pe_str (pa_cons (pe_xf (te := tVar 2) T hno hz hf (pe_var (X := X.suite a ((a, oe) :: pn)) h2 (.inl l2))) pa_nil))) (hf := .inr l1)
  | @bare x n C hds hs q0 q1 q3 q4 q5 q6 q7 hx T hno r ih =>
    refine .cons hx (fun a oe cls d pn hz hf => pss_one ?_) ih
    exact ps_set (X := X.suite a ((a, oe) :: pn)) hN h1 (.inl l1) (pe_lst (pa_cons (pe_xf (te := tVar 2) T hno hz hf (pe_var (X := X.suite a ((a, oe) :: pn)) h2 (.inl l2))) pa_nil)) (hf := .inr l1)
/-- what is wished of an exception, by the slots -/
theorem ERef.many {K : PySem.W.Frag} {D : Ends} {E : XK} {Q : VK} {Wout : WX} {v0 v1 : Option V} (hQ : ∀ v H, Q v H → D.nx [v0, some v, none] H) (hE : ∀ cls d σ H, E cls d H → Wout cls d σ H) :
    ∀ (hs : List HR) (cls : Value) (d : Option Addr) (H' : Hp), (∀ a ∈ hs, a.2.2.length ≤ 1) → ERef K Q E hs cls d H' → wManyA K 2 Wout D (hs.map fun a => (Value.ref a.1, tsRef a)) cls d [v0, v1, none] H'
  | [], cls, d, H', _, h => hE _ _ _ _ h
  | (C, n, tag) :: r, cls, d, H', hl, ⟨b, e, h1, h2⟩ => by
    refine ⟨b, e, fun hb a ha => ?_, fun hb => ERef.many hQ hE r cls d H' (fun x hx => hl x (by simp [hx])) (h2 hb)⟩
    obtain ⟨ec, dd, fs, v, ed, ex, el, hq⟩ := h1 hb
    have htl := hl (C, n, tag) (by simp)
    show tagT tag (tCons (tXf a cls d C n (tVar 2)) tNil) _ _ _
    refine tagT_run (v := v) ⟨.ref a, rfl, rfl, ec, dd, fs, v, ed, ex, el, ?_⟩
    refine ⟨?_, fun q hq2 => ?_⟩
    · rw [List.length_append, List.length_map, sizeLine_eq]
      have : tag.length ≤ 1 := htl
      simp only [List.length_cons, List.length_nil]
      omega
    · exact hQ _ _ (hq q hq2)
end
/-- what such a helper makes of the lambda's reading -/
abbrev TTx := (XK → Hp → VK → Prop) → Hp → VK → XK → Prop
structure CloOk (P : Program) (w : World) (K : PySem.W.Frag) (mg : Str → Option Value) (base : Heap) (kb k : Nat) (x : Str) (TT : TTx) : Prop where
  ex : ∃ g : Addr, mg x = some (.ref g) ∧ PySem.W.keepIn K (.ref g) = true ∧
    ∀ (X : Cx) (pins : List (Addr × Obj)) (σ : L2.St) (H : Hp) (s : Shared) (f c' : Addr) (t : XK → TE) (A' : Around) (stack' : List Env) (s' : Shared) (H' : Hp) (Q : VK) (E : XK), X.prog = P → X.w = w → X.K = K → X.mg = mg → X.base = base →
      LamAt X pins σ H s f c' kb t → Above X H s stack' H' s' → Env0 P w K mg base A' stack' s' H' → A'.guards = some [] → Room k A' → H' c' = some (CodeO c' (X.env.qual ++ "<lambda>")) → TT (fun E H Q => t E σ H Q) H' Q E →
      codeAny (model P w) A' (.call (.ref g) ⟨[.ref f], []⟩) (CR (L2.CX P w) stack' P w H' s' Q E) s'
def TT1 (K : PySem.W.Frag) (hs : List HR) : TTx := fun tl H Q E => ∀ p, H p = none → tl (ERef K Q E hs) (upd H p (.lst [])) fun _ H2 => Q (.ref p) H2
section
variable {P : Program} {w : World} {K : PySem.W.Frag} {mg : Str → Option Value} {base : Heap} {kb k : Nat} {x x2 : Str} {g : Addr} {pg : Arguments} {bg : List Stmt} {sg : Scope} {dV kV doc pm cdv ct oc : Value} {an od : Option Addr} {osl : Array (Option Value)}
  {h0 : ExceptHandler} {hds : List ExceptHandler} {hs : List HR} {q1 q2 q3 q4 q5 q6 q7 q8 q9 q9' q10 : Pos} {TT : TTx}
abbrev zcx (P : Program) (w : World) (K : PySem.W.Frag) (mg : Str → Option Value) (base : Heap) (x : Str) (sg : Scope) (g : Addr) (cdv : Value) (A : Around) (outer : List Env) (s : Shared) (H : Hp) (E : XK) : Cx := cxOf (L2.CX P w) P w K mg base ["call", "found", "e"] x sg g cdv A outer s H E
theorem clo1 (hm : mg x = some (.ref g)) (hk : PySem.W.keepIn K (.ref g) = true) (lk : K.lookup g = some ⟨oc, od, .func (PySem.W.fnOf x x pg bg sg dV kV doc pm an cdv ct), osl⟩) (hcg : PySem.W.codeIn K cdv x = true) (hb : L2.Binds K (PySem.W.fnOf x x pg bg sg dV kV doc pm an cdv ct) ["call"] [])
    (Sg : FnScope ["call", "found", "e"] ["call"] sg) (l0 : sg.names.lookup ("call" : Str) = some .local) (l1 : sg.names.lookup ("found" : Str) = some .local) (l2 : sg.names.lookup ("e" : Str) = some .local) (hlen : ∀ a ∈ hs, a.2.2.length ≤ 1)
    (hH : ∀ A outer s H E, HdsR (zcx P w K mg base x sg g cdv A outer s H E) (h0 :: hds) hs)
    (hbg : bg = [.Assign [.Name "found" q1] (.List [] q2) q3, .Try [.Expr (.Call (.Name "call" q4) [] [] q5) q6] (h0 :: hds) [] [] q7, .Return (some (.Name "found" q8)) q9]) :
    CloOk P w K mg base kb (kb + 2) x (TT1 K hs) := by
  refine ⟨g, hm, hk, fun X pins σ H s f c' t A' stack' s' H' Q E z1 z2 z3 z4 z5 LA AB e0 hG hr hc hT => ?_⟩
  refine run_ofS (N := ["call", "found", "e"]) (ps := ["call"]) (us := [.ref f]) (vs := [.ref f]) lk hcg Sg hr e0 (hb s' [.ref f] (e0.mod.kin.keeps fun b o e => (e0.bs b o e).1) rfl) (.cons rfl .nil) rfl fun hr' => ?_
  have vis0 : Vis sg "call" := .inl l0
  have tk0 : Takes (zcx P w K mg base x sg g cdv A' stack' s' H' E) (fun cls d _ H => E cls d H) := takes_of rfl rfl rfl rfl
  have st1 := ps_set (X := zcx P w K mg base x sg g cdv A' stack' s' H' E) (i := 1) (x := "found") (pos' := q1) (pos := q3) Sg.nd rfl (.inl l1) (pe_lst (pos := q2) pa_nil) (hf := .inr l1)
  have st2 := ps_try_manyA (X := zcx P w K mg base x sg g cdv A' stack' s' H' E) (n := "e") (i := 2) (pos := q7) (body := [.Expr (.Call (.Name "call" q4) [] [] q5) q6])
    (tb := fun W D σZ HZ => (∀ cls d H2, ERef K Q E hs cls d H2 → W cls d σZ H2) ∧ σZ[0]? = some (some (.ref f)) ∧ HZ c' = some (CodeO c' (X.env.qual ++ "<lambda>")) ∧ t (ERef K Q E hs) σ HZ (fun _ H2 => D.nx σZ H2)) rfl rfl Sg.nd rfl l2 tk0 (fun W pn xe tk _ => ?_) ((hH A' stack' s' H' E).toA Sg.nd rfl rfl l1 l2)
  · have st3 := ps_ret (X := zcx P w K mg base x sg g cdv A' stack' s' H' E) (pos := q9) (pe_var (i := 1) (x := "found") (pos := q8) rfl (.inl l1))
    rw [hbg]
    refine ⟨_, pss_cons st1 (pss_cons st2 (pss_one st3)), ?_⟩
    show _ ∧ ∀ p, H' p = none → _
    refine ⟨by simp [sizeLine_eq], fun p hp => ?_⟩
    refine ⟨fun cls d H2 hE => ?_, rfl, ?_, ?_⟩
    · refine ERef.many (v0 := some (.ref f)) (v1 := some (.ref p)) ?_ (fun _ _ _ _ h => h) hs cls d H2 hlen hE
      intro v H hq
      exact ⟨v, rfl, hq⟩
    · rw [upd_ne (ne_of_none hc hp)]; exact hc
    · have hT2 := hT p hp
      have e : (fun (_ : V) H2 => Q (.ref p) H2) = fun _ H2 => tRet (tVar 1) { nx := fun _ H' => Q .non H', rt := Q } ([some (.ref f), some (.ref p), none] : L2.St) H2 := by
        funext _ H2
        exact propext ⟨fun h => ⟨_, rfl, h⟩, fun ⟨v, h1, h2⟩ => by cases h1; exact h2⟩
      rw [e] at hT2
      exact hT2
  · refine pss_one ⟨fun pins sZ σZ HZ D IZ h => ?_⟩
    have hp := pe_act3 (Z := (zcx P w K mg base x sg g cdv A' stack' s' H' E).tr pn xe) (i := 0) (E := ERef K Q E hs) (p1 := q4) (p2 := q5) LA z1.symm z2.symm z3.symm z4.symm z5.symm (fun pz σz HZ sZ IZ => AB.on IZ rfl rfl rfl rfl rfl) tk hG hr' rfl vis0
    exact (ps_expr (pos := q6) hp).run pins sZ σZ HZ D IZ h
end
end QL
namespace QL
open PySem PySem.Spec L2 LamX
theorem tabL_mk {H : Hp} {P : Addr} {ps : Array Value} (h : H P = some (.tbl ps)) (h2 : TriplesOk ps.toList) (h3 : ∀ (pos : Pos) (cv : Value), codeAmong pos ps.toList = some cv → ∃ c, cv = .ref c ∧ H c = some (CodeO c (lamName P))) : TabL H P := ⟨ps, h, h2, h3⟩
theorem codeO_tbl {c : Addr} {q : Str} : isTbl (CodeO c q) = false := rfl
theorem sameT_tab {H : Hp} {P c : Addr} {ps more : Array Value} (hP : H P = some (.tbl ps)) (nC : H c = none) (hT : TabL (upd (upd H P (.tbl (ps ++ more))) c (CodeO c (lamName P))) P) : SameT H (upd (upd H P (.tbl (ps ++ more))) c (CodeO c (lamName P))) := by
  have kp : ∀ a o, H a = some o → isTbl o = false → upd (upd H P (.tbl (ps ++ more))) c (CodeO c (lamName P)) a = some o := fun a o e ht => by
    rw [upd_ne (ne_of_none e nC), upd_ne (fun z => by rw [z, hP] at e; cases e; cases ht)]
    exact e
  refine ⟨fun a o e ht => kp a o e ht, fun x e => ?_, fun P' t => ?_⟩
  · obtain ⟨a, b⟩ := x
    have na : a ≠ c := fun z => by
      subst z
      cases b with
      | false => exact e nC
      | true =>
        obtain ⟨ps', q⟩ := e
        have q : H a = some (.tbl ps') := q
        rw [nC] at q; cases q
    by_cases h2 : a = P
    · subst h2
      have q : upd (upd H a (.tbl (ps ++ more))) c (CodeO c (lamName a)) a = some (.tbl (ps ++ more)) := by rw [upd_ne na, upd_same]
      cases b with
      | false => exact NN.of q
      | true => exact ⟨_, q⟩
    · have q : upd (upd H P (.tbl (ps ++ more))) c (CodeO c (lamName P)) a = H a := by rw [upd_ne na, upd_ne h2]
      cases b with
      | false => show _ ≠ none; rw [q]; exact e
      | true =>
        obtain ⟨ps', q'⟩ := e
        exact ⟨ps', by rw [q]; exact q'⟩
  · by_cases h2 : P' = P
    · rw [h2]; exact hT
    · obtain ⟨ps', a1, a2, a3⟩ := t
      refine ⟨ps', by rw [upd_ne (ne_of_none a1 nC), upd_ne h2]; exact a1, a2, fun p cv hcv => ?_⟩
      obtain ⟨c0, e1, e2⟩ := a3 p cv hcv
      exact ⟨c0, e1, kp _ _ e2 codeO_tbl⟩
section
variable {X : Cx} {pins : List (Addr × Obj)} {σ : L2.St} {H : Hp} {s : Shared}
theorem lam_make3 {c P : Addr} {params : Arguments} {body : Expr} {scope : Scope} {pos : Pos} {E : Value → Shared → Prop} {Q : Value → Shared → Prop} (I : L2.Inv X pins σ H s) (TB : TabB X.base X.mg c P) (hcode : X.env.code = .ref c)
    (hq : lamName P = X.env.qual ++ "<lambda>") (hT : TabL H P) (hdef : defaultsOf params X.env = ([], [])) (hfree : ∀ y ∈ scope.names, y.2 = .free → ∃ c, X.env.cells.lookup y.1 = some c)
    (h : ∀ (f c' : Addr) (pm ctv : Value) (H1 : Hp) (s' : Shared), L2.Inv X pins σ H1 s' → SameT H H1 →
      s'.heap.get? f = some (PySem.W.kla_obj "<lambda>" (X.env.qual ++ "<lambda>") params body scope (cloFrom X.env.cells scope.names []) pm c' ctv) → H1 f = none → f ∉ frs X.stack → H1 c' = some (CodeO c' (X.env.qual ++ "<lambda>")) → s.heap.objs.size ≤ s'.heap.objs.size → Q (.ref f) s') :
    wpAny (model X.prog X.w) X.A (eval (.Lambda params body scope pos) X.env) Q E s := by
  obtain ⟨ps, hP, ht, ha⟩ := id hT
  have nofr : ∀ f, s.heap.objs.size ≤ f → f ∉ frs X.stack := fun f hf z => by
    rcases List.mem_cons.mp (I.stkSub _ z) with e | e
    · have h1 := I.lt
      rw [← e] at h1
      exact Nat.lt_irrefl _ (Nat.lt_of_lt_of_le h1 hf)
    · exact I.nofs hf e
  refine PySem.W.kla_eval hdef ?_
  cases hc : codeAmong pos ps.toList with
  | some cv =>
    obtain ⟨c', e, hco⟩ := ha pos cv hc
    subst e
    rw [hq] at hco
    refine PySem.W.kla_makeFunctionHit (mg := X.mg) (c := c) (P := P) (ps := ps) (closure_ok hfree) I.ok.glob (I.mod.glob.keeps I.bk) hcode (TB.code.keeps I.bk) (I.hok P _ hP) ht hc (TB.bm.keeps I.bk) fun ctv h' tk hx hsz => ?_
    exact h h'.objs.size c' _ ctv H _ (I.kept fun b o e => Heap.get?_push_of_some _ (hx b o e)) (SameT.refl H) (Heap.get?_push_size _ rfl) (I.hok.fresh hsz) (nofr _ hsz) hco (Nat.le_trans hsz (by rw [Heap.size_push]; exact Nat.le_succ _))
  | none =>
    refine PySem.W.kla_makeFunction (mg := X.mg) (c := c) (P := P) (ps := ps) (closure_ok hfree) I.ok.glob (I.mod.glob.keeps I.bk) hcode (TB.code.keeps I.bk) (I.hok P _ hP) ht hc TB.gP (TB.bm.keeps I.bk) fun c' ctv h' tk hx hge hlt hrec htb => ?_
    obtain ⟨c2, oc, vs, t, e2, hoc, hd, hv⟩ := hrec
    cases e2
    have hsz : s.heap.objs.size ≤ h'.objs.size := Nat.le_trans hge (Nat.le_of_lt hlt)
    have nC : H c' = none := I.hok.fresh hge
    have I1 := inv_table (t' := tk) (more := #[rawInt pos.line, rawInt pos.col, .ref c']) (h' := h'.push (PySem.W.kla_obj "<lambda>" (X.env.qual ++ "<lambda>") params body scope (cloFrom X.env.cells scope.names []) ((X.mg "__name__").getD .none) c' ctv)) I hP
      (fun b o hb e => Heap.get?_push_of_some _ (hx b o hb e)) (Heap.get?_push_of_some _ htb) hge ⟨oc, vs, t, Heap.get?_push_of_some _ hoc, hd, hv⟩
    have tl : TabL (upd (upd H P (.tbl (ps ++ #[rawInt pos.line, rawInt pos.col, .ref c']))) c' (CodeO c' (lamName P))) P := by
      have eL : (ps ++ #[rawInt pos.line, rawInt pos.col, .ref c']).toList = ps.toList ++ [rawInt pos.line, rawInt pos.col, .ref c'] := by simp
      refine tabL_mk (by rw [upd_ne (ne_of_none hP nC), upd_same]) (by rw [eL]; exact PySem.TriplesOk_snoc _ _ _ _ ht) fun p' cv hcv => ?_
      rw [eL] at hcv
      rcases among_app _ ht hcv with z | z
      · obtain ⟨c0, e1, e2⟩ := ha p' cv z
        refine ⟨c0, e1, ?_⟩
        rw [upd_ne (ne_of_none e2 nC), upd_ne (fun z => by rw [z, hP] at e2; exact codeO_ne ps (Option.some.inj e2).symm)]
        exact e2
      · exact ⟨c', z, upd_same⟩
    have sT := sameT_tab (more := #[rawInt pos.line, rawInt pos.col, .ref c']) hP nC tl
    rw [hq] at sT
    refine h h'.objs.size c' ((X.mg "__name__").getD .none) ctv _ _ I1 sT (Heap.get?_push_size _ rfl) ?_ (nofr _ hsz) upd_same (Nat.le_trans hsz (by rw [Heap.size_push]; exact Nat.le_succ _))
    rw [upd_ne (Nat.ne_of_gt hlt), upd_ne (Nat.ne_of_gt (Nat.lt_of_lt_of_le (Heap.lt_size (show s.heap.get? P = _ from I.hok P _ hP)) hsz))]
    exact I.hok.fresh hsz
end
/-- the reading of x(lambda: ..) -/
def tLam3 (P : Addr) (TT : TTx) (W : WX) (t : XK → TE) : TE := fun σ H Q => TabL H P ∧ ∀ H1, SameT H H1 → TT (fun E H' Q' => t E σ H' Q') H1 Q fun cls d H => W cls d σ H
section
variable {X : Cx} {W : WX} {kb k : Nat} {x : Str} {TT : TTx} {c P : Addr} {params : Arguments} {body : Expr} {scope : Scope} {t : XK → TE} {p lpos pos : Pos}
theorem pe_lamcall3 (C : CloOk X.prog X.w X.K X.mg X.base kb k x TT) (TB : TabB X.base X.mg c P) (hcode : X.env.code = .ref c) (hq : lamName P = X.env.qual ++ "<lambda>") (hG : X.A.guards = some []) (hr : Room k X.A) (tk : Takes X W) (hg : Gl X x) (L : LamS X.env.scope scope) (hdef : defaultsOf params X.env = ([], []))
    (hbind : ∀ (q : Str) (cl : List (Str × Addr)) (pm cv ctv : Value), bindArgs (PySem.W.kla_fn "<lambda>" q params body scope cl pm cv ctv) ⟨[], []⟩ = pure [])
    (hbody : ∀ (A : Around) (outer : List Env) (s : Shared) (H : Hp) (E : XK) (f c' : Addr), A.guards = some [] → Room kb (A.deeper (lamEnv X scope s.heap.objs.size f c')) → PE (lamCx X A outer s H E scope f c') body (t E))
    (hdb : (x == ("__debug__" : Str)) = false := by decide) : PE X (.Call (.Name x p) [.Lambda params body scope lpos] [] pos) (tLam3 P TT W t) := by
  obtain ⟨g, hm, hk, run⟩ := C.ex
  refine ⟨fun pins s σ H Q I h => ?_⟩
  obtain ⟨hT, h⟩ := h
  refine wpAny_Call_Name_kw (ld_glob I hg hm ?_ hdb)
  refine PySem.W.callWith_K (h₀ := X.base) I.ok.mod.kin hk ?_ (by rfl) (by rfl)
  show wpAny _ _ (spliced ((false, eval (.Lambda params body scope lpos) X.env) :: backTo pos (starEach [] X.env))) _ _ s
  refine Calls.spliced_cons (lam_make3 I TB hcode hq hT hdef (L.has I.ok) fun f c' pm' ctv H1 s' I1 sT hf hfn hfr hco hsz => ?_)
  refine Calls.spliced_nil ⟨I1.kIn, ?_⟩
  refine wpAny_call (codeAny_mono (run X pins σ H1 s' f c' t X.A X.stack s' H1 Q (fun cls d H => W cls d σ H) rfl rfl rfl rfl rfl
    ⟨I1, params, body, scope, pm', ctv, L, hf, hfn, hfr, hbind _ _ _ _ _, fun A outer s H E hg2 hr2 => hbody A outer s H E f c' hg2 hr2⟩ ⟨Un.refl, fun b hb => .inl hb, Nat.le_refl _⟩ I1.env0 hG hr hco (h H1 sT)) fun r s2 hq2 => ?_)
  cases r with
  | error e => exact tk e s2 (XE.of_call I1 (fun cls d H' h => h) hq2)
  | ok fl =>
    cases fl with
    | ret u => exact I1.after hq2
    | next => exact False.elim hq2
    | brk => exact False.elim hq2
    | cont => exact False.elim hq2
end
/-- how an error is told: its name, the field, the words ahead -/
abbrev HM := Str × Str × List Str
def tellR : List HM → Str → List (Str × D) → Option (List D)
  | [], _, _ => none
  | (x, n, tag) :: r, c, f => if c = x then (f.lookup n).map fun d => tag.map .str ++ [d] else tellR r c f
def refIn (hs : List HM) : Res SV → Res SV
  | .ok _ r' => .ok (.ol []) r'
  | .exc c f r' => (match tellR hs c f with
    | some ds => .ok (.ol ds) r'
    | none => .bad)
  | .bad => .bad
def fRef (P : Addr) (hs : List HM) (FB : QL.S → Res SV) : QL.S → Res SV := fun r => match r.sl[0]? with
  | some (some (SV.scr T)) => if P ∈ T then refIn hs (FB r) else .bad
  | _ => .bad
/-- the classes that may be met: each by its name alone -/
def ExT (K : PySem.W.Frag) (mg : Str → Option Value) (L : List (Str × Addr)) : Prop := ∀ a ∈ L, mg a.1 = some (.ref a.2) ∧ ∀ b ∈ L, PySem.W.exmOne K (.ref a.2) (.ref b.2) = some (decide (a.1 = b.1))
/-- name, class, field, words -/
abbrev HL := Str × Addr × Str × List Str
def HL.m (a : HL) : HM := (a.1, a.2.2.1, a.2.2.2)
def HL.r (a : HL) : HR := a.2
def HL.c (a : HL) : Str × Addr := (a.1, a.2.1)
section
variable {K : PySem.W.Frag} {mg : Str → Option Value} {W : WX} {γ : Gh} {Oc : List Addr} {r r' : QL.S} {σ : L2.St} {H H' : Hp} {fs fs' : List Addr}
theorem lookup_rel {O : List Addr} : ∀ {ws : List (Str × V)} {f : List (Str × D)} {n : Str} {d : D}, ws.map (·.1) = f.map (·.1) → Rs K O H (f.map (·.2)) (ws.map (·.2)) → f.lookup n = some d → ∃ v, ws.lookup n = some v ∧ R K O H d v
  | [], [], n, d, _, _, h => by cases h
  | [], _ :: _, n, d, h1, _, _ => by simp at h1
  | _ :: _, [], n, d, h1, _, _ => by simp at h1
  | (a, v) :: ws, (b, e) :: f, n, d, h1, h2, h3 => by
    simp only [List.map_cons, List.cons.injEq] at h1
    obtain ⟨e1, h1⟩ := h1
    simp only [List.map_cons, Rs] at h2
    obtain ⟨v', ws', e2, h4, h2⟩ := h2
    cases e2
    have e1 : a = b := e1
    subst e1
    simp only [List.lookup] at h3 ⊢
    split at h3
    · cases h3
      exact ⟨v, rfl, h4⟩
    · exact lookup_rel h1 h2 h3
theorem Rs.tag {O : List Addr} {d : D} {v : V} (h : R K O H d v) : ∀ tag : List Str, Rs K O H (tag.map PyData.str ++ [d]) (tag.map V.str ++ [v])
  | [] => by simp only [List.map_nil, List.nil_append, Rs]; exact ⟨v, [], rfl, h, rfl⟩
  | w :: r => by
    simp only [List.map_cons, List.cons_append, Rs]
    exact ⟨_, _, rfl, by simp only [R], Rs.tag h r⟩
theorem ERef.tell {Q : VK} {E : XK} {c : Str} {f : List (Str × D)} {ds : List D} {C : Addr} {d : Option Addr} (mc : mg c = some (.ref C)) (g : Good K γ Oc r' σ H' fs') (hx : XR K (fs' ++ Oc) H' f d)
    (hq : ∀ y H2, PV K γ Oc r' σ H' fs' H2 (.ol ds) y → Q y H2) : ∀ hs : List HL, ExT K mg (hs.map HL.c) → tellR (hs.map HL.m) c f = some ds → ERef K Q E (hs.map HL.r) (.ref C) d H'
  | [], _, h => by cases h
  | (x, C2, n, tag) :: rest, ht, h => by
    have ok : ∀ a ∈ ((x, C2, n, tag) :: rest : List HL), a.1 = c → a.2.1 = C := fun a ha e => by
      have := (ht (HL.c a) (List.mem_map_of_mem ha)).1
      rw [show (HL.c a).1 = c from e, mc] at this
      cases this; rfl
    have hin : ∃ a ∈ ((x, C2, n, tag) :: rest : List HL), a.1 = c := by
      have key : ∀ l : List HL, tellR (l.map HL.m) c f = some ds → ∃ a ∈ l, a.1 = c := by
        intro l
        induction l with
        | nil => intro h; cases h
        | cons a l ih =>
          obtain ⟨x, C2, n, tag⟩ := a
          intro h
          by_cases e : c = x
          · exact ⟨(x, C2, n, tag), by simp, e.symm⟩
          · have h : (if c = x then _ else tellR (l.map HL.m) c f) = some ds := h
            rw [if_neg e] at h
            obtain ⟨a, ha, e2⟩ := ih h
            exact ⟨a, by simp [ha], e2⟩
      exact key _ h
    obtain ⟨a0, ha0, ea0⟩ := hin
    have eC := ok a0 ha0 ea0
    have hex := (ht (HL.c a0) (List.mem_map_of_mem ha0)).2 (x, C2) (by simp [HL.c])
    rw [show (HL.c a0).2 = C from eC, show (HL.c a0).1 = c from ea0] at hex
    have h : (if c = x then (f.lookup n).map (fun d => tag.map PyData.str ++ [d]) else tellR (rest.map HL.m) c f) = some ds := h
    refine ⟨decide (c = x), hex, fun hb => ?_, fun hb => ?_⟩
    · have e := of_decide_eq_true hb
      rw [if_pos e] at h
      obtain ⟨dv, e1, e2⟩ := Option.map_eq_some_iff.mp h
      have e3 : C2 = C := ok (x, C2, n, tag) (by simp) e.symm
      refine ⟨by rw [e3], ?_⟩
      rcases hx with z | ⟨dd, ws, q1, q2, q3, q4⟩
      · rw [z] at e1; cases e1
      · obtain ⟨v, l1, l2⟩ := lookup_rel q3 q4 e1
        refine ⟨dd, ws, v, q1, q2, l1, fun q hq2 => ?_⟩
        subst e2
        exact ovq_of (z := .nl (tag.map PyData.str ++ [dv])) g hq q _ hq2 (Rs.tag l2 tag)
    · have e := of_decide_eq_false hb
      rw [if_neg e] at h
      exact ERef.tell mc g hx hq rest (fun a ha => ⟨(ht a (by simp [ha])).1, fun b hb => (ht a (by simp [ha])).2 b (by simp [hb])⟩) h
theorem ERef.app {Q : VK} {E : XK} : ∀ (h1 h2 : List HR), ERef K Q (ERef K Q E h2) h1 = ERef K Q E (h1 ++ h2)
  | [], h2 => rfl
  | (C, n, tag) :: r, h2 => by
    funext cls d H'
    show (∃ b, _) = (∃ b, _)
    rw [ERef.app r h2]
    rfl
theorem ref_core {tB : XK → TE} {FB : QL.S → Res SV} {hs : List HL} {E : XK} {Q : VK} {Pr : List Addr} {p : Addr} {Hp1 : Hp} (ht : ExT K mg (hs.map HL.c)) (hB : ∀ E : XK, Sim K mg (fun cls d _ H => E cls d H) (PV K) (tB E) FB) (g : Good K γ Oc r σ H fs)
    (sT : SameT H Hp1) (fr : ∀ a ∈ Pr ++ [p], H a = none) (nd : (Pr ++ [p]).Nodup) (own : Own (Pr ++ [p]) Hp1) (hl : Hp1 p = some (.lst [])) :
    match refIn (hs.map HL.m) (FB r) with
    | .ok x r' => (∀ y H', PV K γ Oc r' σ H fs H' x y → Q y H') → tB (ERef K Q E (hs.map HL.r)) σ Hp1 fun _ H2 => Q (.ref p) H2
    | _ => True := by
  have g1 : Good K γ ((Pr ++ [p]) ++ Oc) r σ Hp1 fs := g.grow sT fr nd own
  have z := hB (ERef K Q E (hs.map HL.r)) γ ((Pr ++ [p]) ++ Oc) r σ Hp1 fs g1 fun _ H2 => Q (.ref p) H2
  have np : p ∉ fs := fun z => (List.nodup_append.mp g1.nd).2.2 p z p (by simp) rfl
  cases eF : FB r with
  | bad => trivial
  | ok x r1 =>
    rw [eF] at z
    intro hq
    refine z fun y H2 ⟨fs2, fp, g2, v2, s2, n2⟩ => hq _ _ ?_
    have hl2 : H2 p = some (.lst []) := s2.keep p _ hl fun _ => np
    have g3 : Good K γ (Pr ++ ([p] ++ Oc)) r1 σ H2 fs2 := by
      have := g2.drop
      rwa [List.append_assoc] at this
    have g4 : Good K γ ([p] ++ Oc) r1 σ H2 fs2 := g3.drop
    exact ⟨fs2, [p], g4, ⟨p, [], rfl, hl2, by simp [Rs], rfl⟩, (Stp.same _ _ sT).trans s2, by simpa using fr p (by simp)⟩
  | exc c f r1 =>
    rw [eF] at z
    unfold refIn
    dsimp only
    cases et : tellR (hs.map HL.m) c f with
    | none => trivial
    | some ds =>
      dsimp only
      intro hq
      refine z fun C d H2 xp => ?_
      obtain ⟨fs2, g2, s2, mc, hx⟩ := xp
      have g3 : Good K γ Oc r1 σ H2 fs2 := g2.drop
      have hx2 : XR K (fs2 ++ Oc) H2 f d := xr_sub g2.ow (fun a z => by
        simp only [List.mem_append] at z ⊢
        rcases z with z | z <;> simp [z]) hx
      exact ERef.tell mc g3 hx2 (fun y H3 pv => hq y H3 (PstT.tr ((Stp.same _ _ sT).trans s2) pv)) hs ht et
theorem own_lst {Pr : List Addr} {p : Addr} (o : Own Pr H) (hp : H p = none) : Own (Pr ++ [p]) (upd H p (.lst [])) := fun a ha => by
  by_cases e : a = p
  · rw [e]; exact ⟨_, upd_same, trivial⟩
  · rcases List.mem_append.mp ha with z | z
    · obtain ⟨u, h, l⟩ := o a z
      exact ⟨u, by rw [upd_ne e]; exact h, l⟩
    · simp at z; exact absurd z e
theorem SameT.non {H H1 : Hp} (s : SameT H H1) {a : Addr} (h : H1 a = none) : H a = none := by
  cases e : H a with
  | none => rfl
  | some o => exact absurd h (s.th (a, false) (NN.of e))
variable {P : Addr} {tB : XK → TE} {FB : QL.S → Res SV}
theorem Good.tabP {T : List Addr} (g : Good K γ Oc r σ H fs) (e : r.sl[0]? = some (some (SV.scr T))) (h : P ∈ T) : TabL H P := by
  obtain ⟨v, f, _, h2⟩ := g.slotV e
  obtain ⟨⟨_, e2, _⟩, _⟩ := h2
  subst e2
  exact g.tt.2 P h
theorem sim_ref1 {hs : List HL} (ht : ExT K mg (hs.map HL.c)) (hB : ∀ E : XK, Sim K mg (fun cls d _ H => E cls d H) (PV K) (tB E) FB) : Sim K mg W (PV K) (tLam3 P (TT1 K (hs.map HL.r)) W tB) (fRef P (hs.map HL.m) FB) := by
  intro γ Oc r σ H fs g
  unfold fRef
  split
  · rename_i T e0
    split
    · rename_i hP
      have tl := g.tabP e0 hP
      intro Q
      have core := fun (H1 : Hp) (sT : SameT H H1) (p : Addr) (hp : H1 p = none) => ref_core (Q := Q) (E := fun cls d H => W cls d σ H) (Pr := []) (p := p) (Hp1 := upd H1 p (.lst [])) ht hB g (sT.trans (SameT.of (upd_kept (o := .lst []) hp))) (by simpa using sT.non hp) (by simp) (own_lst (Pr := []) (by simp [Own]) hp) upd_same
      cases e : refIn (hs.map HL.m) (FB r) with
      | bad => trivial
      | exc c f r' => exact absurd e (by
          cases FB r with
          | ok x r1 => intro z; cases z
          | bad => intro z; cases z
          | exc c f r1 =>
            unfold refIn
            dsimp only
            split
            · intro z; cases z
            · intro z; cases z)
      | ok x r' =>
        intro hq
        refine ⟨tl, fun H1 sT p hp => ?_⟩
        have := core H1 sT p hp
        rw [e] at this
        exact this hq
    · exact fun Q => trivial
  · exact fun Q => trivial
variable {X : Cx} {kb k : Nat} {x : Str} {c : Addr} {params : Arguments} {body : Expr} {scope : Scope} {t : XK → TE} {p lpos pos : Pos}
/-- the wish within a lambda's body -/
abbrev WL (E : XK) : WX := fun cls d _ H => E cls d H
theorem lam_takes {A : Around} {outer : List Env} {s : Shared} {E : XK} {f c' : Addr} : Takes (lamCx X A outer s H E scope f c') (WL E) := takes_of rfl rfl rfl rfl
theorem ex_ref1 {hs : List HL} (C : CloOk X.prog X.w X.K X.mg X.base kb k x (TT1 X.K (hs.map HL.r))) (ht : ExT X.K X.mg (hs.map HL.c)) (TB : TabB X.base X.mg c P) (hcode : X.env.code = .ref c) (hq : lamName P = X.env.qual ++ "<lambda>") (hG : X.A.guards = some []) (hr : Room k X.A) (tk : Takes X W)
    (hB : ∀ (A : Around) (outer : List Env) (s : Shared) (H : Hp) (E : XK) (f c' : Addr), A.guards = some [] → Room kb (A.deeper (lamEnv X scope s.heap.objs.size f c')) → Takes (lamCx X A outer s H E scope f c') (WL E) → EX (lamCx X A outer s H E scope f c') (WL E) body (t E) FB)
    (hk : kb + 1 ≤ k := by decide) (hg : Gl X x := by rfl) (L : LamS X.env.scope scope := by exact LamX.lamS_by (by decide +kernel)) (hdef : defaultsOf params X.env = ([], []) := by rfl)
    (hbind : ∀ (q : Str) (cl : List (Str × Addr)) (pm cv ctv : Value), bindArgs (PySem.W.kla_fn "<lambda>" q params body scope cl pm cv ctv) ⟨[], []⟩ = pure [] := by exact fun _ _ _ _ _ => rfl)
    (hdb : (x == ("__debug__" : Str)) = false := by decide) : EX X W (.Call (.Name x p) [.Lambda params body scope lpos] [] pos) (tLam3 P (TT1 X.K (hs.map HL.r)) W t) (fRef P (hs.map HL.m) FB) :=
  ⟨pe_lamcall3 C TB hcode hq hG hr tk hg L hdef hbind (fun A outer s H E f c' hg2 hr2 => (hB A outer s H E f c' hg2 hr2 lam_takes).pe) hdb, sim_ref1 ht fun E => (hB X.A X.stack X.s_0 X.H_0 E 0 0 hG ((hr.mono hk).deeper _) lam_takes).sim⟩
end
end QL
namespace QL
open PySem PySem.Spec L2 LamX
/-- what is tracked at the law's start: the tables ts, all empty; the script, where it is no object of the program -/
def OnlyT (ts : List Addr) (H : Hp) : Prop := (∀ P ∈ ts, H P = some (.tbl #[])) ∧ ∀ b, H b = none ∨ b ∈ ts ∨ ∃ o xs, H b = some (.frz o (.lst xs))
theorem OnlyT.tabs {ts : List Addr} {H : Hp} (h : OnlyT ts H) : TabsL ts H := fun P hP => TabS.nil (h.1 P hP)
section
variable {P : Program} {w : World} {K : PySem.W.Frag} {mg mb : Str → Option Value} {k : Nat} {fa a : Addr} {cs : List (Addr × Addr)} {fd : FuncData} {x : Str} {sp : Sp} {s1 : Shared} {vs : List Value} {ns : List Int}
structure Heap1 (P : Program) (w : World) (K : PySem.W.Frag) (h : Heap) (a : Addr) (ns : List Int) (ts : List Addr) (H : Hp) : Prop where
  only : OnlyT ts H
  seq : SqL K H a (ns.map V.int)
  ok : HOk P w H h
  at_ : ∀ b, H b ≠ none → b = a ∨ b ∈ ts
  nk : H a ≠ none → K.lookup a = none
theorem heap1 {ts : List Addr} (kin : K.In s1.heap) (hT : ∀ P ∈ ts, s1.heap.get? P = some { cls := .none, data := .fields #[] }) (ha : s1.heap.get? a = some { cls := .type "list", data := .seq vs.toArray }) (hi : PyProof.Rows.IntsAre vs ns) (hl : ns.length ≤ sizeLine) : ∃ H, Heap1 P w K s1.heap a ns ts H := by
  have rv : Vals (ns.map V.int) vs := vals_ints hi
  have hvl : vs.length = ns.length := hi.length
  have aT : a ∉ ts := fun z => by
    have q := hT a z
    rw [ha] at q
    have z' : Data.seq vs.toArray _ = Data.fields #[] := congrArg Obj.data (Option.some.inj q)
    cases z'
  cases hk : K.lookup a with
  | some ob =>
    have e := kin a ob hk
    rw [ha] at e
    cases e
    have at1 : ∀ b u, (if b ∈ ts then some (HO.tbl #[]) else none) = some u → b ∈ ts ∧ u = .tbl #[] := fun b u z => by
      by_cases hb : b ∈ ts
      · rw [if_pos hb] at z; cases z; exact ⟨hb, rfl⟩
      · rw [if_neg hb] at z; cases z
    refine ⟨fun b => if b ∈ ts then some (.tbl #[]) else none, ⟨fun P hP => if_pos hP, fun b => ?_⟩, .inr ⟨_, vs.toArray, _, hk, rfl, rfl, rfl, by rw [List.size_toArray, hvl]; exact hl, by simpa using rv⟩, fun b u z => ?_, fun b z => ?_, fun z => absurd (if_neg aT) z⟩
    · by_cases hb : b ∈ ts
      · exact .inr (.inl hb)
      · exact .inl (if_neg hb)
    · obtain ⟨hb, e⟩ := at1 b u z
      subst e
      exact hT b hb
    · by_cases hb : b ∈ ts
      · exact .inr hb
      · exact absurd (if_neg hb) z
  | none =>
    refine ⟨fun b => if b = a then some (.frz { cls := .type "list", data := .seq vs.toArray } (.lst (ns.map V.int))) else if b ∈ ts then some (.tbl #[]) else none, ⟨fun P hP => (if_neg (fun z : P = a => aT (z ▸ hP))).trans (if_pos hP), fun b => ?_⟩, .inl (.inr ⟨{ cls := .type "list", data := .seq vs.toArray }, if_pos rfl⟩), fun b u z => ?_, fun b z => ?_, fun _ => hk⟩
    · by_cases hb : b = a
      · exact .inr (.inr ⟨_, _, if_pos hb⟩)
      · by_cases h2 : b ∈ ts
        · exact .inr (.inl h2)
        · exact .inl ((if_neg hb).trans (if_neg h2))
    · by_cases hb : b = a
      · have y := (if_pos hb).symm.trans z
        cases y
        subst hb
        exact ⟨ha, by rw [List.length_map]; exact hl, vs, _, rv, ha⟩
      · have y := (if_neg hb).symm.trans z
        by_cases h2 : b ∈ ts
        · have y2 := (if_pos h2).symm.trans y
          cases y2
          exact hT b h2
        · have y2 := (if_neg h2).symm.trans y
          cases y2
    · by_cases hb : b = a
      · exact .inl hb
      · by_cases h2 : b ∈ ts
        · exact .inr h2
        · exact absurd ((if_neg hb).trans (if_neg h2)) z
theorem law_callGT (kin : K.In s1.heap) (hns : s1.heap.Ns mainGlobals mg) (hb : s1.heap.Ns builtinsNs mb) (hbb : ∀ y : Str, y ≠ "__name__" → mb y = bootBuiltins y) (hlim : s1.heap.NoLimit) (hg : s1.gens = #[])
    (hT : ∀ p ∈ cs, s1.heap.get? p.2 = some { cls := .none, data := .fields #[] }) (nT : ∀ p ∈ cs, K.lookup p.2 = none) (C : ∀ p ∈ cs, PySem.W.CodeHd s1.heap p.1 p.2)
    (hbm : ∃ (bm : Addr) (ob : Obj), mg "__builtins__" = some (.ref bm) ∧ bm ≠ builtinsNs ∧ s1.heap.get? bm = some ob ∧ ob.cls = .type "module" ∧ ob.dict = some builtinsNs ∧ ob.data = .plain)
    (ha : s1.heap.get? a = some { cls := .type "list", data := .seq vs.toArray }) (hi : PyProof.Rows.IntsAre vs ns) (hl : ns.length ≤ sizeLine) (hr : Room k PySem.callerA)
    (F : ∀ base : Heap, K.In base → base.Ns mainGlobals mg → (∀ p ∈ cs, TabB base mg p.1 p.2) → FnG P w K mg base k fa fd [x] sp) (hbind : ∀ (s : Shared) (u : Value), BindsTo s fd ⟨[u], []⟩ [(x, u)])
    (hsp : ∀ H : Hp, OnlyT (cs.map (·.2)) H → SqL K H a (ns.map V.int) → sp [.ref a] H (fun v _ => v = .bl true) fun _ _ _ => False) :
    codeAny (model P w) PySem.callerA (.call (.ref fa) ⟨[.ref a], []⟩) (fun r s' => r = .ok (.ret (.bool true)) ∧ OldK s1.heap s'.heap ∧ s'.os = s1.os ∧ PyProof.Rows.AllBare s'.gens) s1 := by
  have tb : ∀ b ∈ cs.map (·.2), s1.heap.get? b = some { cls := .none, data := .fields #[] } := fun b h => by
    obtain ⟨p, hp, e⟩ := List.mem_map.mp h
    rw [← e]; exact hT p hp
  obtain ⟨H, Z⟩ := heap1 (P := P) (w := w) kin tb ha hi hl
  have keep : ∀ {b : Addr} {o : Obj}, s1.heap.get? b = some o → H b = none → (hidT s1.heap H).get? b = some o := fun e n => hidT_get e n
  -- an object that is neither a row nor a bare record is not tracked
  have free : ∀ {b : Addr} {o : Obj}, s1.heap.get? b = some o → (∀ vs n, o.data ≠ .seq vs n) → o.data ≠ .fields #[] → H b = none := fun {b o} e h1 h2 => by
    cases q : H b with
    | none => rfl
    | some u =>
      rcases Z.at_ b (by rw [q]; simp) with z | z
      · rw [z, ha] at e; cases e
        exact absurd rfl (h1 _ _)
      · rw [tb b z] at e; cases e
        exact absurd rfl h2
  have nsk : ∀ {b : Addr} {m : Str → Option Value}, s1.heap.Ns b m → (hidT s1.heap H).Ns b m := fun {b m} ⟨o, es, ep, e, d, rest⟩ => ⟨o, es, ep, keep e (free e (fun _ _ z => by rw [d] at z; cases z) (fun z => by rw [d] at z; cases z)), d, rest⟩
  have kin2 : K.In (hidT s1.heap H) := fun b o e => keep (kin b o e) (by
    cases q : H b with
    | none => rfl
    | some u =>
      rcases Z.at_ b (by rw [q]; simp) with z | z
      · rw [z] at e q
        rw [Z.nk (by rw [q]; simp)] at e; cases e
      · obtain ⟨p, hp, ep⟩ := List.mem_map.mp z
        rw [← ep, nT p hp] at e; cases e)
  obtain ⟨mc, l1, l2⟩ := hlim
  have md : Mod K mg (hidT s1.heap H) := ⟨kin2, nsk hns, ⟨mb, nsk hb, hbb⟩, mc, nsk l1, l2⟩
  have TB : ∀ p ∈ cs, TabB (hidT s1.heap H) mg p.1 p.2 := fun p hp => by
    refine ⟨?_, ?_, fun z => ?_⟩
    · obtain ⟨o, us, file, tf, flags, tg, inF, text, tt, e1, r1, r2, r3, r4, r5, r6, r7, r8, hne⟩ := C p hp
      exact ⟨o, us, file, tf, flags, tg, inF, text, tt, keep e1 (free e1 (fun _ _ z => by rw [r2] at z; cases z) (fun z => by
        rw [r2] at z
        cases z
        simp at r3)), r1, r2, r3, r4, r5, r6, r7, r8, hne⟩
    · obtain ⟨bm, ob, b1, b2, b3, b4, b5, b6⟩ := hbm
      refine ⟨bm, ob, b1, b2, fun q => ?_, fun q => ?_, keep b3 (free b3 (fun _ _ z => by rw [b6] at z; cases z) (fun z => by rw [b6] at z; cases z)), b4, b5, b6⟩
      · obtain ⟨o, es, ep, e, hd, _⟩ := hns
        rw [q, e] at b3; cases b3
        rw [hd] at b6; cases b6
      · rw [q, hT p hp] at b3; cases b3
        cases b6
    · obtain ⟨o, es, ep, e, hd, _⟩ := hns
      rw [z, hT p hp] at e; cases e
      cases hd
  have e0 : Env0 P w K mg (hidT s1.heap H) PySem.callerA [] s1 H := ⟨rfl, md, fun b o e => of_hidT e, Nat.le_of_eq (hidT_size _ _), trivial, fun b z => absurd (show b ∈ ([] : List Addr) from z) (by simp), Z.ok, .of_eq hg⟩
  refine codeAny_mono ((F _ kin2 (nsk hns) TB).run PySem.callerA [] s1 H ⟨[.ref a], []⟩ [.ref a] [.ref a] _ _ rfl hr e0 (hbind s1 (.ref a)) (.cons rfl .nil) (hsp H Z.only Z.seq)) fun res s' h => ?_
  cases res with
  | error e => exact (cx_none h).elim
  | ok fl =>
    cases fl with
    | next => exact False.elim h
    | brk => exact False.elim h
    | cont => exact False.elim h
    | ret u =>
      obtain ⟨v, H', hos, hbare, un, ok', ru, q⟩ := h
      obtain rfl : v = .bl true := q
      obtain rfl : u = Value.bool true := ru
      have grown : ∀ p ∈ cs, ∃ more : Array Value, s'.heap.get? p.2 = some { cls := .none, data := .fields more } := fun p hp => by
        obtain ⟨more, z⟩ := un.tbls p.2 #[] (Z.only.1 p.2 (List.mem_map_of_mem hp))
        exact ⟨_, ok' p.2 _ z⟩
      have key : ∀ b o, b ∉ cs.map (·.2) → s1.heap.get? b = some o → s'.heap.get? b = some o := fun b o nb e => by
        cases q : H b with
        | none => exact un.keep b o e q (by intro z; exact absurd (show b ∈ ([] : List Addr) from z) (by simp)) (by simp)
        | some u =>
          rcases Z.only.2 b with z | z | ⟨ob, xs, z⟩
          · rw [q] at z; cases z
          · exact absurd z nb
          · obtain ⟨e1, _⟩ := Z.ok b _ z
            obtain ⟨e2, _⟩ := ok' b _ (un.frzs b ob _ z)
            rw [e] at e1; cases e1
            exact e2
      refine ⟨rfl, ⟨fun b o e => ?_, fun b o e => ?_⟩, hos, hbare⟩
      · by_cases hb : b ∈ cs.map (·.2)
        · obtain ⟨p, hp, ep⟩ := List.mem_map.mp hb
          obtain ⟨more, hm⟩ := grown p hp
          rw [← ep] at e ⊢
          rw [hT p hp] at e
          cases e
          exact .inr (.inl ⟨((C p hp).tab (hT p hp)).isCodeTable, rfl, #[], more, rfl, by rw [Array.empty_append]; exact hm⟩)
        · exact .inl (key b o hb e)
      · by_cases hb : b ∈ cs.map (·.2)
        · obtain ⟨p, hp, ep⟩ := List.mem_map.mp hb
          obtain ⟨more, hm⟩ := grown p hp
          rw [← ep]
          exact ⟨_, hm⟩
        · exact ⟨o, key b o hb e⟩
end
/-- the goal that the head leaves, with tables -/
theorem walk_GT {l : PySem.W.OpenLaw} {n k : Nat} {q : Program} {loose : List Str} {XP : (Str → Option Value) → Heap → Prop} {YP : World → Heap → Prop} {d : DefRec} {K : Params → PySem.W.Frag} {sp : World → List Addr → Sp} {x : Str}
    (hn : l.most = some n) (hn2 : n ≤ sizeLine) (hdf : d.params.defaults = []) (hr : Room k PySem.callerA) (hY : ∀ (w : World) (h : Heap), YP w h → (K w.params).In h)
    (F : ∀ (w : World) (mg : Str → Option Value) (fa : Addr) (h : Heap), YP w h → (K w.params).In h → h.Ns mainGlobals mg → mg d.name = some (.ref fa) →
      ∃ (fd : FuncData) (cs : List (Addr × Addr)), (∀ p ∈ cs, h.get? p.2 = some { cls := .none, data := .fields #[] }) ∧ (∀ p ∈ cs, (K w.params).lookup p.2 = none) ∧ (∀ p ∈ cs, PySem.W.CodeHd h p.1 p.2) ∧
        (∀ (s : Shared) (u : Value), BindsTo s fd ⟨[u], []⟩ [(x, u)]) ∧ ∀ base : Heap, (K w.params).In base → base.Ns mainGlobals mg → (∀ p ∈ cs, TabB base mg p.1 p.2) → FnG l.prog w (K w.params) mg base k fa fd [x] (sp w (cs.map (·.2))))
    (hsp : ∀ (w : World) (ts : List Addr) (H : Hp) (a : Addr) (ns : List Int), ns.length ≤ n → (∀ z ∈ ns, bitsI z ≤ 1048576) → OnlyT ts H → SqL (K w.params) H a (ns.map V.int) → sp w ts [.ref a] H (fun v _ => v = .bl true) fun _ _ _ => False) :
    PySem.W.WalkO q loose XP YP l.row.toRowW d [] (fun f vs => PySem.call f vs) := by
  refine Att.attach_callB hn hdf fun w s₀ s₁ mg mb fa o pm cd doc a vs ns G Y ho hd hcd hmg hobj hints hlen hbits hg => ?_
  have kin := hY w _ Y
  obtain ⟨fd, cs, hT, nT, C, hb, hF⟩ := F w mg fa _ Y kin G.T.g hmg
  exact law_callGT kin G.T.g G.T.b G.T.builtins G.T.nolimit hg hT nT C G.T.bmain hobj hints (Nat.le_trans hlen hn2) hr hF hb fun H hO hS => hsp w _ H a ns hlen hbits hO hS
theorem spLaw_ofT {K : PySem.W.Frag} {H : Hp} {a : Addr} {ns : List Int} {ts : List Addr} (hl : ns.length ≤ 63) (hb : ∀ z ∈ ns, bitsI z ≤ 1048576) (hO : OnlyT ts H) (hS : SqL K H a (ns.map V.int)) : spLaw K ts [.ref a] H (fun v _ => v = .bl true) fun _ _ _ => False := by
  refine ⟨a, ns, rfl, hO.tabs, ?_, hl, hb, fun _ => rfl⟩
  rcases hS with (h | h) | h
  · rcases hO.2 a with z | z | ⟨o, xs, z⟩
    · rw [h] at z; cases z
    · have := hO.1 a z
      rw [h] at this; cases this
    · rw [h] at z; cases z
  · exact .inl h
  · exact .inr h
section
variable {P : Program} {w : World} {K : PySem.W.Frag} {mg : Str → Option Value} {base : Heap} {k n : Nat} {f : Addr} {fd : FuncData} {N : List Str} {qual x : Str} {st : Stmt} {B : QL.S → RS} {cap : Int} {T : List Addr}
theorem fg_law2C {G : QL.S → RS} (F : Fun K x qual st f fd) (Sc : FnScope N ["script"] (defScope st)) (hN : N.length = n + 3) (hcap : 0 < cap ∧ cap < 64) (ok : LawOk2 n T B G)
    (hb : ∀ (cdv : Value), fd.code = cdv → ∀ (A : Around) (out : List Env) (s : Shared) (H : Hp) (E : XK), A.guards = some [] → Room k (A.deeper (PyProof.Rows.envOfC qual (defScope st) s.heap.objs.size f cdv)) →
      ∃ tB tE, SimS K mg WN tB B ∧ SimS K mg WN tE G ∧ PSs (cxOf (L2.CX P w) P w K mg base N qual (defScope st) f cdv A out s H E) (defBody st) (tLaw2 K cap tB tE)) : FnG P w K mg base (k + 1) f fd ["script"] (spLaw K T) := by
  refine fg_ofC F Sc (fun vs H Q E h => ?_) fun cdv ec A out s H vs Q E hG hr h => ?_
  · obtain ⟨sc, ns, e, _⟩ := h
    rw [e]; rfl
  · obtain ⟨tB, tE, h1, h2, h3⟩ := hb cdv ec A out s H E hG hr
    exact ⟨_, h3, law_read2 hcap h1 h2 ok h N hN⟩
end
/-- a class's first def -/
def initS : Stmt → Stmt
  | .ClassDef _ _ _ body _ _ _ _ _ _ _ => body.getD 0 (.Pass ⟨0, 0, 0, 0⟩)
  | s => s
section
open PySem.W
variable {P : Program} {w : World} {K : Frag} {mg : Str → Option Value} {base : Heap} {k : Nat} {C fI cc cda : Addr} {qual msg v x : Str} {params : Arguments} {body : List Stmt} {scope : Scope} {ar : Arg} {j : Nat} {p0 p1 p2 p3 p4 p5 p6 p7 p8 p9 : Pos} {oc dV kV doc pm ct : Value} {od an : Option Addr} {osl : Array (Option Value)}
theorem defE_of (hx : mg x = some (.ref C)) (S : SupC P K mg C fI cc cda qual params body scope v) (lk : K.lookup fI = some ⟨oc, od, .func (ksFn "__init__" qual params body scope dV kV doc pm an (.ref cda) ct cc), osl⟩)
    (hbody : body = [.Expr (.Call (.Attribute (.Call (.Name "super" p0) [] [] p1) "__init__" p2) [.Constant (.str msg) j p3] [] p4) p5, .Assign [.Attribute (.Name "self" p6) v p7] (.Name v p8) p9])
    (hp : (params.posonlyargs ++ params.args).head? = some ar) (har : ar.arg = "self") (Sc : NdefX.NScope ["self", v, "__class__"] ["self", v] ["__class__"] scope) (hks : scope.names.lookup ("super" : Str) = some .globalImplicit)
    (hnd : (v == ("__debug__" : Str)) = false) (hnc : (v == ("__classdict__" : Str)) = false)
    {pl : Addr → Sem Bool} (hev : ∀ L, eval (.Call (.Attribute (.Call (.Name "super" p0) [] [] p1) "__init__" p2) [.Constant (.str msg) j p3] [] p4) (callEnv (ksFn "__init__" qual params body scope dV kV doc pm an (.ref cda) ct cc) L fI) = (do
      let ov ← attributeBase (.Call (.Name "super" p0) [] [] p1) "__init__" (callEnv (ksFn "__init__" qual params body scope dV kV doc pm an (.ref cda) ct cc) L fI) (eval (.Call (.Name "super" p0) [] [] p1) (callEnv (ksFn "__init__" qual params body scope dV kV doc pm an (.ref cda) ct cc) L fI))
      standAt p2.atName
      let (f, first) ← holding [ov] (getMethod ov "__init__" (pl L))
      callWith p4 f first (backTo p4 (starEach [.Constant (.str msg) j p3] (callEnv (ksFn "__init__" qual params body scope dV kV doc pm an (.ref cda) ct cc) L fI))) []))
    (hint : ∀ L, interactive (callEnv (ksFn "__init__" qual params body scope dV kV doc pm an (.ref cda) ct cc) L fI) = false) (hsw : ∀ L, swapsWith (.Call (.Attribute (.Call (.Name "super" p0) [] [] p1) "__init__" p2) [.Constant (.str msg) j p3] [] p4) none p5.line (callEnv (ksFn "__init__" qual params body scope dV kV doc pm an (.ref cda) ct cc) L fI) = pure false)
    (hsw2 : ∀ L, swapsWith (.Name v p8) (some (.Attribute (.Name "self" p6) v p7)) p9.line (callEnv (ksFn "__init__" qual params body scope dV kV doc pm an (.ref cda) ct cc) L fI) = pure false)
    (hb : ∀ us : List Value, us.length = 2 → bindArgs (ksFn "__init__" qual params body scope dV kV doc pm an (.ref cda) ct cc) ⟨us, []⟩ = pure ((["self", v] : List Str).zip us)) : DefE P w K mg base x v C :=
  ⟨fI, _, hx, S.T, S.iC, S.tI, fn_sup (k := 0) S lk hp har Sc hks hnd hnc hev hint hsw hsw2 hbody, L2.Binds.all hb⟩
end
end QL
namespace QL
open PySem
mutual
/-- data at a value; a dict stands anywhere but at the modules' own -/
inductive Rdx (h : Heap) : Value → PyData → Prop
  | none : Rdx h .none .none
  | bool (b) : Rdx h (.bool b) (.bool b)
  | int (i t) : Rdx h (.int i t) (.int i)
  | str (x t) : Rdx h (.str x t) (.str x)
  | list {a o vs n xs} : h.get? a = some o → o.cls = .type "list" → o.data = .seq vs n → RdxAll h vs.toList xs → Rdx h (.ref a) (.list xs)
  | tuple {a o vs n xs} : h.get? a = some o → o.cls = .type "tuple" → o.data = .seq vs n → RdxAll h vs.toList xs → Rdx h (.ref a) (.tuple xs)
  | dict {a o es n kvs} : h.get? a = some o → o.cls = .type "dict" → o.data = .dict es n → (a == sysModules) = false → RdxAll h (es.toList.map (·.key)) (kvs.map (·.1)) → RdxAll h (es.toList.map (·.val)) (kvs.map (·.2)) → Rdx h (.ref a) (.dict kvs)
inductive RdxAll (h : Heap) : List Value → List PyData → Prop
  | nil : RdxAll h [] []
  | cons {v vs d ds} : Rdx h v d → RdxAll h vs ds → RdxAll h (v :: vs) (d :: ds)
end
mutual
theorem Rdx.reads {h : Heap} : ∀ {v : Value} {d : PyData}, Rdx h v d → ∃ as, Reads h v d as
  | _, _, .none => ⟨_, .none⟩
  | _, _, .bool b => ⟨_, .bool b⟩
  | _, _, .int i t => ⟨_, .int i t⟩
  | _, _, .str x t => ⟨_, .str x t⟩
  | _, _, .list h1 h2 h3 h4 => let ⟨_, r⟩ := RdxAll.reads h4; ⟨_, .list h1 h2 h3 r⟩
  | _, _, .tuple h1 h2 h3 h4 => let ⟨_, r⟩ := RdxAll.reads h4; ⟨_, .tuple h1 h2 h3 r⟩
  | _, _, .dict h1 h2 h3 _ h4 h5 => let ⟨_, r⟩ := RdxAll.reads h4; let ⟨_, r2⟩ := RdxAll.reads h5; ⟨_, .dict h1 h2 h3 r r2⟩
theorem RdxAll.reads {h : Heap} : ∀ {vs : List Value} {ds : List PyData}, RdxAll h vs ds → ∃ as, ReadsAll h vs ds as
  | _, _, .nil => ⟨_, .nil⟩
  | _, _, .cons r rs => let ⟨_, a⟩ := Rdx.reads r; let ⟨_, b⟩ := RdxAll.reads rs; ⟨_, .cons a b⟩
end
variable {prog : Program} {w : World} {h : Heap}
mutual
theorem reprK_of : ∀ {v : Value} {d : PyData}, Rdx h v d → d.showable = true → d.shown.length ≤ sizeLine → ∃ bs, ReadAtMost h d.depth bs ∧ ReprK prog w bs h d.depth v d.shown
  | _, _, .none, _, _ => ⟨[], (fun _ h => nomatch h), by simp only [PyData.shown]; exact .of_is ReprIs.none _ _ _⟩
  | _, _, .bool b, _, _ => ⟨[], (fun _ h => nomatch h), by simp only [PyData.shown]; exact .of_is (ReprIs.bool b) _ _ _⟩
  | _, _, .int i t, hs, _ => ⟨[], (fun _ h => nomatch h), by simp only [PyData.shown]; exact .of_is (ReprIs.int t (by simpa [PyData.showable] using hs)) _ _ _⟩
  | _, _, .str x t, _, hz => ⟨[], (fun _ h => nomatch h), by simp only [PyData.shown]; exact .of_is (ReprIs.str x t (by simpa only [PyData.shown] using hz)) _ _ _⟩
  | _, _, .list (a := a) (vs := vs) (xs := xs) h1 h2 h3 h4, hs, hz => by
    have hz' : (listText (PyData.shownAll xs)).length ≤ sizeLine := by simpa only [PyData.shown] using hz
    obtain ⟨bs, hb, hk⟩ := reprAllK_of h4 (by simpa [PyData.showable] using hs) (fun t ht => Nat.le_trans (listText_mem_le ht) hz')
    obtain ⟨_, rr⟩ := RdxAll.reads h4
    have r : Reads h (.ref a) (.list xs) _ := .list h1 h2 h3 rr
    have hna : a ∉ bs := not_mem_of_deeper r (by simp only [PyData.depth]; omega) hb
    refine ⟨a :: bs, ReadAtMost.cons r (by simp only [PyData.depth]; omega) hb, ?_⟩
    simp only [PyData.depth, PyData.shown]
    obtain ⟨l⟩ := vs
    cases l with
    | nil =>
      have h4' : RdxAll h [] xs := h4
      cases h4'
      simp only [PyData.shownAll, listText_nil]
      exact ReprK.listEmpty h1 h2 h3
    | cons x l => exact ReprK.list h1 h2 h3 hna (by simpa using hk.length_eq) (fun i y e => hk.item i y (by simpa using e))
  | _, _, .tuple (a := a) (xs := xs) h1 h2 h3 h4, hs, hz => by
    have hz' : (tupleText (PyData.shownAll xs)).length ≤ sizeLine := by simpa only [PyData.shown] using hz
    obtain ⟨bs, hb, hk⟩ := reprAllK_of h4 (by simpa [PyData.showable] using hs) (fun t ht => Nat.le_trans (tupleText_mem_le ht) hz')
    obtain ⟨_, rr⟩ := RdxAll.reads h4
    have r : Reads h (.ref a) (.tuple xs) _ := .tuple h1 h2 h3 rr
    have hna : a ∉ bs := not_mem_of_deeper r (by simp only [PyData.depth]; omega) hb
    refine ⟨a :: bs, ReadAtMost.cons r (by simp only [PyData.depth]; omega) hb, ?_⟩
    simp only [PyData.depth, PyData.shown]
    exact ReprK.tuple h1 h2 h3 hna hk
  | _, _, .dict (a := a) (es := es) (kvs := kvs) h1 h2 h3 hsys h4 h5, hs, hz => by
    have hz' : (dictText (PyData.shownKv kvs)).length ≤ sizeLine := by simpa only [PyData.shown] using hz
    obtain ⟨hs1, hs2⟩ := PyData.showableKv_split kvs (by simpa [PyData.showable] using hs)
    obtain ⟨b1, hb1, k1⟩ := reprAllK_of h4 hs1 (fun t ht => let ⟨p, hp, hl⟩ := PyData.shownKv_key_le kvs t ht; Nat.le_trans hl (Nat.le_trans (dictText_mem_le hp) hz'))
    obtain ⟨b2, hb2, k2⟩ := reprAllK_of h5 hs2 (fun t ht => let ⟨p, hp, hl⟩ := PyData.shownKv_val_le kvs t ht; Nat.le_trans hl (Nat.le_trans (dictText_mem_le hp) hz'))
    obtain ⟨_, r1⟩ := RdxAll.reads h4
    obtain ⟨_, r2⟩ := RdxAll.reads h5
    have r : Reads h (.ref a) (.dict kvs) _ := .dict h1 h2 h3 r1 r2
    have hb : ReadAtMost h (PyData.depthKv kvs) (b1 ++ b2) := (hb1.mono (PyData.depthAll_keys_le kvs)).append (hb2.mono (PyData.depthAll_vals_le kvs))
    have hna : a ∉ b1 ++ b2 := not_mem_of_deeper r (by simp only [PyData.depth]; omega) hb
    refine ⟨a :: (b1 ++ b2), ReadAtMost.cons r (by simp only [PyData.depth]; omega) hb, ?_⟩
    simp only [PyData.depth, PyData.shown, PyData.shownKv_eq]
    exact ReprK.dict h1 h2 h3 hsys hna (ReprEntriesK.of_two es.toList _ _
      (k1.more_le (fun b hb => List.mem_append_left _ hb) (PyData.depthAll_keys_le kvs)) (k2.more_le (fun b hb => List.mem_append_right _ hb) (PyData.depthAll_vals_le kvs)))
theorem reprAllK_of : ∀ {vs : List Value} {ds : List PyData}, RdxAll h vs ds → PyData.showableAll ds = true → (∀ t ∈ PyData.shownAll ds, t.length ≤ sizeLine) → ∃ bs, ReadAtMost h (PyData.depthAll ds) bs ∧ ReprAllK prog w bs h (PyData.depthAll ds) vs (PyData.shownAll ds)
  | _, _, .nil, _, _ => ⟨[], (fun _ h => nomatch h), by simp only [PyData.shownAll]; exact .nil⟩
  | _, _, .cons (d := d) (ds := ds) r rs, hs, hz => by
    have hs' : d.showable = true ∧ PyData.showableAll ds = true := by simpa [PyData.showableAll] using hs
    obtain ⟨b1, hb1, k1⟩ := reprK_of r hs'.1 (hz _ (by simp only [PyData.shownAll]; exact List.mem_cons_self ..))
    obtain ⟨b2, hb2, k2⟩ := reprAllK_of rs hs'.2 (fun t ht => hz t (by simp only [PyData.shownAll]; exact List.mem_cons_of_mem _ ht))
    refine ⟨b1 ++ b2, ?_, ?_⟩
    · simp only [PyData.depthAll]
      exact (hb1.mono (Nat.le_max_left _ _)).append (hb2.mono (Nat.le_max_right _ _))
    · simp only [PyData.depthAll, PyData.shownAll]
      exact .cons ((k1.more fun b hb => List.mem_append_left _ hb).level_le (Nat.le_max_left _ _)) (k2.more_le (fun b hb => List.mem_append_right _ hb) (Nat.le_max_right _ _))
end
section
variable {A : Around} {E : Value → Shared → Prop} {s : Shared} {Q : Value → Shared → Prop} {a : Addr} {d : PyData}
theorem repr_of_rdx (r : Rdx s.heap (.ref a) d) (hs : d.showable = true) (hg : A.guards = some []) (hu : A.units + (d.depth + 1) < cLine)
    (hQ : ∀ h' u tk, (∀ b o, s.heap.get? b = some o → h'.get? b = some o) → Q (.str d.shown u) { s with heap := h', toks := tk }) (hsz : d.shown.length ≤ sizeLine) : wpAny (model prog w) A (call (.builtin "repr") [.ref a]) Q E s := by
  cases r with
  | list h1 h2 h3 h4 =>
    rename_i o vs n xs
    have hz' : (listText (PyData.shownAll xs)).length ≤ sizeLine := by simpa only [PyData.shown] using hsz
    obtain ⟨bs, hb, hk⟩ := reprAllK_of (prog := prog) (w := w) h4 (by simpa [PyData.showable] using hs) (fun t ht => Nat.le_trans (listText_mem_le ht) hz')
    obtain ⟨_, rr⟩ := RdxAll.reads h4
    have hna : a ∉ bs := not_mem_of_deeper (.list h1 h2 h3 rr) (by simp only [PyData.depth]; omega) hb
    simp only [PyData.depth] at hu
    simp only [PyData.shown] at hQ
    refine call_repr_slot (by omega) ⟨o, h1, h2⟩ F.slot_list_repr.toG ?_
    obtain ⟨l⟩ := vs
    cases l with
    | nil =>
      have h4' : RdxAll s.heap [] xs := h4
      cases h4'
      simp only [PyData.shownAll, listText_nil] at hQ
      exact call_list_repr_empty ⟨o, h1, h2⟩ h1 h3 ⟨_, _, rfl, hQ s.heap _ _ fun _ _ e => e⟩
    | cons x l =>
      exact call_list_reprK h1 h2 h3 hna (by simpa using hk.length_eq) (fun i y e => hk.item i y (by simpa using e)) hg (fun b _ => Clear.nil b) (by show A.units + 1 + _ < cLine; omega) (fun _ _ e => e) (fun h' u tk hk => ⟨_, _, rfl, hQ h' u tk hk⟩) hz'
  | tuple h1 h2 h3 h4 =>
    rename_i o vs n xs
    have hz' : (tupleText (PyData.shownAll xs)).length ≤ sizeLine := by simpa only [PyData.shown] using hsz
    obtain ⟨bs, hb, hk⟩ := reprAllK_of (prog := prog) (w := w) h4 (by simpa [PyData.showable] using hs) (fun t ht => Nat.le_trans (tupleText_mem_le ht) hz')
    obtain ⟨_, rr⟩ := RdxAll.reads h4
    have hna : a ∉ bs := not_mem_of_deeper (.tuple h1 h2 h3 rr) (by simp only [PyData.depth]; omega) hb
    simp only [PyData.depth] at hu
    simp only [PyData.shown] at hQ
    refine call_repr_slot (by omega) ⟨o, h1, h2⟩ F.slot_tuple_repr ?_
    exact call_tuple_reprK h1 h2 h3 hna hk hg (fun b _ => Clear.nil b) (by show A.units + 1 + _ < cLine; omega) (fun _ _ e => e) (fun h' u tk hk => ⟨_, _, rfl, hQ h' u tk hk⟩) hz'
  | dict h1 h2 h3 hsys h4 h5 =>
    rename_i o es n kvs
    have hz' : (dictText (PyData.shownKv kvs)).length ≤ sizeLine := by simpa only [PyData.shown] using hsz
    obtain ⟨hs1, hs2⟩ := PyData.showableKv_split kvs (by simpa [PyData.showable] using hs)
    obtain ⟨b1, hb1, k1⟩ := reprAllK_of (prog := prog) (w := w) h4 hs1 (fun t ht => let ⟨p, hp, hl⟩ := PyData.shownKv_key_le kvs t ht; Nat.le_trans hl (Nat.le_trans (dictText_mem_le hp) hz'))
    obtain ⟨b2, hb2, k2⟩ := reprAllK_of (prog := prog) (w := w) h5 hs2 (fun t ht => let ⟨p, hp, hl⟩ := PyData.shownKv_val_le kvs t ht; Nat.le_trans hl (Nat.le_trans (dictText_mem_le hp) hz'))
    obtain ⟨_, r1⟩ := RdxAll.reads h4
    obtain ⟨_, r2⟩ := RdxAll.reads h5
    have hb : ReadAtMost s.heap (PyData.depthKv kvs) (b1 ++ b2) := (hb1.mono (PyData.depthAll_keys_le kvs)).append (hb2.mono (PyData.depthAll_vals_le kvs))
    have hna : a ∉ b1 ++ b2 := not_mem_of_deeper (.dict h1 h2 h3 r1 r2) (by simp only [PyData.depth]; omega) hb
    simp only [PyData.depth] at hu
    simp only [PyData.shown, PyData.shownKv_eq] at hQ
    refine call_repr_slot (by omega) ⟨o, h1, h2⟩ F.slot_dict_repr ?_
    exact call_dict_reprK h1 h2 h3 hsys hna (ReprEntriesK.of_two es.toList _ _
      (k1.more_le (fun b hb => List.mem_append_left _ hb) (PyData.depthAll_keys_le kvs)) (k2.more_le (fun b hb => List.mem_append_right _ hb) (PyData.depthAll_vals_le kvs))) hg (fun b _ => Clear.nil b) (by show A.units + 1 + _ < cLine; omega) (fun _ _ e => e) (fun h' u tk hk => ⟨_, _, rfl, hQ h' u tk hk⟩) (by rw [← PyData.shownKv_eq]; exact hz')
end
end QL
namespace QL
open PySem PySem.Spec L2
section
variable {P : Program} {w : World} {K : PySem.W.Frag} {H : Hp} {h : Heap}
theorem rdx_key {k : Key} {u : Value} (e : (mixKind P w).is k u = true) : Rdx h u (kD k) := by
  rcases keyIs_shape e with ⟨i, t, rfl, rfl⟩ | ⟨x, t, rfl, rfl⟩
  · exact .int i t
  · exact .str x t
theorem rdx_tup {ks : List Key} {b : Addr} (ok : HOk P w H h) (e : H b = some (.tup (ks.map kV))) : Rdx h (.ref b) (.tuple (ks.map kD)) := by
  obtain ⟨o, its, n, h1, h2, h3, h4⟩ := key_of (P := P) (w := w) ok e
  refine .tuple h1 h2 h3 ?_
  have main : ∀ {ks : List Key} {us : List Value}, ItemsAre (mixKind P w) ks us → RdxAll h us (ks.map kD) := by
    intro ks us q
    induction q with
    | nil => exact .nil
    | cons a b ih => exact .cons (rdx_key a) ih
  exact main h4
theorem RO'.noSh {O : List Addr} {C : Addr} {kvs : List (D × D)} {ws : List (Str × V)} {Z : Prop} (r : RO' K O H C kvs ws) (h : PyData.showableKv kvs = true) : Z := by
  cases kvs with
  | nil => simp only [RO'] at r
  | cons p r0 =>
    obtain ⟨k, d⟩ := p
    simp only [RO'] at r
    have h' : (k.showable = true ∧ d.showable = true) ∧ PyData.showableKv r0 = true := by simpa [PyData.showableKv] using h
    have h1 := h'.1.1
    rw [r.1] at h1
    simp [PyData.showable, PyData.showableAll, bigI_sh] at h1
mutual
theorem rdx_of (ok : HOk P w H h) : ∀ (d : D) (v : V) (u : Value), R K [] H d v → RelV v u → d.showable = true → Rdx h u d
  | .none, v, u, r, e, hs => by simp only [R] at r; subst r; cases (show u = Value.none from e); exact .none
  | .bool b, v, u, r, e, hs => by simp only [R] at r; subst r; cases (show u = Value.bool b from e); exact .bool b
  | .int i, v, u, r, e, hs => by simp only [R] at r; subst r; obtain ⟨t, e⟩ := (show ∃ t, u = Value.int i t from e); subst e; exact .int i t
  | .str x, v, u, r, e, hs => by simp only [R] at r; subst r; obtain ⟨t, e⟩ := (show ∃ t, u = Value.str x t from e); subst e; exact .str x t
  | .list ds, v, u, r, e, hs => by
    simp only [R] at r
    obtain ⟨a, vs, rfl, _, q, q2⟩ := r
    cases (show u = Value.ref a from e)
    obtain ⟨_, its, n, rv, hg⟩ := (show ObjOk P w H h a (.lst vs) from ok a _ q)
    exact .list hg rfl rfl (by simpa using rdxs_of ok ds vs its q2 rv (by simpa only [PyData.showable] using hs))
  | .tuple ds, v, u, r, e, hs => by
    simp only [R] at r
    obtain ⟨a, vs, rfl, q, q2⟩ := r
    cases (show u = Value.ref a from e)
    obtain ⟨_, its, rv, o, hg, hc, n, hd⟩ := (show ObjOk P w H h a (.tup vs) from ok a _ q)
    exact .tuple hg hc hd (by simpa using rdxs_of ok ds vs its q2 rv (by simpa only [PyData.showable] using hs))
  | .dict kvs, v, u, r, e, hs => by
    simp only [R] at r
    obtain ⟨a, rfl, _, r⟩ := r
    cases (show u = Value.ref a from e)
    rcases r with ⟨ws, q, q2⟩ | ⟨ws, q, q2⟩ | ⟨C, dx, ws, q, q2⟩
    · obtain ⟨_, hsys, xs, rel, o, es, ep, h1, h2, h3, _, h5, _⟩ := dk_rd ok q
      obtain ⟨a1, a2⟩ := rdxk_of ok kvs ws xs es.toList q2 rel h5 (by simpa only [PyData.showable] using hs)
      exact .dict h1 h2.1 h3 hsys a1 a2
    · obtain ⟨_, hsys, xs, rel, o, es, ep, h1, h2, h3, h4, _, _⟩ := dt_rd ok q
      obtain ⟨a1, a2⟩ := rdxt_of ok kvs ws xs q2 rel (by simpa only [PyData.showable] using hs)
      exact .dict h1 h2.1 h3 hsys (by rw [h4]; exact a1) (by rw [h4]; exact a2)
    · exact q2.noSh (by simpa only [PyData.showable] using hs)
theorem rdxs_of (ok : HOk P w H h) : ∀ (ds : List D) (vs : List V) (us : List Value), Rs K [] H ds vs → Vals vs us → PyData.showableAll ds = true → RdxAll h us ds
  | [], vs, us, r, e, hs => by simp only [Rs] at r; subst r; cases e; exact .nil
  | d :: ds, vs, us, r, e, hs => by
    simp only [Rs] at r
    obtain ⟨v, ws, rfl, r1, r2⟩ := r
    have hs' : d.showable = true ∧ PyData.showableAll ds = true := by simpa [PyData.showableAll] using hs
    cases e with
    | cons e1 e2 => exact .cons (rdx_of ok d v _ r1 e1 hs'.1) (rdxs_of ok ds ws _ r2 e2 hs'.2)
theorem rdxk_of (ok : HOk P w H h) : ∀ (kvs : List (D × D)) (ws : List (Key × V)) (xs : List (Key × Value)) (es : List DictEntry), RK K [] H kvs ws → KV ws xs → Pairs (mixKind P w) es xs → PyData.showableKv kvs = true → RdxAll h (es.map (·.key)) (kvs.map (·.1)) ∧ RdxAll h (es.map (·.val)) (kvs.map (·.2))
  | [], ws, xs, es, r, e, p, hs => by
    simp only [RK] at r; subst r
    cases e; cases p
    exact ⟨.nil, .nil⟩
  | (k, d) :: kvs, ws, xs, es, r, e, p, hs => by
    have hs' : (k.showable = true ∧ d.showable = true) ∧ PyData.showableKv kvs = true := by simpa [PyData.showableKv] using hs
    simp only [RK] at r
    obtain ⟨c, v, ws', rfl, rfl, r1, r2⟩ := r
    unfold KV at e
    cases e with
    | cons e1 e2 =>
      cases p with
      | cons p1 p2 p3 =>
        obtain ⟨q1, q2⟩ := e1
        obtain ⟨a1, a2⟩ := rdxk_of ok kvs ws' _ _ r2 e2 p3 hs'.2
        have q1 : c = _ := q1
        rw [← q1] at p1
        have z := rdx_of ok d v _ r1 q2 hs'.1.2
        rw [← p2] at z
        exact ⟨.cons (rdx_key p1) a1, .cons z a2⟩
theorem rdxt_of (ok : HOk P w H h) : ∀ (kvs : List (D × D)) (ws : List (List Key × V)) (xs : List (List Key × Addr × Value)), RT K [] H kvs ws → KT H ws xs → PyData.showableKv kvs = true →
    RdxAll h ((xs.map (entryOfKey (tupleKind (mixKind P w)))).map (·.key)) (kvs.map (·.1)) ∧ RdxAll h ((xs.map (entryOfKey (tupleKind (mixKind P w)))).map (·.val)) (kvs.map (·.2))
  | [], ws, xs, r, e, hs => by
    simp only [RT] at r; subst r
    cases e
    exact ⟨.nil, .nil⟩
  | (k, d) :: kvs, ws, xs, r, e, hs => by
    have hs' : (k.showable = true ∧ d.showable = true) ∧ PyData.showableKv kvs = true := by simpa [PyData.showableKv] using hs
    simp only [RT] at r
    obtain ⟨c, v, ws', rfl, rfl, r1, r2⟩ := r
    cases e with
    | cons e1 e2 =>
      obtain ⟨q1, q2, q3⟩ := e1
      obtain ⟨a1, a2⟩ := rdxt_of ok kvs ws' _ r2 e2 hs'.2
      exact ⟨.cons (rdx_tup ok q2) a1, .cons (rdx_of ok d v _ r1 q3 hs'.1.2) a2⟩
end
/-- data at a value, as it is read -/
def TopR (K : PySem.W.Frag) (H : Hp) : D → V → Prop
  | .list ds, v => ∃ a us, v = .ref a ∧ Rd H a (.lst us) ∧ Rs K [] H ds us
  | .dict kvs, v => ∃ a, v = .ref a ∧ ((∃ ws, Rd H a (.dK ws) ∧ RK K [] H kvs ws) ∨ (∃ ws, Rd H a (.dT ws) ∧ RT K [] H kvs ws) ∨ (∃ C dx ws, H a = some (.ins C dx ws) ∧ RO' K [] H C kvs ws))
  | d, v => R K [] H d v
theorem rdx_top (ok : HOk P w H h) : ∀ (d : D) (v : V) (u : Value), TopR K H d v → RelV v u → d.showable = true → Rdx h u d
  | .none, v, u, r, e, hs => rdx_of (K := K) ok _ v u r e hs
  | .bool b, v, u, r, e, hs => rdx_of (K := K) ok _ v u r e hs
  | .int i, v, u, r, e, hs => rdx_of (K := K) ok _ v u r e hs
  | .str x, v, u, r, e, hs => rdx_of (K := K) ok _ v u r e hs
  | .tuple ds, v, u, r, e, hs => rdx_of (K := K) ok _ v u r e hs
  | .list ds, v, u, r, e, hs => by
    obtain ⟨a, us, rfl, q, q2⟩ := r
    cases (show u = Value.ref a from e)
    obtain ⟨_, its, n, rv, hg⟩ := (show ObjOk P w H h a (.lst us) from q.ok ok)
    exact .list hg rfl rfl (by simpa using rdxs_of ok ds us its q2 rv (by simpa only [PyData.showable] using hs))
  | .dict kvs, v, u, r, e, hs => by
    obtain ⟨a, rfl, r⟩ := r
    cases (show u = Value.ref a from e)
    rcases r with ⟨ws, q, q2⟩ | ⟨ws, q, q2⟩ | ⟨C, dx, ws, q, q2⟩
    · obtain ⟨_, hsys, xs, rel, o, es, ep, h1, h2, h3, _, h5, _⟩ := dk_rd ok q
      obtain ⟨a1, a2⟩ := rdxk_of ok kvs ws xs es.toList q2 rel h5 (by simpa only [PyData.showable] using hs)
      exact .dict h1 h2.1 h3 hsys a1 a2
    · obtain ⟨_, hsys, xs, rel, o, es, ep, h1, h2, h3, h4, _, _⟩ := dt_rd ok q
      obtain ⟨a1, a2⟩ := rdxt_of ok kvs ws xs q2 rel (by simpa only [PyData.showable] using hs)
      exact .dict h1 h2.1 h3 hsys (by rw [h4]; exact a1) (by rw [h4]; exact a2)
    · exact q2.noSh (by simpa only [PyData.showable] using hs)
end
def showA (d : D) : Bool := d.showable && decide (d.depth ≤ 60) && decide (d.shown.length ≤ sizeLine)
def rReprA (K : PySem.W.Frag) : List V → Hp → VK → Prop := fun xs H Q => ∃ x d, xs = [x] ∧ TopR K H d x ∧ showA d = true ∧ Q (.str d.shown) H
theorem cr_reprA {X : Cx} (hG : X.A.guards = some []) (hu : X.A.units + 65 < cLine) : CallR X (.builtin "repr") (rReprA X.K) := by
  intro pins s σ H xs us Q I rs h
  obtain ⟨x, d, rfl, hd, ho, q⟩ := h
  unfold showA at ho
  simp only [Bool.and_eq_true, decide_eq_true_eq] at ho
  obtain ⟨⟨h2, h3⟩, h4⟩ := ho
  cases rs with
  | cons r1 rs =>
    cases rs
    rename_i u
    have rd := rdx_top I.hok d x u hd r1 h2
    cases rd with
    | none => exact PySem.P.repr_of_none ⟨.str _, H, I.tok _, ⟨_, rfl⟩, q⟩
    | bool b => exact PySem.P.repr_of_bool ⟨.str _, H, I.tok _, ⟨_, by cases b <;> rfl⟩, q⟩
    | int i t => exact PySem.P.repr_of_int (by simpa [PyData.showable] using h2) ⟨.str _, H, I.tok _, ⟨_, rfl⟩, q⟩
    | str i t => exact PySem.P.repr_of_str (x := i) ⟨.str _, H, I.tok _, ⟨_, rfl⟩, q⟩ h4
    | list a b c e => exact repr_of_rdx (.list a b c e) h2 hG (by omega) (fun h' v tk hk => ⟨.str _, H, I.kept hk, ⟨_, rfl⟩, q⟩) h4
    | tuple a b c e => exact repr_of_rdx (.tuple a b c e) h2 hG (by omega) (fun h' v tk hk => ⟨.str _, H, I.kept hk, ⟨_, rfl⟩, q⟩) h4
    | dict a b c e f g => exact repr_of_rdx (.dict a b c e f g) h2 hG (by omega) (fun h' v tk hk => ⟨.str _, H, I.kept hk, ⟨_, rfl⟩, q⟩) h4
def dReprA : List D → Option OV
  | [d] => if showA d = true then some (.fz (.str d.shown)) else none
  | _ => none
mutual
theorem R.nil {K : PySem.W.Frag} {O : List Addr} {H : Hp} : ∀ (d : D) (v : V), R K O H d v → R K [] H d v
  | .none, v, r => by simpa only [R] using r
  | .bool b, v, r => by simpa only [R] using r
  | .int i, v, r => by simpa only [R] using r
  | .str x, v, r => by simpa only [R] using r
  | .list ds, v, r => by
    simp only [R] at r ⊢
    obtain ⟨a, vs, h1, h2, h3, h4⟩ := r
    exact ⟨a, vs, h1, by simp, h3, Rs.nil ds vs h4⟩
  | .tuple ds, v, r => by
    simp only [R] at r ⊢
    obtain ⟨a, vs, h1, h2, h3⟩ := r
    exact ⟨a, vs, h1, h2, Rs.nil ds vs h3⟩
  | .dict kvs, v, r => by
    simp only [R] at r ⊢
    obtain ⟨a, h1, h2, h3⟩ := r
    refine ⟨a, h1, by simp, ?_⟩
    rcases h3 with ⟨ws, q, q2⟩ | ⟨ws, q, q2⟩ | ⟨C, dx, ws, q, q2⟩
    · exact .inl ⟨ws, q, RK.nil kvs ws q2⟩
    · exact .inr (.inl ⟨ws, q, RT.nil kvs ws q2⟩)
    · exact .inr (.inr ⟨C, dx, ws, q, RO'.nil C kvs ws q2⟩)
theorem Rs.nil {K : PySem.W.Frag} {O : List Addr} {H : Hp} : ∀ (ds : List D) (vs : List V), Rs K O H ds vs → Rs K [] H ds vs
  | [], vs, r => by simpa only [Rs] using r
  | d :: ds, vs, r => by
    simp only [Rs] at r ⊢
    obtain ⟨v, ws, h1, h2, h3⟩ := r
    exact ⟨v, ws, h1, R.nil d v h2, Rs.nil ds ws h3⟩
theorem RK.nil {K : PySem.W.Frag} {O : List Addr} {H : Hp} : ∀ (kvs : List (D × D)) (ws : List (Key × V)), RK K O H kvs ws → RK K [] H kvs ws
  | [], ws, r => by simpa only [RK] using r
  | (k, d) :: kvs, ws, r => by
    simp only [RK] at r ⊢
    obtain ⟨c, v, ws', h1, h2, h3, h4⟩ := r
    exact ⟨c, v, ws', h1, h2, R.nil d v h3, RK.nil kvs ws' h4⟩
theorem RT.nil {K : PySem.W.Frag} {O : List Addr} {H : Hp} : ∀ (kvs : List (D × D)) (ws : List (List Key × V)), RT K O H kvs ws → RT K [] H kvs ws
  | [], ws, r => by simpa only [RT] using r
  | (k, d) :: kvs, ws, r => by
    simp only [RT] at r ⊢
    obtain ⟨c, v, ws', h1, h2, h3, h4⟩ := r
    exact ⟨c, v, ws', h1, h2, R.nil d v h3, RT.nil kvs ws' h4⟩
theorem RF.nil {K : PySem.W.Frag} {O : List Addr} {H : Hp} : ∀ (kvs : List (D × D)) (ws : List (Str × V)), RF K O H kvs ws → RF K [] H kvs ws
  | [], ws, r => by simpa only [RF] using r
  | (k, d) :: kvs, ws, r => by
    simp only [RF] at r ⊢
    obtain ⟨c, v, ws', h1, h2, h3, h4⟩ := r
    exact ⟨c, v, ws', h1, h2, R.nil d v h3, RF.nil kvs ws' h4⟩
theorem RO'.nil {K : PySem.W.Frag} {O : List Addr} {H : Hp} (C : Addr) : ∀ (kvs : List (D × D)) (ws : List (Str × V)), RO' K O H C kvs ws → RO' K [] H C kvs ws
  | [], ws, r => by simp only [RO'] at r
  | (k, d) :: kvs, ws, r => by
    simp only [RO'] at r ⊢
    exact ⟨r.1, r.2.1, RF.nil kvs ws r.2.2⟩
end
theorem RE.top {K : PySem.W.Frag} {γ : Gh} {O : List Addr} {H : Hp} {d : D} {v : V} (h : RE K γ O H d v) : TopR K H d v := by
  cases d with
  | none => exact R.nil (O := O) _ v h
  | bool b => exact R.nil (O := O) _ v h
  | int b => exact R.nil (O := O) _ v h
  | str b => exact R.nil (O := O) _ v h
  | tuple b => exact R.nil (O := O) _ v h
  | list ds =>
    obtain ⟨a, vs, h1, _, h3, h4⟩ := h
    exact ⟨a, vs, h1, .inl h3, Rs.nil ds vs h4⟩
  | dict kvs =>
    obtain ⟨a, h1, _, h3⟩ := h
    refine ⟨a, h1, ?_⟩
    rcases h3 with ⟨ws, q, q2⟩ | ⟨ws, q, q2⟩ | ⟨C, dx, ws, q, q2⟩
    · exact .inl ⟨ws, q, RK.nil kvs ws q2⟩
    · exact .inr (.inl ⟨ws, q, RT.nil kvs ws q2⟩)
    · exact .inr (.inr ⟨C, dx, ws, q, RO'.nil C kvs ws q2⟩)
theorem opb_reprA {K : PySem.W.Frag} : OpB K (rReprA K) dReprA := by
  intro γ O H ds vs z Q ow h e hq
  unfold dReprA at e
  split at e
  · rename_i d
    split at e
    · rename_i hl
      cases e
      obtain ⟨v, ws, e1, r1, e2⟩ := h
      exact ⟨v, d, by rw [e1, e2], r1.top, hl, hq _ (by simp [R])⟩
    · cases e
  · cases e
section
variable {X : Cx} {W : WX} {e : Expr} {p pos : Pos} {tl : TA} {FL : S → Res (List D)}
theorem ex_reprA {k : Nat} (hG : X.A.guards = some []) (hr : Room k X.A) (hm : X.mg "repr" = none) (ha : BAX X W [e] tl FL) (hg : Gl X "repr" := by rfl) (he : starEach [e] X.env = (false, eval e X.env) :: starEach [] X.env := by rfl) : EX X W (.Call (.Name "repr" p) [e] [] pos) (tCB (rReprA X.K) tl) (fCB dReprA FL) :=
  ex_cb (pe_callB (cr_reprA hG (hu_in hr)) hg hm PyProof.Rows.boot_repr ha.pe (by decide) (by decide) he (by rfl)) opb_reprA ha
end
end QL
namespace QL
open PySem PySem.Spec L2
def getK (kvs : List (D × D)) (c : Key) : Option D := (kvs.find? fun p => decide (keyD p.1 = some c)).map (·.2)
def getT (kvs : List (D × D)) (c : List Key) : Option D := (kvs.find? fun p => decide (keyT p.1 = some c)).map (·.2)
section
variable {K : PySem.W.Frag} {O : List Addr} {H : Hp}
def RO (K : PySem.W.Frag) (O : List Addr) (H : Hp) : Option D → Option V → Prop
  | none, none => True
  | some d, some v => R K O H d v
  | _, _ => False
theorem RO.isSome {o : Option D} {o' : Option V} (h : RO K O H o o') : o'.isSome = o.isSome := by
  cases o <;> cases o' <;> first | rfl | exact h.elim
theorem RK.get (c : Key) : ∀ {kvs : List (D × D)} {ws : List (Key × V)}, RK K O H kvs ws → RO K O H (getK kvs c) (valV ws c)
  | [], _, h => by simp only [RK] at h; subst h; exact trivial
  | (k, d) :: r, _, h => by
    simp only [RK] at h
    obtain ⟨c', v, ws, e, e2, h1, h2⟩ := h
    subst e e2
    have ih := RK.get c h2
    unfold getK valV at ih ⊢
    rw [List.find?_cons, List.find?_cons]
    by_cases q : c' = c
    · subst q
      simp only [keyD_kD, decide_true, Option.map_some]
      exact h1
    · have q' : ¬ (keyD (kD c') = some c) := by rw [keyD_kD]; simpa using q
      simp only [decide_eq_false q', decide_eq_false q]
      exact ih
theorem RT.get (c : List Key) : ∀ {kvs : List (D × D)} {ws : List (List Key × V)}, RT K O H kvs ws → RO K O H (getT kvs c) (valV ws c)
  | [], _, h => by simp only [RT] at h; subst h; exact trivial
  | (k, d) :: r, _, h => by
    simp only [RT] at h
    obtain ⟨c', v, ws, e, e2, h1, h2⟩ := h
    subst e e2
    have ih := RT.get c h2
    unfold getT valV at ih ⊢
    rw [List.find?_cons, List.find?_cons]
    by_cases q : c' = c
    · subst q
      simp only [keyT_map, decide_true, Option.map_some]
      exact h1
    · have q' : ¬ (keyT (.tuple (c'.map kD)) = some c) := by rw [keyT_map]; simpa using q
      simp only [decide_eq_false q', decide_eq_false q]
      exact ih
end
/-- what a slot's dict holds at k -/
def lkS (r : S) (i : Nat) (k : D) : Option (Option D) := match r.sl[i]? with
  | some (some (.od kvs)) => (keyD k).map (getK kvs)
  | some (some (.ot kvs)) => (keyT k).map (getT kvs)
  | some (some (.fz (.dict (p :: kvs)))) => match keyD k with
    | some c => if (keyD p.1).isSome then some (getK (p :: kvs) c) else none
    | none => match keyT k with
      | some c => if (keyT p.1).isSome then some (getT (p :: kvs) c) else none
      | none => none
  | _ => none
/-- a slot that is a dict -/
def isDS (r : S) (i : Nat) : Bool := match r.sl[i]? with
  | some (some (.od _)) => true
  | some (some (.ot _)) => true
  | some (some (.fz (.dict kvs))) => !isOb kvs
  | _ => false
section
variable {K : PySem.W.Frag} {mg : Str → Option Value} {W : WX} {γ : Gh} {O Oc fs : List Addr} {H : Hp} {r : S} {σ : St} {i : Nat} {k : D} {y : V} {o : Option D}
/-- k in d, k not in d -/
def fInS (f : Bool → Bool) (i : Nat) (FK : S → Res D) : S → Res SV := fun r => (FK r).bind fun k r => match lkS r i k with
  | some o => .ok (.fz (.bool (f o.isSome))) r
  | none => .bad
/-- d[k] -/
def fGetS (i : Nat) (FK : S → Res D) : S → Res SV := fun r => if isDS r i = true then (FK r).bind fun k r => match lkS r i k with
  | some (some d) => .ok (.fz d) r
  | _ => .bad else .bad
/-- d.get(k) -/
def fGet1S (i : Nat) (FK : S → Res D) : S → Res SV := fun r => if isDS r i = true then (FK r).bind fun k r => match lkS r i k with
  | some o => .ok (.fz (o.getD .none)) r
  | _ => .bad else .bad
theorem RO.getD {o : Option D} {o' : Option V} {d : D} {v : V} (h : RO K O H o o') (hd : R K O H d v) : R K O H (o.getD d) (o'.getD v) := by
  cases o <;> cases o' <;> first | exact hd | exact h | exact h.elim
/-- d.get(k, x) -/
def fGet2S (i : Nat) (FK FX : S → Res D) : S → Res SV := fun r => if isDS r i = true then (FK r).bind fun k r => (FX r).bind fun x r => match lkS r i k with
  | some o => .ok (.fz (o.getD x)) r
  | _ => .bad else .bad
end
end QL
namespace QL
open PySem PySem.Spec L2
def outN (R : FR) (r : S) : Res SV := match R with
  | .ok (.fz (.list xs)) _ => if flatAll xs = true then .ok (.ol xs) r else .bad
  | .ok (.ol xs) _ => .ok (.ol xs) r
  | .exc c f _ => if flatAll (f.map (·.2)) = true then .exc c f r else .bad
  | _ => .bad
def fCallN (n : Nat) (F : List D → FR) (FL : S → Res (List D)) : S → Res SV := fun r => (FL r).bind fun ds r => if ds.length = n ∧ flatAll ds = true then outN (F ds) r else .bad
end QL
namespace QL
open PySem PySem.Spec L2
def olsS (m : Nat) : List SV → Option (List (List D))
  | [] => some []
  | .ol ds :: r => if ds.length + m ≤ sizeLine then (olsS m r).map (ds :: ·) else none
  | _ => none
def ROL (K : PySem.W.Frag) (O : List Addr) (H : Hp) : List (List D) → List Addr → Prop
  | [], as => as = []
  | ds :: r, as => ∃ a as' us, as = a :: as' ∧ H a = some (.lst us) ∧ Rs K O H ds us ∧ ROL K O H r as'
section
variable {K : PySem.W.Frag} {mg : Str → Option Value} {W : WX} {γ : Gh} {Oc Oc' O O' : List Addr} {r r1 r2 rA rB : S} {σ σ' σ2 : St} {H H' H1 H2 H3 : Hp} {fs fs1 fp fA fB fB' : List Addr}
theorem ROL.len : ∀ {dss : List (List D)} {as : List Addr}, ROL K O H dss as → as.length = dss.length
  | [], as, h => by have h : as = [] := h; subst h; rfl
  | d :: dss, as, h => by
    obtain ⟨a, as', us, e, _, _, h⟩ := h
    subst e
    rw [List.length_cons, List.length_cons, h.len]
theorem ROL.us {m : Nat} : ∀ {dss : List (List D)} {as : List Addr}, ROL K O H dss as → (∀ ds ∈ dss, ds.length + m ≤ sizeLine) → ∀ a ∈ as, ∃ us, H a = some (.lst us) ∧ us.length + m ≤ sizeLine
  | [], as, h, _, a, ha => by have h : as = [] := h; subst h; cases ha
  | d :: dss, as, h, n, b, hb => by
    obtain ⟨a, as', us, e, h1, h2, h⟩ := h
    subst e
    rcases List.mem_cons.mp hb with hb | hb
    · subst hb; exact ⟨us, h1, by rw [h2.len]; exact n d (by simp)⟩
    · exact ROL.us h (fun e he => n e (List.mem_cons_of_mem _ he)) b hb
theorem ROL.stab (ow : Own O H) (st : Stab O H O' H') : ∀ {dss : List (List D)} {as : List Addr}, (∀ a ∈ as, H' a = H a) → ROL K O H dss as → ROL K O' H' dss as
  | [], as, _, h => h
  | d :: dss, as, k, h => by
    obtain ⟨a, as', us, e, h1, h2, h⟩ := h
    subst e
    exact ⟨a, as', us, rfl, by rw [k a (by simp)]; exact h1, Rs.stab ow st _ _ h2, ROL.stab ow st (fun b hb => k b (List.mem_cons_of_mem _ hb)) h⟩
theorem SimSAt.all {ι : Sort _} {P : ι → Ends → Prop} {t : Ends → Prop} {R : RS} (ht : ∀ E, (∀ x, P x E) → t E) (h : ∀ x, SimSAt K mg W γ Oc H fs (P x) R) : SimSAt K mg W γ Oc H fs t R := by
  intro E
  have z := fun x => h x E
  cases R with
  | bad => trivial
  | nx r' => exact fun q => ht E fun x => z x q
  | bk r' => exact fun q => ht E fun x => z x q
  | ct r' => exact fun q => ht E fun x => z x q
  | rt x r' => exact fun q => ht E fun x => z x q
  | exc c f r' => exact fun q => ht E fun x => z x q
end
section
variable {X : Cx} {W : WX} {i n m : Nat} {st : Stmt} {rest : List Stmt} {t u tm : TS} {B B1 B2 : S → RS}
def sNest (i n m : Nat) (FL : S → Res (List SV)) (T : S → Res Bool) (A B : S → RS) : S → RS := fun r => (FL r).bindS fun xs r1 => match olsS m xs with
  | some dss => if dss.length = n ∧ i < r1.sl.length ∧ n ≤ sizeLine then (T { r1 with sl := r1.sl.set i (some (.fz (.list (dss.map .list)))) }).bindS fun b r2 => if b then sSeq A sBad r2 else B ⟨r1.sl.set i none, r2.tp⟩ else .bad
  | none => .bad
end
end QL
namespace QL
open PySem PySem.Spec L2
end QL
namespace QL
open PySem PySem.Spec L2
end QL
namespace QL
open PySem PySem.Spec L2
section
variable {K : PySem.W.Frag} {mg : Str → Option Value} {W : WX} {γ : Gh} {Oc : List Addr} {r : S} {σ : St} {H H' : Hp} {fs fs' fp : List Addr} {a : Addr} {u : HO} {od : Obj}
def kysD : List (D × D) → List D := List.map Prod.fst
end
end QL
namespace QL
open PySem PySem.Spec L2
section
variable {X : Cx} {W : WX} {e tg : Expr} {st : Stmt} {B : S → RS} {t : TS} {gt : TG} {pos : Pos} {GF : D → S → Option S}
/-- the keys of the dict in a slot -/
def fDk (i : Nat) : S → Res (List D) := fun r => (fV i r).bind fun d r => match d with
  | .dict kvs => bif isOb kvs then .bad else .ok (kysD kvs) r
  | _ => .bad
/-- nothing is raised -/
def RS.still : RS → RS
  | .exc _ _ _ => .bad
  | x => x
def sForK (i : Nat) (G : D → S → Option S) (B : S → RS) : S → RS := fun r => (fDk i r).bindS fun ds r => (forF G B ds r).still
end
end QL
namespace QL
open PySem PySem.Spec L2
def lookF (f : Str) : List (D × D) → Option D
  | [] => none
  | (.str x, d) :: r => if f = x then some d else lookF f r
  | _ :: r => lookF f r
def putFD (f : Str) (d : D) : List (D × D) → List (D × D)
  | [] => [(.str f, d)]
  | (.str x, e) :: r => if x = f then (.str x, d) :: r else (.str x, e) :: putFD f d r
  | p :: r => p :: putFD f d r
section
variable {K : PySem.W.Frag} {O : List Addr} {H : Hp}
theorem RF.put {f : Str} {d : D} {v : V} (hd : R K O H d v) : ∀ {fs : List (D × D)} {ws : List (Str × V)}, RF K O H fs ws → RF K O H (putFD f d fs) (putF f v ws)
  | [], ws, h => by
    simp only [RF] at h; subst h
    simp only [putFD, putF, RF]
    exact ⟨f, v, [], rfl, rfl, hd, rfl⟩
  | (k, e) :: r, ws, h => by
    simp only [RF] at h
    obtain ⟨x, u, ws', e1, ek, h1, h2⟩ := h
    subst e1 ek
    by_cases q : f = x
    · subst q
      simp only [putFD, putF, if_pos, RF]
      exact ⟨f, v, ws', rfl, rfl, hd, h2⟩
    · have ih := RF.put (f := f) hd h2
      simp only [putFD, putF, if_neg (Ne.symm q), RF]
      exact ⟨x, u, _, rfl, rfl, h1, ih⟩
theorem RF.len : ∀ {fs : List (D × D)} {ws : List (Str × V)}, RF K O H fs ws → ws.length = fs.length
  | [], ws, h => by simp only [RF] at h; subst h; rfl
  | (k, d) :: r, ws, h => by
    simp only [RF] at h
    obtain ⟨x, v, ws', e, ek, h1, h2⟩ := h
    subst e
    simp [RF.len h2]
end
/-- the fields of an object of a class -/
def fldsOf (c : Str) : D → Option (List (D × D))
  | .dict ((.list _, .str c') :: fs) => if c' = c then some fs else none
  | _ => none
theorem fldsOf_eq {c : Str} {d : D} {fs : List (D × D)} (h : fldsOf c d = some fs) : ∃ l, d = .dict ((.list l, .str c) :: fs) := by
  unfold fldsOf at h
  split at h
  · rename_i l c' fs'
    split at h
    · rename_i e
      subst e
      cases h
      exact ⟨l, rfl⟩
    · cases h
  · cases h
theorem kD_list {c : Key} {l : List D} : ¬ ((PyData.list l : D) = kD c) := by cases c <;> (intro h; cases h)
theorem RE.ob {K : PySem.W.Frag} {γ : Gh} {O : List Addr} {H : Hp} {c : Str} {d : D} {v : V} {fs : List (D × D)} (h : RE K γ O H d v) (e : fldsOf c d = some fs) :
    ∃ a C dx ws, v = .ref a ∧ H a = some (.ins C dx ws) ∧ ObC K c C ∧ RF K O H fs ws := by
  obtain ⟨l, rfl⟩ := fldsOf_eq e
  obtain ⟨a, e1, _, h⟩ := h
  rcases h with ⟨ws, _, h⟩ | ⟨ws, _, h⟩ | ⟨C, dx, ws, q, h⟩
  · simp only [RK] at h
    obtain ⟨k, _, _, _, z, _⟩ := h
    exact absurd z kD_list
  · simp only [RT] at h
    obtain ⟨k, _, _, _, z, _⟩ := h
    cases z
  · simp only [RO'] at h
    obtain ⟨_, ⟨c', z, oc⟩, rf⟩ := h
    cases z
    exact ⟨a, C, dx, ws, e1, q, oc, rf⟩
theorem R.ob {K : PySem.W.Frag} {O : List Addr} {H : Hp} {c : Str} {d : D} {v : V} {fs : List (D × D)} (h : R K O H d v) (e : fldsOf c d = some fs) :
    ∃ a C dx ws, v = .ref a ∧ a ∉ O ∧ H a = some (.ins C dx ws) ∧ ObC K c C ∧ RF K O H fs ws := by
  obtain ⟨l, rfl⟩ := fldsOf_eq e
  simp only [R] at h
  obtain ⟨a, e1, n, h⟩ := h
  rcases h with ⟨ws, _, h⟩ | ⟨ws, _, h⟩ | ⟨C, dx, ws, q, h⟩
  · simp only [RK] at h
    obtain ⟨k, _, _, _, z, _⟩ := h
    exact absurd z kD_list
  · simp only [RT] at h
    obtain ⟨k, _, _, _, z, _⟩ := h
    cases z
  · simp only [RO'] at h
    obtain ⟨_, ⟨c', z, oc⟩, rf⟩ := h
    cases z
    exact ⟨a, C, dx, ws, e1, n, q, oc, rf⟩
/-- x.f -/
def dFld (c f : Str) : D → Option OV := fun d => match fldsOf c d with
  | some fs => (lookF f fs).map .fz
  | none => none
section
variable {X : Cx} {W : WX} {e : Expr} {ta : TE} {fa : S → Res D} {f c : Str} {pos pos' : Pos} {i : Nat}
/-- self.f = e -/
def sFst (c : Str) (i : Nat) (f : Str) (FA : S → Res D) : S → RS := fun r => (FA r).bindS fun d r => match r.sl[i]? with
  | some (some (.ob c' fs)) => if c' = c ∧ fs.length < 1000 then RS.nx { r with sl := r.sl.set i (some (.ob c' (putFD f d fs))) } else RS.bad
  | _ => RS.bad
end
end QL
namespace QL
open PySem PySem.Spec L2
end QL
namespace PySem.W
open PySem PySem.Calls PyProof.Rows
end PySem.W
namespace QL
open PySem PySem.Spec L2
def aMeth (c m : Str) (FO : S → Res D) (FL : S → Res (List D)) : S → Res (List D) := fun r => (FO r).bind fun d r => match fldsOf c d with
  | some fs => bif (lookF m fs).isNone then (FL r).bind fun ds r => .ok (d :: ds) r else .bad
  | none => .bad
def aOwn (c : Str) (q : D → Bool) (FA FB : S → Res D) : S → Res (List D) := fun r => (FA r).bind fun d r => (FB r).bind fun e r => bif (fldsOf c d).isSome && q e then .ok [d, e] r else .bad
def qOb (c : Str) : D → Bool := fun d => (fldsOf c d).isSome
def qInt : D → Bool
  | .int _ => true
  | _ => false
end QL
namespace QL
open PySem PySem.Spec L2
def dIsC (c : Str) : D → Option OV := fun d => bif (fldsOf c d).isSome then some (.fz (.bool true)) else none
end QL
namespace QL
open PySem PySem.Spec L2
end QL
namespace QL
open PySem PySem.Spec L2
def lc2F (vs vs1 : List Nat) (G : D → S → Option S) (T : S → Res Bool) (I1 : S → Res (List D)) (G1 : D → S → Option S) (T1 : S → Res Bool) (F : S → Res D) : List D → List D → S → Res (List D)
  | [], acc, r => .ok acc r
  | d :: ds, acc, r => match G d r with
    | none => .bad
    | some r => match T r with
      | .ok true r => match I1 r with
        | .ok es r => match lcF vs1 G1 T1 F es acc { r with sl := wipeS vs1 r.sl } with
          | .ok acc r => lc2F vs vs1 G T I1 G1 T1 F ds acc { r with sl := wipeS vs r.sl }
          | _ => .bad
        | _ => .bad
      | .ok false r => lc2F vs vs1 G T I1 G1 T1 F ds acc { r with sl := wipeS vs r.sl }
      | _ => .bad
def fLc2 (vs vs1 : List Nat) (I : S → Res (List D)) (G : D → S → Option S) (T : S → Res Bool) (I1 : S → Res (List D)) (G1 : D → S → Option S) (T1 : S → Res Bool) (F : S → Res D) : S → Res SV := fun r => (I r).bind fun ds r => match lc2F vs vs1 G T I1 G1 T1 F ds [] { r with sl := wipeS vs r.sl } with
  | .ok acc r' => Res.ok (SV.ol acc) { r' with sl := restS vs r.sl r'.sl }
  | _ => Res.bad
end QL
namespace QL
open PySem PySem.Spec PyProof.Rows L2
/-- an object of the class, or none at all -/
def qAny (c : Str) : D → Bool := fun d => (fldsOf c d).isSome || (match d with
  | .dict kvs => !isOb kvs
  | _ => true)
section
variable {X : Cx} {k n : Nat} {f C : Addr} {fd : FuncData} {ps : List Str} {sp : Sp} {x c m : Str} {p apos pos : Pos} {o e a b : Expr} {es : List Expr} {ta tb : TE} {t tl : TA} {W : WX} {F : List D → FR} {FL : S → Res (List D)} {FO FA FB : S → Res D}
/-- the answer of a call, turned -/
def fNeg (G : S → Res SV) : S → Res SV := fun r => (G r).bind fun x r => match x with
  | .fz (.bool b) => .ok (.fz (.bool (!b))) r
  | _ => .bad
end
end QL
namespace QL
open PySem PySem.Spec L2
end QL
namespace QL
open PySem PySem.Spec L2
/-- the pairs of a list -/
def prOf : D → Option (D × D)
  | .tuple [k, v] => some (k, v)
  | _ => none
def prsKV : List D → Option (List (D × D))
  | [] => some []
  | d :: r => match prOf d, prsKV r with
    | some p, some ps => some (p :: ps)
    | _, _ => none
section
variable {X : Cx}
/-- dict(xs) -/
def eDictL (FA : S → Res D) : S → Res SV := fun r => (FA r).bind fun d r => match d with
  | .list ds => match prsKV ds with
    | some ps => match keysDT ps with
      | some cs => Res.ok (SV.ot (mergeDT [] cs)) r
      | none => Res.bad
    | none => Res.bad
  | _ => Res.bad
variable {W : WX} {e : Expr} {ta : TE} {fa : S → Res D} {p pos : Pos}
end
end QL
namespace QL
open PySem PySem.Spec L2
end QL
namespace QL
open PySem PySem.Spec L2
def preN (a b : List Nat) : Bool := decide (a.take b.length = b)
theorem len_cps (x : Str) : x.length = x.cps.toList.length := by show x.cps.size = _; simp
theorem starts_eq (x y : Str) : Txt.startswith x y = preN x.cps.toList y.cps.toList := by
  unfold Txt.startswith preN
  rw [PySem.StrLaws.subAt_eq, List.drop_zero, len_cps, len_cps, Nat.zero_add]
  by_cases h : x.cps.toList.take y.cps.toList.length = y.cps.toList
  · rw [decide_eq_true h, h]
    have := congrArg List.length h
    rw [List.length_take] at this
    rw [decide_eq_true (by omega)]
    simp
  · rw [decide_eq_false h]
    have : (x.cps.toList.take y.cps.toList.length == y.cps.toList) = false := by simpa using h
    rw [this, Bool.and_false]
def dStarts : D → List D → Option OV
  | .str a, [.str b] => some (.fz (.bool (preN a.cps.toList b.cps.toList)))
  | _, _ => none
def rStarts : V → List V → Hp → VK → Prop := fun x xs H Q => ∃ (a b : Str), x = .str a ∧ xs = [.str b] ∧ Q (.bl (Txt.startswith a b)) H
theorem opm_starts {K : PySem.W.Frag} : OpM K rStarts dStarts := by
  intro γ O H x ds vs z Q ow h e hq
  unfold dStarts at e
  split at e
  · rename_i a b e1
    cases e1
    cases e
    obtain ⟨v, ws, e1, r1, e4⟩ := h
    simp only [RE, R] at r1
    exact ⟨_, b, rfl, by rw [e1, e4, r1], hq _ (by simp [R, starts_eq])⟩
  · cases e
end QL
namespace QP
open PySem PySem.Spec L2 QL
def B__law_pick : S → RS := sSeq (sIf (tV (fD (fOp dGe (fD (fTk 0 true)) (gV 1)))) (sSeq (sAsg 2 (fOp dMod (fD (fCB dInt (aCons (fD (fTk 0 true)) (aNil)))) (gV 1)))
  (sSeq (sTk 0 true (fD (fOp dFdiv (fD (fTk 0 true)) (gV 1))))
  (sRetV 2))) (sNext))
  (sSeq (sTk 0 false (fD (fOp dMod (fD (fCB dInt (aCons (fD (fOp dAdd (fD (fOp dMul (fD (fTk 0 false)) (fC (.int 40014)))) (fC (.int 1031)))) (aNil)))) (fC (.int 2147483563)))))
  (sSeq (sAsg 3 (fOp dMod (fD (fCB dInt (aCons (fD (fOp dPow (fD (fTk 0 false)) (fC (.int 2)))) (aNil)))) (fC (.int 2147483399))))
  (sRet (fOp dMod (fD (fCB dInt (aCons (fD (fOp dFdiv (fD (fOp dMod (fD (fCB dInt (aCons (fD (fOp dPow (gV 3) (fC (.int 3)))) (aNil)))) (fC (.int 998244353)))) (fC (.int 13)))) (aNil)))) (gV 1)))))
def F__law_pick : Int × Int → List D → FR := bodyT 4 B__law_pick
def is_text_t1 : S → Res Bool := tV (fD (fOp dNotIn (gV 1) (fC (.str "abcdefghijklmnopqrstuvwxyz"))))
def is_text_e2 : S → Res D := fV 1
def B_is_text : S → RS := sRet (eAndF (fD (fOp1 (dIsi "str") (gV 0))) (fOp dEq (fD (fLc [1] (fItems (fV 0)) (gNm 1) (is_text_t1) (is_text_e2))) (fD (eLst (aNil)))))
def F_is_text : List D → FR := bodyF 2 B_is_text
def B_is_saying_in (Fr : List D → FR) : S → RS := sSeq (sIf (tOrF (tNotF (tV (fD (fOp1 (dIsi "tuple") (gV 0))))) (tOrF (tV (fD (fOp dEq (gV 1) (fC (.int 0))))) (tOrF (tV (fD (fOp dLt (fD (fCB dLen (aCons (gV 0) (aNil)))) (fC (.int 2))))) (tNotF (tV (fD (fOp1 (dIsi "str") (fD (fOp dIx (gV 0) (fC (.int 0))))))))))) (sRet (eD (fC (.bool false)))) (sNext))
  (sSeq (sIf (tV (fD (fOp dEq (fD (fOp dIx (gV 0) (fC (.int 0)))) (fC (.str "has"))))) (sRet (eAndF (fD (fOp dEq (fD (fCB dLen (aCons (gV 0) (aNil)))) (fC (.int 2)))) (fCall 1 F_is_text (aCons (fD (fOp dIx (gV 0) (fC (.int 1)))) (aNil))))) (sNext))
  (sSeq (sIf (tV (fD (fOp dEq (fD (fOp dIx (gV 0) (fC (.int 0)))) (fC (.str "not"))))) (sRet (eAndF (fD (fOp dEq (fD (fCB dLen (aCons (gV 0) (aNil)))) (fC (.int 2)))) (fCall 2 Fr (aCons (fD (fOp dIx (gV 0) (fC (.int 1)))) (aCons (fD (fOp dSub (gV 1) (fC (.int 1)))) (aNil)))))) (sNext))
  (sSeq (sIf (tOrF (tV (fD (fOp dNotIn (fD (fOp dIx (gV 0) (fC (.int 0)))) (fD (eTup (aCons (fC (.str "and")) (aCons (fC (.str "or")) (aNil)))))))) (tV (fD (fOp dNe (fD (fCB dLen (aCons (gV 0) (aNil)))) (fC (.int 3)))))) (sRet (eD (fC (.bool false)))) (sNext))
  (sRet (eAndF (fD (fCall 2 Fr (aCons (fD (fOp dIx (gV 0) (fC (.int 1)))) (aCons (fD (fOp dSub (gV 1) (fC (.int 1)))) (aNil))))) (fCall 2 Fr (aCons (fD (fOp dIx (gV 0) (fC (.int 2)))) (aCons (fD (fOp dSub (gV 1) (fC (.int 1)))) (aNil)))))))))
def R_is_saying_in : Nat → List D → FR
  | 0 => fun _ => .bad
  | d + 1 => bodyF 2 (B_is_saying_in (R_is_saying_in d))
def F_is_saying_in : List D → FR := R_is_saying_in 12
def B_is_saying : S → RS := sRet (fCall 2 F_is_saying_in (aCons (fV 0) (aCons (fC (.int 10)) (aNil))))
def F_is_saying : List D → FR := bodyF 1 B_is_saying
def B__law_one_of : S → RS := sRet (fOp dIx (gV 1) (fD (fCallT 0 1 F__law_pick (aCons (fD (fCB dLen (aCons (gV 1) (aNil)))) (aNil)))))
def F__law_one_of : Int × Int → List D → FR := bodyT 2 B__law_one_of
def _law_drawn_text_e1 : S → Res D := fD (fCallT 0 1 F__law_one_of (aCons (fV 1) (aNil)))
def B__law_drawn_text : S → RS := sSeq (sAsg 3 (fMt dJoin (fC (.str "")) (aCons (fD (fLc [5] (fRng1 (aCons (fD (fCallT 0 1 F__law_pick (aCons (fD (fOp dAdd (gV 2) (fC (.int 1)))) (aNil)))) (aNil))) (gNm 5) (tYesF) (_law_drawn_text_e1))) (aNil))))
  (sSeq (sIf (tAndF (tV (fD (fOp dEq (fD (fCallT 0 1 F__law_pick (aCons (fC (.int 3)) (aNil)))) (fC (.int 0))))) (tV (fD (fOp dGt (fD (fCB dLen (aCons (gV 3) (aNil)))) (fC (.int 1)))))) (sSeq (sAsg 4 (fSl (gV 3) (oNon) (oSom (fD (fOp dAdd (fC (.int 1)) (fD (fCallT 0 1 F__law_pick (aCons (fC (.int 3)) (aNil)))))))))
  (sAsg 3 (fSl (fD (fOp dMul (gV 4) (fD (fCB dLen (aCons (gV 3) (aNil)))))) (oNon) (oSom (fD (fCB dLen (aCons (gV 3) (aNil)))))))) (sNext))
  (sRetV 3))
def F__law_drawn_text : Int × Int → List D → FR := bodyT 6 B__law_drawn_text
def B__law_drawn_saying (Fr : Int × Int → List D → FR) : S → RS := sSeq (sAsg 3 (eIfF (tV (fD (fOp dGt (gV 2) (fC (.int 1))))) (fCallT 0 1 F__law_pick (aCons (fC (.int 6)) (aNil))) (eD (fC (.int 0)))))
  (sSeq (sIf (tV (fD (fOp dLt (gV 3) (fC (.int 2))))) (sRet (eTup (aCons (fC (.str "has")) (aCons (fD (fCallT 0 2 F__law_drawn_text (aCons (fV 1) (aCons (fC (.int 2)) (aNil))))) (aNil))))) (sNext))
  (sSeq (sIf (tV (fD (fOp dEq (gV 3) (fC (.int 2))))) (sRet (eTup (aCons (fC (.str "not")) (aCons (fD (fCallT 0 2 Fr (aCons (fV 1) (aCons (fD (fOp dSub (gV 2) (fC (.int 1)))) (aNil))))) (aNil))))) (sNext))
  (sRet (eTup (aCons (fD (eIfF (tV (fD (fOp dLt (gV 3) (fC (.int 5))))) (eD (fC (.str "and"))) (eD (fC (.str "or"))))) (aCons (fD (fCallT 0 2 Fr (aCons (fV 1) (aCons (fD (fOp dSub (gV 2) (fC (.int 1)))) (aNil))))) (aCons (fD (fCallT 0 2 Fr (aCons (fV 1) (aCons (fD (fOp dSub (gV 2) (fC (.int 1)))) (aNil))))) (aNil))))))))
def R__law_drawn_saying : Nat → Int × Int → List D → FR
  | 0 => fun _ _ => .bad
  | d + 1 => bodyT 4 (B__law_drawn_saying (R__law_drawn_saying d))
def F__law_drawn_saying : Int × Int → List D → FR := R__law_drawn_saying 12
def B__law_any : S → RS := sSeq (sAsg 1 (eLst (aCons (fC .none) (aCons (fC (.bool true)) (aCons (fC (.bool false)) (aCons (fC (.int 0)) (aCons (fC (.int 1)) (aCons (fC (.int 2)) (aCons (fC (.int 3)) (aCons (fC (.int 7)) (aCons (fD (fOp dSub (fC (.int 0)) (fC (.int 1)))) (aCons (fD (fOp dPow (fC (.int 10)) (fC (.int 39)))) (aCons (fC (.str "")) (aCons (fC (.str "a")) (aCons (fC (.str "ab")) (aCons (fC (.str "ba")) (aCons (fC (.str "A")) (aCons (fC (.str "a b")) (aCons (fC (.str "abc")) (aCons (fD (eTup (aNil))) (aCons (fD (eLst (aNil))) (aCons (fD (eDK)) (aCons (fD (eTup (aCons (fC (.int 0)) (aNil)))) (aCons (fD (eLst (aCons (fC (.int 0)) (aNil)))) (aCons (fD (eDisp (pCons (fC (.str "a")) (fC (.int 1)) (pNil)))) (aCons (fD (eTup (aCons (fC (.int 0)) (aCons (fC (.int 0)) (aNil))))) (aNil)))))))))))))))))))))))))))
  (sSeq (sAsg 1 (fOp dAdd (gV 1) (fD (eLst (aCons (fD (eTup (aCons (fC (.str "has")) (aCons (fC (.str "a")) (aNil))))) (aCons (fD (eTup (aCons (fC (.str "not")) (aCons (fD (eTup (aCons (fC (.str "has")) (aCons (fC (.str "a")) (aNil))))) (aNil))))) (aCons (fD (eTup (aCons (fC (.str "out")) (aCons (fC (.int 0)) (aNil))))) (aCons (fD (eTup (aCons (fC (.str "swap")) (aCons (fC (.int 0)) (aNil))))) (aCons (fD (eTup (aCons (fC (.str "in")) (aCons (fC (.int 0)) (aCons (fC (.str "a")) (aNil)))))) (aCons (fD (eLst (aCons (fD (eTup (aCons (fC (.str "out")) (aCons (fC (.int 0)) (aNil))))) (aNil)))) (aCons (fD (eDispT (pCons (fD (eTup (aCons (fC (.int 0)) (aCons (fC (.int 0)) (aNil))))) (fC (.int 0)) (pNil)))) (aCons (fD (eLst (aCons (fD (eTup (aCons (fC (.int 0)) (aCons (fC (.str "")) (aNil))))) (aNil)))) (aCons (fD (eTup (aCons (fC (.str "a")) (aCons (fC (.str "a")) (aNil))))) (aNil))))))))))))))
  (sRet (fCallT 0 1 F__law_one_of (aCons (fD (fOp dAdd (gV 1) (fD (eLst (aCons (fD (eLst (aCons (fC (.str "a")) (aNil)))) (aCons (fD (eLst (aCons (fC (.str "")) (aCons (fC (.str "a")) (aNil))))) (aCons (fD (eTup (aCons (fC (.str "behind")) (aCons (fC (.str "a")) (aNil))))) (aCons (fD (eTup (aCons (fC (.str "strike")) (aCons (fC (.int 0)) (aNil))))) (aCons (fD (eLst (aCons (fD (eTup (aCons (fC (.int 0)) (aCons (fC (.int 0)) (aNil))))) (aNil)))) (aCons (fD (eTup (aCons (fC .none) (aNil)))) (aCons (fD (eLst (aCons (fC .none) (aNil)))) (aCons (fC (.str "0")) (aCons (fC (.str "has a")) (aCons (fC (.str "letters a")) (aNil))))))))))))))) (aNil)))))
def F__law_any : Int × Int → List D → FR := bodyT 2 B__law_any
def _law_is_saying_t1 (Fr : List D → FR) : S → Res Bool := tNotF (tV (fD (fChain dLe dLe (fC (.str "a")) (gV 2) (fC (.str "z")))))
def _law_is_saying_e2 (Fr : List D → FR) : S → Res D := fV 2
def _law_is_saying_t3 (Fr : List D → FR) : S → Res Bool := tNotF (tV (fD (fCall 2 Fr (aCons (fV 3) (aCons (fD (fOp dSub (gV 1) (fC (.int 1)))) (aNil))))))
def _law_is_saying_e4 (Fr : List D → FR) : S → Res D := fV 3
def B__law_is_saying (Fr : List D → FR) : S → RS := sSeq (sIf (tOrF (tNotF (tV (fD (fOp1 (dIsi "tuple") (gV 0))))) (tOrF (tV (fD (fOp dEq (gV 1) (fC (.int 0))))) (tV (fD (fOp dEq (gV 0) (fD (eTup (aNil)))))))) (sRet (eD (fC (.bool false)))) (sNext))
  (sSeq (sIf (tV (fD (fOp dEq (fD (fCB dReprA (aCons (fD (fOp dIx (gV 0) (fC (.int 0)))) (aNil)))) (fD (fCB dReprA (aCons (fC (.str "has")) (aNil))))))) (sRet (eAndF (fD (fOp dEq (fD (fCB dLen (aCons (gV 0) (aNil)))) (fC (.int 2)))) (eAndF (fD (fOp1 (dIsi "str") (fD (fOp dIx (gV 0) (fC (.int 1)))))) (fOp dEq (fD (fLc [2] (fItems (fD (fCB dListA (aCons (fD (fOp dIx (gV 0) (fC (.int 1)))) (aNil))))) (gNm 2) (_law_is_saying_t1 Fr) (_law_is_saying_e2 Fr))) (fD (eLst (aNil))))))) (sNext))
  (sSeq (sIf (tOrF (tV (fD (fOp dNotIn (fD (fCB dReprA (aCons (fD (fOp dIx (gV 0) (fC (.int 0)))) (aNil)))) (fD (eLst (aCons (fD (fCB dReprA (aCons (fC (.str "not")) (aNil)))) (aCons (fD (fCB dReprA (aCons (fC (.str "and")) (aNil)))) (aCons (fD (fCB dReprA (aCons (fC (.str "or")) (aNil)))) (aNil))))))))) (tV (fD (fOp dNe (fD (fCB dLen (aCons (gV 0) (aNil)))) (fD (eIfF (tV (fD (fOp dEq (fD (fOp dIx (gV 0) (fC (.int 0)))) (fC (.str "not"))))) (eD (fC (.int 2))) (eD (fC (.int 3))))))))) (sRet (eD (fC (.bool false)))) (sNext))
  (sRet (fOp dEq (fD (fLc [3] (fItems (fD (fSl (gV 0) (oSom (fC (.int 1))) (oNon)))) (gNm 3) (_law_is_saying_t3 Fr) (_law_is_saying_e4 Fr))) (fD (eLst (aNil)))))))
def R__law_is_saying : Nat → List D → FR
  | 0 => fun _ => .bad
  | d + 1 => bodyF 4 (B__law_is_saying (R__law_is_saying d))
def F__law_is_saying : List D → FR := R__law_is_saying 12
def B__law_bent_saying (Fr : Int × Int → List D → FR) : S → RS := sSeq (sAsg 2 (fCallT 0 1 F__law_pick (aCons (fC (.int 8)) (aNil))))
  (sSeq (sIf (tAndF (tV (fD (fOp dLt (gV 2) (fC (.int 3))))) (tV (fD (fOp dNe (fD (fOp dIx (gV 1) (fC (.int 0)))) (fC (.str "has")))))) (sSeq (sAsg 3 (fOp dAdd (fC (.int 1)) (fD (fCallT 0 1 F__law_pick (aCons (fD (fOp dSub (fD (fCB dLen (aCons (gV 1) (aNil)))) (fC (.int 1)))) (aNil))))))
  (sRet (fOp dAdd (fD (fOp dAdd (fD (fSl (gV 1) (oNon) (oSom (gV 3)))) (fD (eTup (aCons (fD (fCallT 0 1 Fr (aCons (fD (fOp dIx (gV 1) (gV 3))) (aNil)))) (aNil)))))) (fD (fSl (gV 1) (oSom (fD (fOp dAdd (gV 3) (fC (.int 1))))) (oNon)))))) (sNext))
  (sSeq (sAsg 4 (eLst (aCons (fC .none) (aCons (fD (fCB dListA (aCons (gV 1) (aNil)))) (aCons (fD (fOp dAdd (gV 1) (fD (eTup (aCons (fD (eTup (aCons (fC (.str "has")) (aCons (fC (.str "a")) (aNil))))) (aNil)))))) (aCons (fD (fSl (gV 1) (oNon) (oSom (fC (.int 1))))) (aCons (fD (eTup (aNil))) (aCons (fD (eTup (aCons (fC (.str "has")) (aCons (fC (.str "A")) (aNil))))) (aCons (fD (eTup (aCons (fC (.str "has")) (aCons (fD (fOp dAdd (fC (.str "a")) (fD (fCallT 0 1 F__law_one_of (aCons (fD (eLst (aCons (fC (.str " ")) (aCons (fC (.str "1")) (aCons (fC (.str "-")) (aCons (fC (.str "_")) (aCons (fC (.str "{")) (aCons (fC (.str "~")) (aCons (fC (.str "\n")) (aCons (fC (.str "\t")) (aCons (fC (.str "!")) (aNil)))))))))))) (aNil)))))) (aNil))))) (aCons (fD (eTup (aCons (fC (.str "has")) (aCons (fC .none) (aNil))))) (aCons (fD (eTup (aCons (fC (.str "has")) (aCons (fD (eLst (aCons (fC (.str "a")) (aNil)))) (aNil))))) (aCons (fD (eTup (aCons (fC (.str "has")) (aNil)))) (aCons (fD (eTup (aCons (fC (.str "has")) (aCons (fC (.str "a")) (aCons (fC (.str "b")) (aNil)))))) (aCons (fD (eTup (aCons (fC (.str "nor")) (aCons (fV 1) (aNil))))) (aNil)))))))))))))))
  (sSeq (sAsg 4 (fOp dAdd (gV 4) (fD (eLst (aCons (fD (eTup (aCons (fC (.str "not")) (aCons (fV 1) (aCons (fV 1) (aNil)))))) (aCons (fD (eTup (aCons (fC (.str "and")) (aCons (fV 1) (aNil))))) (aCons (fD (eTup (aCons (fC (.str "or")) (aCons (fV 1) (aCons (fC (.str "a")) (aNil)))))) (aCons (fD (eTup (aCons (fV 1) (aCons (fC (.str "and")) (aCons (fV 1) (aNil)))))) (aCons (fD (eTup (aCons (fC (.str "Has")) (aCons (fC (.str "a")) (aNil))))) (aCons (fD (eTup (aCons (fC .none) (aCons (fC (.str "a")) (aNil))))) (aCons (fD (eTup (aCons (fD (eLst (aCons (fC (.str "has")) (aNil)))) (aCons (fC (.str "a")) (aNil))))) (aCons (fD (eTup (aCons (fD (eLst (aNil))) (aCons (fC (.str "a")) (aNil))))) (aCons (fD (eTup (aCons (fD (eDK)) (aCons (fV 1) (aNil))))) (aCons (fD (fCallT 0 0 F__law_any (aNil))) (aNil)))))))))))))))
  (sRet (eIfF (tV (fD (fOp dLt (gV 2) (fC (.int 6))))) (fCallT 0 1 F__law_one_of (aCons (fV 4) (aNil))) (eD (fV 1)))))))
def R__law_bent_saying : Nat → Int × Int → List D → FR
  | 0 => fun _ _ => .bad
  | d + 1 => bodyT 5 (B__law_bent_saying (R__law_bent_saying d))
def F__law_bent_saying : Int × Int → List D → FR := R__law_bent_saying 12
def B_must_be_saying_v2 : S → RS := sIf (tNotF (tV (fD (fCall 1 F_is_saying (aCons (fV 0) (aNil)))))) (sRaise "BadSaying" "value" (fV 0)) (sNext)
def F_must_be_saying_v2 : List D → FR := bodyF 1 B_must_be_saying_v2
end QP
namespace QP
open PySem PySem.Spec L2 QL
def _law_signs_t1 (Fr : List D → FR) : S → Res Bool := tV (fD (fOp dNe (gV 2) (fC (.str ""))))
def _law_signs_e2 (Fr : List D → FR) : S → Res D := fV 2
def _law_signs_e3 (Fr : List D → FR) : S → Res D := fD (fOp dAdd (fD (fOp dAdd (fC (.str "(")) (fD (fCall 1 Fr (aCons (fV 2) (aNil)))))) (fC (.str ")")))
def B__law_signs (Fr : List D → FR) : S → RS := sSeq (sIf (tV (fD (fOp dEq (fD (fOp dIx (gV 0) (fC (.int 0)))) (fC (.str "has"))))) (sRet (fMt dJoin (fC (.str " ")) (aCons (fD (fOp dAdd (fD (eLst (aCons (fC (.str "has")) (aNil)))) (fD (fLc [2] (fItems (fD (eLst (aCons (fD (fOp dIx (gV 0) (fC (.int 1)))) (aNil))))) (gNm 2) (_law_signs_t1 Fr) (_law_signs_e2 Fr))))) (aNil)))) (sNext))
  (sSeq (sAsg 1 (fLc [2] (fItems (fD (fSl (gV 0) (oSom (fC (.int 1))) (oNon)))) (gNm 2) (tYesF) (_law_signs_e3 Fr)))
  (sRet (eIfF (tV (fD (fOp dEq (fD (fOp dIx (gV 0) (fC (.int 0)))) (fC (.str "not"))))) (fOp dAdd (fC (.str "not ")) (fD (fOp dIx (gV 1) (fC (.int 0))))) (fMt dJoin (fD (fOp dAdd (fD (fOp dAdd (fC (.str " ")) (fD (fOp dIx (gV 0) (fC (.int 0)))))) (fC (.str " ")))) (aCons (gV 1) (aNil))))))
def R__law_signs : Nat → List D → FR
  | 0 => fun _ => .bad
  | d + 1 => bodyF 3 (B__law_signs (R__law_signs d))
def F__law_signs : List D → FR := R__law_signs 12
def closing_b1 : S → RS := sSeq (sIf (tV (fD (fOp dEq (fD (fOp dIx (gV 0) (gV 3))) (fC (.str "("))))) (sAug 2 (fun i j => i + j) (fC (.int 1))) (sNext))
  (sIf (tV (fD (fOp dEq (fD (fOp dIx (gV 0) (gV 3))) (fC (.str ")"))))) (sSeq (sAug 2 (fun i j => i - j) (fC (.int 1)))
  (sIf (tV (fD (fOp dEq (gV 2) (fC (.int 0))))) (sRetV 3) (sNext))) (sNext))
def B_closing : S → RS := sSeq (sAsg 2 (eD (fC (.int 0))))
  (sSeq (sFor (fRng2 (aCons (fV 1) (aCons (fD (fCB dLen (aCons (gV 0) (aNil)))) (aNil)))) (gNm 3) (closing_b1))
  (sRet (fOp1 dNeg (fC (.int 1)))))
def F_closing : List D → FR := bodyF 4 B_closing
def B_inner : S → RS := sSeq (sIf (tOrF (tV (fD (fOp dNe (fD (fSl (gV 0) (oSom (gV 1)) (oSom (fD (fOp dAdd (gV 1) (fC (.int 1))))))) (fC (.str "("))))) (tV (fD (fOp dNe (fD (fCall 2 F_closing (aCons (fV 0) (aCons (fV 1) (aNil))))) (fD (fOp dSub (fD (fCB dLen (aCons (gV 0) (aNil)))) (fC (.int 1)))))))) (sRet (eD (fC .none))) (sNext))
  (sRet (fSl (gV 0) (oSom (fD (fOp dAdd (gV 1) (fC (.int 1))))) (oSom (fD (fOp1 dNeg (fC (.int 1)))))))
def F_inner : List D → FR := bodyF 2 B_inner
def saying_of_b1 (Fr : List D → FR) : S → RS := sIf (tAndF (tV (fD (fOp dGt (gV 3) (fC (.int 0))))) (tV (fD (fMt dStarts (fD (fSl (gV 0) (oSom (fD (fOp dAdd (gV 3) (fC (.int 1))))) (oNon))) (aCons (fD (fOp dAdd (fD (fOp dAdd (fC (.str " ")) (gV 4))) (fC (.str " ")))) (aNil)))))) (sSeq (sAsg 5 (fCall 2 Fr (aCons (fD (fSl (gV 0) (oSom (fC (.int 1))) (oSom (gV 3)))) (aCons (fD (fOp dSub (gV 1) (fC (.int 1)))) (aNil)))))
  (sSeq (sAsg 6 (fCall 2 Fr (aCons (fD (fCall 2 F_inner (aCons (fV 0) (aCons (fD (fOp dAdd (fD (fOp dAdd (gV 3) (fD (fCB dLen (aCons (gV 4) (aNil)))))) (fC (.int 3)))) (aNil))))) (aCons (fD (fOp dSub (gV 1) (fC (.int 1)))) (aNil)))))
  (sRet (eIfF (tAndF (tV (fD (fOp dIsNot (gV 5) (fC .none)))) (tV (fD (fOp dIsNot (gV 6) (fC .none))))) (eTup (aCons (fV 4) (aCons (fV 5) (aCons (fV 6) (aNil))))) (eD (fC .none)))))) (sNext)
def B_saying_of (Fr : List D → FR) : S → RS := sSeq (sIf (tOrF (tV (fD (fOp dIs (gV 0) (fC .none)))) (tV (fD (fOp dEq (gV 1) (fC (.int 0)))))) (sRet (eD (fC .none))) (sNext))
  (sSeq (sIf (tOrF (tV (fD (fOp dEq (gV 0) (fC (.str "has"))))) (tAndF (tV (fD (fMt dStarts (gV 0) (aCons (fC (.str "has ")) (aNil))))) (tAndF (tV (fD (fCall 1 F_is_text (aCons (fD (fSl (gV 0) (oSom (fC (.int 4))) (oNon))) (aNil))))) (tV (fD (fOp dNe (gV 0) (fC (.str "has ")))))))) (sRet (eTup (aCons (fC (.str "has")) (aCons (fD (fSl (gV 0) (oSom (fC (.int 4))) (oNon))) (aNil))))) (sNext))
  (sSeq (sIf (tV (fD (fMt dStarts (gV 0) (aCons (fC (.str "not ")) (aNil))))) (sSeq (sAsg 2 (fCall 2 Fr (aCons (fD (fCall 2 F_inner (aCons (fV 0) (aCons (fC (.int 4)) (aNil))))) (aCons (fD (fOp dSub (gV 1) (fC (.int 1)))) (aNil)))))
  (sRet (eIfF (tV (fD (fOp dIsNot (gV 2) (fC .none)))) (eTup (aCons (fC (.str "not")) (aCons (fV 2) (aNil)))) (eD (fC .none))))) (sNext))
  (sSeq (sAsg 3 (eIfF (tV (fD (fMt dStarts (gV 0) (aCons (fC (.str "(")) (aNil))))) (fCall 2 F_closing (aCons (fV 0) (aCons (fC (.int 0)) (aNil)))) (fOp1 dNeg (fC (.int 1)))))
  (sSeq (sFor (fItems (fD (eTup (aCons (fC (.str "and")) (aCons (fC (.str "or")) (aNil)))))) (gNm 4) (saying_of_b1 Fr))
  (sRet (eD (fC .none)))))))
def R_saying_of : Nat → List D → FR
  | 0 => fun _ => .bad
  | d + 1 => bodyF 7 (B_saying_of (R_saying_of d))
def F_saying_of : List D → FR := R_saying_of 12
def B_read_saying : S → RS := sSeq (sAsg 1 (eIfF (tV (fD (fOp1 (dIsi "str") (gV 0)))) (fCall 2 F_saying_of (aCons (fV 0) (aCons (fC (.int 10)) (aNil)))) (eD (fC .none))))
  (sSeq (sIf (tOrF (tV (fD (fOp dIs (gV 1) (fC .none)))) (tNotF (tV (fD (fCall 1 F_is_saying (aCons (fV 1) (aNil))))))) (sRaise "BadSigns" "value" (fV 0)) (sNext))
  (sRetV 1))
def F_read_saying : List D → FR := bodyF 2 B_read_saying
def signs_of_e1 (Fr : List D → FR) : S → Res D := fD (fOp dAdd (fD (fOp dAdd (fC (.str "(")) (fD (fCall 1 Fr (aCons (fV 2) (aNil)))))) (fC (.str ")")))
def B_signs_of (Fr : List D → FR) : S → RS := sSeq (sIf (tV (fD (fOp dEq (fD (fOp dIx (gV 0) (fC (.int 0)))) (fC (.str "has"))))) (sRet (eIfF (tV (fD (fOp dNe (fD (fOp dIx (gV 0) (fC (.int 1)))) (fC (.str ""))))) (fOp dAdd (fC (.str "has ")) (fD (fOp dIx (gV 0) (fC (.int 1))))) (eD (fC (.str "has"))))) (sNext))
  (sSeq (sAsg 1 (fLc [2] (fItems (fD (fSl (gV 0) (oSom (fC (.int 1))) (oNon)))) (gNm 2) (tYesF) (signs_of_e1 Fr)))
  (sRet (eIfF (tV (fD (fOp dEq (fD (fOp dIx (gV 0) (fC (.int 0)))) (fC (.str "not"))))) (fOp dAdd (fC (.str "not ")) (fD (fOp dIx (gV 1) (fC (.int 0))))) (fOp dAdd (fD (fOp dAdd (fD (fOp dAdd (fD (fOp dAdd (fD (fOp dIx (gV 1) (fC (.int 0)))) (fC (.str " ")))) (fD (fOp dIx (gV 0) (fC (.int 0)))))) (fC (.str " ")))) (fD (fOp dIx (gV 1) (fC (.int 1))))))))
def R_signs_of : Nat → List D → FR
  | 0 => fun _ => .bad
  | d + 1 => bodyF 3 (B_signs_of (R_signs_of d))
def F_signs_of : List D → FR := R_signs_of 12
def B_format_saying : S → RS := sSeq (sExp (fCall 1 F_must_be_saying_v2 (aCons (fV 0) (aNil))))
  (sRet (fCall 1 F_signs_of (aCons (fV 0) (aNil))))
def F_format_saying : List D → FR := bodyF 1 B_format_saying
end QP
namespace QM
open PySem PySem.Spec L2 QL QP
section
variable {α β : Type} {a : α} {s r : S} {c : Str} {f : List (Str × D)} {k : α → S → Res β} {kS : α → S → RS} {kR : S → RS}
@[simp] theorem bind_ok : (Res.ok a s).bind k = k a s := rfl
@[simp] theorem bind_exc : (Res.exc c f s : Res α).bind k = .exc c f s := rfl
@[simp] theorem bind_bad : (Res.bad : Res α).bind k = .bad := rfl
@[simp] theorem bindS_ok : (Res.ok a s).bindS kS = kS a s := rfl
@[simp] theorem bindS_exc : (Res.exc c f s : Res α).bindS kS = .exc c f s := rfl
@[simp] theorem bindS_bad : (Res.bad : Res α).bindS kS = .bad := rfl
@[simp] theorem go_nx : (RS.nx s).go kR = kR s := rfl
@[simp] theorem go_rt {v : SV} : (RS.rt v s).go kR = .rt v s := rfl
@[simp] theorem go_exc : (RS.exc c f s).go kR = .exc c f s := rfl
@[simp] theorem go_bad : RS.bad.go kR = .bad := rfl
end
section
variable {r : S} {fa fb fc : S → Res D} {F G : S → Res SV} {FL : S → Res (List D)} {FS : S → Res (List SV)} {T U : S → Res Bool} {A B C : S → RS} {op : D → D → Option OV} {o1 : D → Option OV} {ob : List D → Option OV} {om : D → List D → Option OV} {d e : D} {x : SV} {i j l n : Nat} {a b : Int} {z y : Str} {ds es : List D} {sl : List (Option SV)} {tp : Option (Int × Int)}
@[simp] theorem s_fC : fC d r = .ok d r := id rfl
@[simp] theorem s_fD : fD F r = (F r).bind fun x r => asD x r fun d r => .ok d r := id rfl
@[simp] theorem s_eD : eD fa r = (fa r).bind fun d r => .ok (.fz d) r := id rfl
@[simp] theorem s_asfz {α} {k : D → S → Res α} : asD (.fz d) r k = k d r := id rfl
@[simp] theorem s_asol {α} {k : D → S → Res α} : asD (.ol ds) r k = k (.list ds) r := id rfl
@[simp] theorem s_fOp : fOp op fa fb r = (fa r).bind fun x r => (fb r).bind fun y r => ovR (op x y) r := id rfl
@[simp] theorem s_fOp1 : fOp1 o1 fa r = (fa r).bind fun x r => ovR (o1 x) r := id rfl
@[simp] theorem s_fCB : fCB ob FL r = (FL r).bind fun ds r => ovR (ob ds) r := id rfl
@[simp] theorem s_fMt : fMt om fa FL r = (fa r).bind fun x r => match x with
  | .str z => (FL r).bind fun ds r => ovR (om (.str z) ds) r
  | _ => Res.bad := id rfl
@[simp] theorem s_ovfz : ovR (some (.fz d)) r = .ok (.fz d) r := id rfl
@[simp] theorem s_ovnl : ovR (some (.nl ds)) r = .ok (.ol ds) r := id rfl
@[simp] theorem s_ovnt : ovR (some (.nt ds)) r = .ok (.fz (.tuple ds)) r := id rfl
@[simp] theorem s_ovno : ovR none r = .bad := id rfl
@[simp] theorem s_gV : gV i ⟨sl, tp⟩ = match sl[i]? with
  | some (some x) => asD x ⟨sl, tp⟩ fun d r => .ok d r
  | _ => .bad := id rfl
@[simp] theorem s_fV : fV i ⟨sl, tp⟩ = match sl[i]? with
  | some (some x) => asD x ⟨sl, tp⟩ fun d r => .ok d { r with sl := r.sl.set i (some (.fz d)) }
  | _ => .bad := id rfl
@[simp] theorem s_tV : tV fa r = (fa r).bind fun d r => match d with
  | .bool b => .ok b r
  | _ => .bad := id rfl
@[simp] theorem s_tNot : tNotF T r = (T r).bind fun b r => .ok (!b) r := id rfl
@[simp] theorem s_tAnd : tAndF T U r = (T r).bind fun b r => if b then U r else .ok false r := id rfl
@[simp] theorem s_tOr : tOrF T U r = (T r).bind fun b r => if b then .ok true r else U r := id rfl
@[simp] theorem s_eAnd : eAndF fa G r = (fa r).bind fun x r => match x with
  | .bool true => G r
  | .bool false => Res.ok (SV.fz (PyData.bool false)) r
  | _ => Res.bad := id rfl
@[simp] theorem s_eOr : eOrF fa G r = (fa r).bind fun x r => match x with
  | .bool false => G r
  | .bool true => Res.ok (SV.fz (PyData.bool true)) r
  | _ => Res.bad := id rfl
@[simp] theorem s_eNot : eNotF fa r = (fa r).bind fun x r => match x with
  | .bool b => Res.ok (SV.fz (PyData.bool (!b))) r
  | _ => Res.bad := id rfl
@[simp] theorem s_eIf : eIfF T F G r = (T r).bind fun b r => if b then F r else G r := id rfl
@[simp] theorem s_aNil : aNil r = .ok [] r := id rfl
@[simp] theorem s_aCons : aCons fa FL r = (fa r).bind fun d r => (FL r).bind fun ds r => .ok (d :: ds) r := id rfl
@[simp] theorem s_oNil : oNil r = .ok [] r := id rfl
@[simp] theorem s_oCons : oCons F FS r = (F r).bind fun d r => (FS r).bind fun ds r => .ok (d :: ds) r := id rfl
@[simp] theorem s_eLst : eLst FL r = (FL r).bind fun ds r => if ds.length ≤ sizeLine then .ok (.ol ds) r else .bad := id rfl
@[simp] theorem s_eTup : eTup FL r = (FL r).bind fun ds r => if ds.length ≤ sizeLine then .ok (.fz (.tuple ds)) r else .bad := id rfl
@[simp] theorem s_oNon : oNon r = .ok none r := id rfl
@[simp] theorem s_oSom : oSom fa r = (fa r).bind fun d r => match d with
  | .int i => Res.ok (some i) r
  | _ => Res.bad := id rfl
@[simp] theorem s_fSl {fl fh : S → Res (Option Int)} : fSl fa fl fh r = (fa r).bind fun x r => (fl r).bind fun l r => (fh r).bind fun h r => ovR (dSl x l h) r := id rfl
@[simp] theorem s_sSeq : sSeq A B r = (A r).go B := id rfl
@[simp] theorem s_sIf : sIf T A B r = (T r).bindS fun b r => if b then A r else B r := id rfl
@[simp] theorem s_sNext : sNext r = .nx r := id rfl
@[simp] theorem s_sBad : sBad r = .bad := id rfl
@[simp] theorem s_sExp : sExp F r = (F r).bindS fun _ r => .nx r := id rfl
@[simp] theorem s_sRet : sRet F r = (F r).bindS fun x r => .rt x r := id rfl
@[simp] theorem s_sRetV : sRetV i ⟨sl, tp⟩ = match sl[i]? with
  | some (some x) => .rt x ⟨sl.set i none, tp⟩
  | _ => .bad := id rfl
@[simp] theorem s_sAsg : sAsg i F r = (F r).bindS fun x r => setS i x r := id rfl
@[simp] theorem s_setS : setS i x ⟨sl, tp⟩ = if i < sl.length then .nx ⟨sl.set i (some x), tp⟩ else .bad := id rfl
@[simp] theorem s_p2 : sPar2 i j FS r = (FS r).bindS fun xs r => match xs with
  | [x, y] => (setS i x r).go fun r => setS j y r
  | _ => .bad := id rfl
@[simp] theorem s_p3 : sPar3 i j l FS r = (FS r).bindS fun xs r => match xs with
  | [x, y, z] => (setS i x r).go fun r => (setS j y r).go fun r => setS l z r
  | _ => .bad := id rfl
@[simp] theorem s_pN {is : List Nat} : sParN is FS r = (FS r).bindS fun xs r => if xs.length = is.length then setAll is xs r else RS.bad := id rfl
@[simp] theorem s_all0 : setAll [] [] r = .nx r := id rfl
@[simp] theorem s_all1 {is : List Nat} {xs : List SV} : setAll (i :: is) (x :: xs) r = (setS i x r).go (setAll is xs) := id rfl
@[simp] theorem s_sApp : sApp i fa ⟨sl, tp⟩ = match sl[i]? with
  | some (some (.ol _)) => (fa ⟨sl, tp⟩).bindS fun d r => match r.sl[i]? with
    | some (some (.ol xs)) => if xs.length < sizeLine then RS.nx { r with sl := r.sl.set i (some (.ol (xs ++ [d]))) } else RS.bad
    | _ => RS.bad
  | _ => .bad := id rfl
@[simp] theorem s_fTk {k : Bool} : fTk i k ⟨sl, tp⟩ = match sl[i]? with
  | some (some .tape) => match tp with
    | some t => .ok (.fz (.int (tkG k t))) ⟨sl, tp⟩
    | none => .bad
  | _ => .bad := id rfl
@[simp] theorem s_sTk {k : Bool} : sTk i k fa r = (fa r).bindS fun d r => match r.sl[i]? with
  | some (some .tape) => match r.tp, d with
    | some t, .int x => RS.nx { r with tp := some (tkP k t x) }
    | _, _ => RS.bad
  | _ => RS.bad := id rfl
@[simp] theorem s_fItems : fItems fa r = (fa r).bind fun d r => match itemsD d with
  | some ds => Res.ok ds r
  | none => Res.bad := id rfl
@[simp] theorem s_rng1 : fRng1 FL r = (FL r).bind fun ds r => match intsD ds with
  | some [j] => if sml j = true then Res.ok (rngL 0 j.toNat) r else Res.bad
  | _ => Res.bad := id rfl
@[simp] theorem s_rng2 : fRng2 FL r = (FL r).bind fun ds r => match intsD ds with
  | some [i, j] => if sml i = true ∧ sml j = true then Res.ok (rngL i (j - i).toNat) r else Res.bad
  | _ => Res.bad := id rfl
@[simp] theorem s_rng3 : fRng3 FL r = (FL r).bind fun ds r => match intsD ds with
  | some [i, j, c] => if sml i = true ∧ sml j = true ∧ c = -1 then Res.ok ((List.range (i - j).toNat).map fun k => .int (i - (k : Nat))) r else Res.bad
  | _ => Res.bad := id rfl
@[simp] theorem s_lr1 : fLRg1 fa r = (fa r).bind fun d r => match d with
  | .int n => if rgOk 0 n = true then Res.ok (SV.ol (rngL 0 (n - 0).toNat)) r else Res.bad
  | _ => Res.bad := id rfl
@[simp] theorem s_lr2 : fLRg2 fa fb r = (fa r).bind fun d r => (fb r).bind fun d2 r => match d, d2 with
  | .int i, .int j => if rgOk i j = true then Res.ok (SV.ol (rngL i (j - i).toNat)) r else Res.bad
  | _, _ => Res.bad := id rfl
@[simp] theorem s_lr3 : fLRg3 FL r = (FL r).bind fun ds r => match intsD ds with
  | some [i, j, c] => if rgOk i j = true ∧ (i - j).toNat ≤ 2 ^ 24 ∧ c = -1 then Res.ok (SV.ol ((List.range (i - j).toNat).map fun k => .int (i - ((k : Nat) : Int)))) r else Res.bad
  | _ => Res.bad := id rfl
@[simp] theorem s_enum : fEnum FL r = (FL r).bind fun ds r => match ds with
  | [.list ds] => Res.ok (enumL ds) r
  | [.str z] => Res.ok (enumL (z.cps.toList.map fun c => .str (tx [c]))) r
  | _ => Res.bad := id rfl
@[simp] theorem s_sFor {I : S → Res (List D)} {Gf : D → S → Option S} : sFor I Gf B r = (I r).bindS fun ds r => forF Gf B ds r := id rfl
@[simp] theorem s_fLc {vs : List Nat} {I : S → Res (List D)} {Gf : D → S → Option S} : fLc vs I Gf T fa r = (I r).bind fun ds r => match lcF vs Gf T fa ds [] { r with sl := wipeS vs r.sl } with
  | .ok acc r' => Res.ok (SV.ol acc) { r' with sl := restS vs r.sl r'.sl }
  | _ => Res.bad := id rfl
@[simp] theorem s_call {FD : List D → FR} : fCall n FD FL r = (FL r).bind fun ds r => if ds.length = n then outR (FD ds) r else .bad := id rfl
@[simp] theorem s_callT {FD : Int × Int → List D → FR} : fCallT i n FD FL ⟨sl, tp⟩ = match sl[i]? with
  | some (some .tape) => (FL ⟨sl, tp⟩).bind fun ds r => match r.tp with
    | some t => if ds.length = n then outT (FD t ds) r else .bad
    | none => .bad
  | _ => .bad := id rfl
@[simp] theorem s_outR : outR (.ok x tp) r = if x.out then .ok x r else .bad := id rfl
@[simp] theorem s_outRx {c : Str} {f : List (Str × D)} : outR (.exc c f tp) r = .exc c f r := id rfl
@[simp] theorem s_outT {t : Int × Int} : outT (.ok x (some t)) r = if x.out then .ok x { r with tp := some t } else .bad := id rfl
@[simp] theorem s_out1 : (SV.fz d).out = true := id rfl
@[simp] theorem s_out2 : (SV.ol ds).out = true := id rfl
@[simp] theorem s_bodyF : bodyF n B ds = outF (B (mkS n (ds.map .fz) none)) := id rfl
@[simp] theorem s_bodyT {t : Int × Int} : bodyT n B t ds = outF (B (mkS n (.tape :: ds.map .fz) (some t))) := id rfl
@[simp] theorem s_mkS {xs : List SV} : mkS n xs tp = ⟨xs.map some ++ List.replicate (n - xs.length) none, tp⟩ := id rfl
@[simp] theorem s_oF1 : outF (.nx r) = .ok (.fz .none) r.tp := id rfl
@[simp] theorem s_oF2 : outF (.rt x r) = if x.out then .ok x r.tp else .bad := id rfl
@[simp] theorem s_gNm : gNm i d ⟨sl, tp⟩ = if i < sl.length then some ⟨sl.set i (some (.fz d)), tp⟩ else none := id rfl
@[simp] theorem s_gTup {Gs : List D → S → Option S} : gTupF n Gs (.tuple ds) r = if ds.length = n then Gs ds r else none := id rfl
@[simp] theorem s_gNil : gNilF [] r = some r := id rfl
@[simp] theorem s_gCons {Gf : D → S → Option S} {Gs : List D → S → Option S} : gConsF Gf Gs (d :: ds) r = match Gf d r with
  | some r => Gs ds r
  | none => none := id rfl
@[simp] theorem s_wipe0 : wipeS [] sl = sl := id rfl
@[simp] theorem s_wipe1 {vs : List Nat} : wipeS (i :: vs) sl = (wipeS vs sl).set i none := id rfl
@[simp] theorem s_rest0 {old : List (Option SV)} : restS [] old sl = sl := id rfl
@[simp] theorem s_rest1 {vs : List Nat} {old : List (Option SV)} : restS (i :: vs) old sl = match old[i]? with
  | some (some (.fz d)) => (restS vs old sl).set i (some (.fz d))
  | _ => restS vs old sl := id rfl
@[simp] theorem s_tkG1 {t : Int × Int} : tkG true t = t.1 := id rfl
@[simp] theorem s_tkG2 {t : Int × Int} : tkG false t = t.2 := id rfl
@[simp] theorem s_tkP1 {t : Int × Int} : tkP true t a = (a, t.2) := id rfl
@[simp] theorem s_tkP2 {t : Int × Int} : tkP false t a = (t.1, a) := id rfl
@[simp] theorem s_tYes : tYesF r = .ok true r := id rfl
@[simp] theorem d_addI : dAdd (.int a) (.int b) = some (.fz (.int (a + b))) := id rfl
@[simp] theorem d_addS : dAdd (.str z) (.str y) = if z.length + y.length ≤ sizeLine then some (.fz (.str (z ++ y))) else none := id rfl
@[simp] theorem d_addL : dAdd (.list ds) (.list es) = if ds.length + es.length ≤ sizeLine then some (.nl (ds ++ es)) else none := id rfl
@[simp] theorem d_sub : dSub (.int a) (.int b) = some (.fz (.int (a - b))) := id rfl
@[simp] theorem d_mulI : dMul (.int a) (.int b) = if bitsI a + bitsI b ≤ 134217728 then some (.fz (.int (a * b))) else none := id rfl
@[simp] theorem d_mulS : dMul (.str z) (.int b) = if z.length * b.toNat ≤ sizeLine ∧ -(2 ^ 40) < b ∧ b < 2 ^ 40 then some (.fz (.str (tx (List.replicate b.toNat z.cps.toList).flatten))) else none := id rfl
@[simp] theorem d_mulL : dMul (.list ds) (.int b) = if ds.length * b.toNat ≤ sizeLine ∧ -(2 ^ 40) < b ∧ b < 2 ^ 40 then some (.nl (List.replicate b.toNat ds).flatten) else none := id rfl
@[simp] theorem d_div : dFdiv (.int a) (.int b) = if 0 < b ∧ b < 1000000000000000000000000000000 then some (.fz (.int (a / b))) else none := id rfl
@[simp] theorem d_mod : dMod (.int a) (.int b) = if 0 < b then some (.fz (.int (a % b))) else none := id rfl
@[simp] theorem d_pow : dPow (.int a) (.int b) = if 0 ≤ b ∧ (bitsI a : Int) * b ≤ 2 ^ 27 then some (.fz (.int (a ^ b.toNat))) else none := id rfl
@[simp] theorem d_ordI {fi : Int → Int → Bool} {ft : List Nat → List Nat → Bool} : dOrd fi ft (.int a) (.int b) = some (.fz (.bool (fi a b))) := id rfl
@[simp] theorem d_ordS {fi : Int → Int → Bool} {ft : List Nat → List Nat → Bool} : dOrd fi ft (.str z) (.str y) = some (.fz (.bool (ft z.cps.toList y.cps.toList))) := id rfl
@[simp] theorem d_eq {f : Bool → Bool} : dEqF f d e = if okD d = true ∧ okD e = true then some (.fz (.bool (f (PyData.eqv d e)))) else if unEq d e = true then some (.fz (.bool (f false))) else none := by unfold dEqF; rw [okF_eq, okF_eq, eqF_eq]
@[simp] theorem d_inS {f : Bool → Bool} : dInF f (.str z) (.str y) = some (.fz (.bool (f (strIn z y)))) := id rfl
@[simp] theorem d_neg : dNeg (.int a) = some (.fz (.int (-a))) := id rfl
theorem d_ixL : dIx (.list ds) (.int a) = (atI ds a).map .fz := id rfl
theorem d_ixT : dIx (.tuple ds) (.int a) = (atI ds a).map .fz := id rfl
theorem d_ixS : dIx (.str z) (.int a) = if z.length ≤ sizeLine then (atI z.cps.toList a).map fun c => .fz (.str (tx [c])) else none := id rfl
@[simp] theorem d_slL {lo hi : Option Int} : dSl (.list ds) lo hi = some (.nl (cutL ds lo hi)) := id rfl
@[simp] theorem d_slS {lo hi : Option Int} : dSl (.str z) lo hi = if z.length ≤ sizeLine then some (.fz (.str (tx (cutL z.cps.toList lo hi)))) else none := id rfl
@[simp] theorem d_revL : dRev (.list ds) = some (.nl ds.reverse) := id rfl
@[simp] theorem d_revS : dRev (.str z) = if z.length ≤ sizeLine then some (.fz (.str (tx z.cps.toList.reverse))) else none := id rfl
@[simp] theorem d_lenS : dLen [.str z] = if z.length ≤ sizeLine then some (.fz (.int z.length)) else none := id rfl
@[simp] theorem d_lenL : dLen [.list ds] = some (.fz (.int ds.length)) := id rfl
@[simp] theorem d_lenT : dLen [.tuple ds] = some (.fz (.int ds.length)) := id rfl
@[simp] theorem d_int : dInt [.int a] = some (.fz (.int a)) := id rfl
@[simp] theorem d_max2 : dMax2 [.int a, .int b] = some (.fz (.int (if b > a then b else a))) := id rfl
@[simp] theorem d_min2 : dMin2 [.int a, .int b] = some (.fz (.int (if b < a then b else a))) := id rfl
@[simp] theorem d_isi_none {T : String} : dIsi T (PyData.none) = (kitB "NoneType" T).map fun b => .fz (.bool b) := id rfl
@[simp] theorem d_isi_bool {T : String} {p} : dIsi T (PyData.bool p) = (kitB "bool" T).map fun b => .fz (.bool b) := id rfl
@[simp] theorem d_isi_int {T : String} {p} : dIsi T (PyData.int p) = (kitB "int" T).map fun b => .fz (.bool b) := id rfl
@[simp] theorem d_isi_str {T : String} {p} : dIsi T (PyData.str p) = (kitB "str" T).map fun b => .fz (.bool b) := id rfl
@[simp] theorem d_isi_list {T : String} {p} : dIsi T (PyData.list p) = (kitB "list" T).map fun b => .fz (.bool b) := id rfl
@[simp] theorem d_isi_tuple {T : String} {p} : dIsi T (PyData.tuple p) = (kitB "tuple" T).map fun b => .fz (.bool b) := id rfl
@[simp] theorem d_find3 : dFind3 (.str z) [.str y, .int a] = some (.fz (.int (Txt.find3 z y a))) := by rw [← find3f_eq] <;> rfl
@[simp] theorem d_rfind4 : dRfind4 (.str z) [.str y, .int a, .int b] = some (.fz (.int (Txt.rfindIn z y a b))) := by rw [← rfind4f_eq] <;> rfl
@[simp] theorem d_isN {f : Bool → Bool} : dIsF f d .none = some (.fz (.bool (f (isN d)))) := by cases d <;> rfl
@[simp] theorem d_isB {f : Bool → Bool} {p q : Bool} : dIsF f (.bool p) (.bool q) = some (.fz (.bool (f (decide (p = q))))) := id rfl
@[simp] theorem d_ints0 : intsD [] = some [] := id rfl
@[simp] theorem d_ints1 : intsD (.int a :: ds) = (intsD ds).map (a :: ·) := id rfl
@[simp] theorem d_ints {ns : List Int} : intsD (ns.map PyData.int) = some ns := by
  induction ns with
  | nil => rfl
  | cons a r ih => rw [List.map_cons, d_ints1, ih]; rfl
@[simp] theorem d_itL : itemsD (.list ds) = some ds := id rfl
@[simp] theorem d_itT : itemsD (.tuple ds) = some ds := id rfl
@[simp] theorem d_itS : itemsD (.str z) = some (z.cps.toList.map fun c => .str (tx [c])) := id rfl
@[simp] theorem tx_cps' {l : List Nat} : (tx l).cps = l.toArray := id rfl
@[simp] theorem tx_len' {l : List Nat} : (tx l).length = l.length := by simp [tx, Str.length]
@[simp] theorem tx_add {l m : List Nat} : tx l ++ tx m = tx (l ++ m) := by
  show (⟨l.toArray ++ m.toArray⟩ : Str) = ⟨(l ++ m).toArray⟩
  simp
theorem tx_inj {l m : List Nat} : tx l = tx m ↔ l = m := by simp [tx]
end
@[simp] theorem kb_ss : kitB "str" "str" = some true := by decide +kernel
@[simp] theorem kb_ii : kitB "int" "int" = some true := by decide +kernel
@[simp] theorem kb_ib : kitB "int" "bool" = some false := by decide +kernel
@[simp] theorem kb_tt : kitB "tuple" "tuple" = some true := by decide +kernel
@[simp] theorem kb_ll : kitB "list" "list" = some true := by decide +kernel
@[simp] theorem ty_s {z : Str} : tyN (.str z) = "str" := id rfl
@[simp] theorem ty_i {i : Int} : tyN (.int i) = "int" := id rfl
@[simp] theorem ty_t {ds : List D} : tyN (.tuple ds) = "tuple" := id rfl
@[simp] theorem ty_l {ds : List D} : tyN (.list ds) = "list" := id rfl
@[simp] theorem ty_b {b : Bool} : tyN (.bool b) = "bool" := id rfl
@[simp] theorem ty_n : tyN .none = "NoneType" := id rfl
end QM
namespace QM
open PySem PySem.Spec L2 QL QP
theorem strIn_one (c : Nat) (z : Str) : strIn (tx [c]) z = decide (c ∈ z.cps.toList) := (QM.inF_eq _ _).trans (StrLaws.found_one z c)
end QM
namespace QM
open PySem PySem.Spec L2 QL QP
/-- a comprehension whose state stays -/
theorem lcF_map {vs : List Nat} {G : D → S → Option S} {T : S → Res Bool} {F : S → Res D} (p : D → Bool) (f : D → D) {r0 : S} : ∀ (ds acc : List D), acc.length + ds.length ≤ sizeLine →
    (∀ d ∈ ds, ∃ r1 r2, G d r0 = some r1 ∧ T r1 = .ok (p d) r2 ∧ (p d = true → ∃ r3, F r2 = .ok (f d) r3 ∧ (⟨wipeS vs r3.sl, r3.tp⟩ : S) = r0) ∧ (p d = false → (⟨wipeS vs r2.sl, r2.tp⟩ : S) = r0)) →
    lcF vs G T F ds acc r0 = .ok (acc ++ (ds.filter p).map f) r0
  | [], acc, _, _ => by simp [lcF]
  | d :: ds, acc, hl, h => by
    obtain ⟨r1, r2, e1, e2, h1, h2⟩ := h d List.mem_cons_self
    unfold lcF
    rw [e1]
    dsimp only
    rw [e2]
    cases hp : p d with
    | true =>
      obtain ⟨r3, e3, e4⟩ := h1 hp
      dsimp only
      rw [e3]
      dsimp only
      rw [List.length_cons] at hl
      rw [if_pos (by omega), e4, lcF_map p f ds _ (by rw [List.length_append, List.length_singleton]; omega) fun d' hd => h d' (List.mem_cons_of_mem _ hd)]
      rw [List.filter_cons_of_pos hp, List.map_cons, List.append_assoc, List.singleton_append]
    | false =>
      dsimp only
      rw [h2 hp, lcF_map p f ds acc (by rw [List.length_cons] at hl; omega) fun d' hd => h d' (List.mem_cons_of_mem _ hd)]
      rw [List.filter_cons_of_neg (by simp [hp])]
def okN (n : Nat) (d : D) : Prop := d.plain = true ∧ d.depth ≤ n
theorem okN.ok {n : Nat} {d : D} (h : okN n d) (hn : n ≤ 60 := by decide) : okD d = true := by
  unfold okD
  simp only [Bool.and_eq_true, decide_eq_true_eq]
  exact ⟨h.1, Nat.le_trans h.2 hn⟩
theorem okN_all {n : Nat} : ∀ {ds : List D}, (∀ d ∈ ds, okN n d) → PyData.plainAll ds = true ∧ PyData.depthAll ds ≤ n
  | [], _ => ⟨rfl, Nat.zero_le _⟩
  | d :: ds, h => by
    obtain ⟨a, b⟩ := okN_all fun e he => h e (List.mem_cons_of_mem _ he)
    obtain ⟨c, e⟩ := h d List.mem_cons_self
    simp only [PyData.plainAll, PyData.depthAll, Bool.and_eq_true]
    exact ⟨⟨c, a⟩, by omega⟩
theorem okN_list {n : Nat} {ds : List D} (h : ∀ d ∈ ds, okN n d) : okN (n + 1) (.list ds) := by
  obtain ⟨a, b⟩ := okN_all h
  exact ⟨by simpa [PyData.plain] using a, by simp only [PyData.depth]; omega⟩
theorem okN_tup {n : Nat} {ds : List D} (h : ∀ d ∈ ds, okN n d) : okN (n + 1) (.tuple ds) := by
  obtain ⟨a, b⟩ := okN_all h
  exact ⟨by simpa [PyData.plain] using a, by simp only [PyData.depth]; omega⟩
theorem okN.up {n m : Nat} {d : D} (h : okN n d) (hm : n ≤ m) : okN m d := ⟨h.1, Nat.le_trans h.2 hm⟩
theorem okN_int {i : Int} {n : Nat} : okN n (.int i) := ⟨rfl, Nat.zero_le _⟩
theorem okN_str {i : Str} {n : Nat} : okN n (.str i) := ⟨rfl, Nat.zero_le _⟩
@[simp] theorem ok_int {i : Int} : okD (.int i) = true := rfl
@[simp] theorem ok_str {i : Str} : okD (.str i) = true := rfl
@[simp] theorem ok_bool {i : Bool} : okD (.bool i) = true := rfl
@[simp] theorem ok_none : okD .none = true := rfl
@[simp] theorem ok_ints {ns : List Int} : okD (.list (ns.map PyData.int)) = true := (okN_list (n := 0) fun d hd => by obtain ⟨i, _, rfl⟩ := List.mem_map.mp hd; exact okN_int).ok
@[simp] theorem ok_strs {ns : List Str} : okD (.list (ns.map PyData.str)) = true := (okN_list (n := 0) fun d hd => by obtain ⟨i, _, rfl⟩ := List.mem_map.mp hd; exact okN_str).ok
theorem eqv_int {a b : Int} : PyData.eqv (.int a) (.int b) = decide (a = b) := by
  show (a == b) = _
  rw [Bool.eq_iff_iff]; simp
theorem eqv_str {a b : Str} : PyData.eqv (.str a) (.str b) = decide (a = b) := by
  show (a == b) = _
  rw [Bool.eq_iff_iff]; simp
theorem tx_dec {l m : List Nat} : decide (tx l = tx m) = decide (l = m) := by simp [tx_inj]
theorem bits_lt {a : Int} {n : Nat} (h0 : 0 ≤ a) (h : a < 2 ^ n) : bitsI a ≤ n := PySem.intBits_le_iff.mpr (by
  have : ((a.natAbs : Nat) : Int) < ((2 ^ n : Nat) : Int) := by
    rw [Int.natAbs_of_nonneg h0]
    simpa using h
  exact Int.ofNat_lt.mp this)
theorem pick_eq {t : Int × Int} (ok : TapeOk t = true) {many : Int} (h0 : 0 < many) (h1 : many < 1000000000000000000000000000000) : ∃ f t', F__law_pick t [.int many] = .ok (.fz (.int f)) (some t') ∧ TapeOk t' = true ∧ 0 ≤ f ∧ f < many := by
  obtain ⟨d, m⟩ := t
  unfold TapeOk at ok
  simp only [Bool.and_eq_true, decide_eq_true_eq] at ok
  obtain ⟨⟨⟨d0, d1⟩, m0⟩, m1⟩ := ok
  by_cases hd : many ≤ d
  · refine ⟨d % many, (d / many, m), ?_, ?_, Int.emod_nonneg _ (by omega), Int.emod_lt_of_pos _ h0⟩
    · simp [F__law_pick, B__law_pick, hd, h0, h1]
    · unfold TapeOk
      simp only [Bool.and_eq_true, decide_eq_true_eq]
      have q0 : 0 ≤ d / many := Int.ediv_nonneg d0 (by omega)
      have q1 : d / many ≤ d := Int.ediv_le_self _ d0
      exact ⟨⟨⟨q0, PySem.intBits_le_of_natAbs (by omega) d1⟩, m0⟩, m1⟩
  · have b1 : bitsI m + bitsI 40014 ≤ 134217728 := by
      have := bits_lt (n := 40) m0 (by simpa using m1)
      have : bitsI 40014 ≤ 16 := by decide
      omega
    generalize ea : (m * 40014 + 1031) % 2147483563 = a
    have a0 : 0 ≤ a := by rw [← ea]; exact Int.emod_nonneg _ (by decide)
    have a1 : a < 2147483563 := by rw [← ea]; exact Int.emod_lt_of_pos _ (by decide)
    have b2 : (bitsI a : Int) * 2 ≤ 134217728 := by
      have := bits_lt (n := 31) a0 (by omega)
      omega
    generalize eb : a ^ (2 : Int).toNat % 2147483399 = b
    have c0 : 0 ≤ b := by rw [← eb]; exact Int.emod_nonneg _ (by decide)
    have c1 : b < 2147483399 := by rw [← eb]; exact Int.emod_lt_of_pos _ (by decide)
    have b3 : (bitsI b : Int) * 3 ≤ 134217728 := by
      have := bits_lt (n := 31) c0 (by omega)
      omega
    refine ⟨b ^ (3 : Int).toNat % 998244353 / 13 % many, (d, a), ?_, ?_, Int.emod_nonneg _ (by omega), Int.emod_lt_of_pos _ h0⟩
    · have e2 : a ^ 2 % 2147483399 = b := eb
      simp [F__law_pick, B__law_pick, hd, h0, b1, ea, b2, e2, b3]
    · unfold TapeOk
      simp only [Bool.and_eq_true, decide_eq_true_eq]
      exact ⟨⟨⟨d0, d1⟩, a0⟩, by omega⟩
end QM
namespace QM
open PySem PySem.Spec L2 QL QP
def Tx (l : List Nat) : Prop := ∀ c ∈ l, 97 ≤ c ∧ c ≤ 122
instance (l : List Nat) : Decidable (Tx l) := by unfold Tx; infer_instance
theorem alpha_eq : (Str.ofString "abcdefghijklmnopqrstuvwxyz") = tx (List.range' 97 26) := by decide
theorem mem_alpha {c : Nat} : c ∈ List.range' 97 26 ↔ 97 ≤ c ∧ c ≤ 122 := by rw [List.mem_range'_1]; omega
def lets (l : List Nat) : List D := l.map fun c => .str (tx [c])
theorem mem_lets {l : List Nat} {d : D} (h : d ∈ lets l) : ∃ c ∈ l, d = .str (tx [c]) := by
  obtain ⟨c, hc, e⟩ := List.mem_map.mp h
  exact ⟨c, hc, e.symm⟩
def badL (d : D) : Bool := match d with
  | .str z => !strIn z (tx (List.range' 97 26))
  | _ => false
theorem badL_one (c : Nat) : badL (.str (tx [c])) = !decide (97 ≤ c ∧ c ≤ 122) := by
  unfold badL
  dsimp only
  rw [strIn_one]
  congr 1
  have : (tx (List.range' 97 26)).cps.toList = List.range' 97 26 := rfl
  rw [this]
  exact decide_eq_decide.mpr mem_alpha
theorem lets_bad {l : List Nat} : ((lets l).filter badL).map id = [] ↔ Tx l := by
  rw [List.map_id, List.filter_eq_nil_iff]
  constructor
  · intro h c hc
    have := h (.str (tx [c])) (List.mem_map.mpr ⟨c, hc, rfl⟩)
    rw [badL_one] at this
    simpa using this
  · intro h d hd
    obtain ⟨c, hc, rfl⟩ := mem_lets hd
    rw [badL_one]
    simp [h c hc]
theorem is_text_eq (l : List Nat) (hl : l.length ≤ sizeLine) : F_is_text [.str (tx l)] = .ok (.fz (.bool (decide (Tx l)))) none := by
  have h := lcF_map (vs := [1]) (G := gNm 1) (T := is_text_t1) (F := is_text_e2) badL id (r0 := ⟨[some (.fz (.str (tx l))), none], none⟩) (lets l) [] (by simpa [lets] using hl) fun d hd => by
    obtain ⟨c, hc, rfl⟩ := mem_lets hd
    refine ⟨⟨[some (.fz (.str (tx l))), some (.fz (.str (tx [c])))], none⟩, ⟨[some (.fz (.str (tx l))), some (.fz (.str (tx [c])))], none⟩, by simp, ?_, fun _ => ⟨_, by simp [is_text_e2]; rfl, by simp⟩, fun _ => by simp⟩
    simp [is_text_t1, alpha_eq, badL]
  have hb := lets_bad (l := l)
  have ho : okD (.list (((lets l).filter badL).map id)) = true := (okN_list (n := 0) fun d hd => by
    rw [List.map_id] at hd
    obtain ⟨c, _, rfl⟩ := mem_lets (List.mem_filter.mp hd).1
    exact okN_str).ok
  rw [List.nil_append] at h
  generalize ((lets l).filter badL).map id = bs at h hb ho
  have he : PyData.eqv (.list bs) (.list []) = decide (Tx l) := by
    cases bs with
    | nil => simp [PyData.eqv, PyData.eqvAll, hb.mp rfl]
    | cons b bs =>
      have : ¬ Tx l := fun z => by have := hb.mpr z; cases this
      simp [PyData.eqv, PyData.eqvAll, this]
  have o0 : okD (.list []) = true := rfl
  unfold lets at h
  simp [F_is_text, B_is_text, h, ho, he, o0]
theorem cut_nat {α : Type} (xs : List α) (a b : Nat) : cutL xs (some (a : Int)) (some (b : Int)) = (xs.drop (min a xs.length)).take (min b xs.length - min a xs.length) := by
  unfold cutL
  rw [HT.sIx_nat, HT.sIx_nat]
theorem cut_to {α : Type} (xs : List α) (b : Nat) : cutL xs none (some (b : Int)) = xs.take b := by
  unfold cutL
  rw [HT.sIx_nat, HT.sIx_none, Nat.sub_zero, List.drop_zero, ← List.take_take, List.take_length]
/-- ways ahead: the ways of the places before -/
def wstep (l : List Nat) (f : List Int) (i c : Nat) : Int := match prv l c i with
  | none => 1
  | some k => 1 + minI (f.drop k)
def waysTo (l : List Nat) : Nat → List Int
  | 0 => []
  | n + 1 => waysTo l n ++ [wstep l (waysTo l n) n (l.getD n 0)]
end QM
namespace QM
open PySem PySem.Spec L2 QL QP
def pr2 (p : Int × Int) : D := .tuple [.int p.1, .int p.2]
@[simp] theorem s_lz {FL : S → Res (List D)} {r : S} : fListZip FL r = (FL r).bind fun ds r => match ds with
  | [.list xs, .list ys] => Res.ok (SV.ol (zipL xs ys)) r
  | _ => Res.bad := id rfl
@[simp] theorem d_sumA2 {a b : Int} : dSumA [.tuple [.int a, .int b]] = some (.fz (.int (a + b))) := by
  show some (OV.fz (.int ([a, b].sum))) = _
  simp
end QM
namespace QM
open PySem PySem.Spec L2 QL QP
@[simp] theorem ok_pr2 (p : Int × Int) : okD (pr2 p) = true := rfl
@[simp] theorem eqv_pr2 (p q : Int × Int) : PyData.eqv (pr2 p) (pr2 q) = decide (p = q) := by
  obtain ⟨a, b⟩ := p
  obtain ⟨c, d⟩ := q
  show ((a == c) && ((b == d) && true)) = _
  rw [Bool.eq_iff_iff]
  simp
@[simp] theorem d_sumP {p : Int × Int} : dSumA [pr2 p] = some (.fz (.int (p.1 + p.2))) := d_sumA2
end QM
namespace QM
open PySem PySem.Spec L2 QL QP
end QM
namespace QM
open PySem PySem.Spec L2 QL QP
@[simp] theorem d_sortSet {l : List Nat} : dSortSet (.str (tx l)) = if l.length < 4000 then some (.nl ((QS.sortU l).map fun c => .str (tx [c]))) else none := by
  show (if (tx l).length < 4000 then some (OV.nl ((QS.sortU (tx l).cps.toList).map fun c => .str (tx [c]))) else none) = _
  rw [tx_len l]
  rfl
@[simp] theorem d_sumL {ns : List Int} : dSumA [.list (ns.map PyData.int)] = some (.fz (.int ns.sum)) := by
  show (match intsD (ns.map PyData.int) with
    | some ns => some (OV.fz (.int ns.sum))
    | _ => none) = _
  rw [d_ints]
end QM
namespace QM
open PySem PySem.Spec L2 QL QP
section
variable {l : List Nat} {s : Nat} {a3 a4 : Option SV}
def st0 (l : List Nat) (s : Nat) (fd : List D) (a3 : Option SV) (x : SV) : S := ⟨[some (.fz (.str (tx l))), some (.ol fd), some (.fz (.int (s : Nat))), a3, some x, none, none, none, none], none⟩
end
end QM
namespace QM
open PySem PySem.Spec L2 QL QP
end QM
namespace K55
open PySem PySem.Spec L2 QL QP
def topS (i : Nat) : Stmt := PySem.Challenge.pw_scatteredpieces_k55_sayings_written.main.body.getD i (.Pass ⟨0, 0, 0, 0⟩)
section
variable {P : Program} {w : World} {K : PySem.W.Frag} {mg : Str → Option Value} {base : Heap}
abbrev s__law_tape : Stmt := topS 20
theorem sc__law_tape : FnScope ["script", "start", "mixed", "cell", "digits"] ["script", "start"] (defScope s__law_tape) := ⟨rfl, rfl, rfl, by decide +kernel, rfl, by decide +kernel, by decide +kernel⟩
theorem fn__law_tape {f : Addr} {fd : FuncData} (Fu : Fun K "_law_tape" "_law_tape" s__law_tape f fd) (m_int : mg "int" = none) (m_len : mg "len" = none) : FnG P w K mg base 1 f fd ["script", "start"] (spTp K) :=
  fg_tape Fu sc__law_tape rfl fun cdv A out s H E hr =>
    pss_cons (ps_set (i := 2) sc__law_tape.nd rfl (.inl rfl) (pe_op op_add pe_int (pe_op op_mulB (pv 1) pe_int)))
    (pss_cons (ps_for (passes_of rfl) rfl (pi_list (pv 0)) (pg_name (i := 3) sc__law_tape.nd rfl (.inl rfl)) (pss_one (ps_set (i := 2) sc__law_tape.nd rfl (.inl rfl)
      (pe_op op_add (pe_op op_mod (pe_callTy call_int1 (by rfl) m_int PyProof.Rows.boot_int (pa_cons (pe_op op_powB (pe_op op_add (pe_op op_add (pe_op op_mulB (pv 2) pe_int) (pe_op op_mulB (pv 3) (pv 3))) pe_int) pe_int) pa_nil)) pe_int) pe_int))))
    (pss_cons (ps_set (i := 4) sc__law_tape.nd rfl (.inl rfl) (pe_ifExp (PW.pt (pw_and (pt_cmpR op_lt (pv 1) (pe_callB call_len (by rfl) m_len PySem.boot_len (pa_cons (pv 0) pa_nil)) (nomark _))
        (pw_and1 (pt_cmpR op_ge (pe_ix ix_seq (pv 0) (pv 1) (fun _ _ => rfl)) (pe_op op_powB pe_int pe_int) (nomark _)))))
      (pe_op op_sub (pe_ix ix_seq (pv 0) (pv 1) (fun _ _ => rfl)) (pe_op op_powB pe_int pe_int)) pe_int))
    (pss_one (ps_ret (pe_disp (pps_cons pe_str (pv 4) (pps_cons pe_str (pv 2) pps_nil)) rfl rfl (by decide) (by decide))))))
abbrev s__law_pick : Stmt := topS 21
theorem sc__law_pick : FnScope ["tape", "many", "found", "once"] ["tape", "many"] (defScope s__law_pick) := ⟨rfl, rfl, rfl, by decide +kernel, rfl, by decide +kernel, by decide +kernel⟩
theorem fn__law_pick {f : Addr} {fd : FuncData} (Fu : Fun K "_law_pick" "_law_pick" s__law_pick f fd) (m_int : mg "int" = none) : FnG P w K mg base 1 f fd ["tape", "many"] (spT K mg 1 F__law_pick) :=
  fgT (B := B__law_pick) Fu sc__law_pick rfl rfl rfl fun cdv A out s H E hG hr tk => ⟨_,
    (ssx_cons (sx_if (tx_cmp op_geA ops_ord (EX.toB (ex_tkW (kk := true) (hu_of hr) (pv 0))) (bx_var (pv 1)) (nomark _)) (ssx_cons (sx_set sc__law_pick.nd (ex_op op_mod ops_mod (EX.toB (ex_int m_int (bax_cons (EX.toB (ex_tkW (kk := true) (hu_of hr) (pv 0))) bax_nil))) (bx_var (pv 1))))
      (ssx_cons (sx_tkW (kk := true) (hu_of hr) (pv 0) (EX.toF (ex_op op_fdivW ops_fdiv (EX.toB (ex_tkW (kk := true) (hu_of hr) (pv 0))) (bx_var (pv 1)))))
      (ssx_one (sx_retV (pv 2))))) ssx_nil)
      (ssx_cons (sx_tkW (kk := false) (hu_of hr) (pv 0) (EX.toF (ex_op op_mod ops_mod (EX.toB (ex_int m_int (bax_cons (EX.toB (ex_op op_addA ops_add (EX.toB (ex_op op_mulA ops_mul (EX.toB (ex_tkW (kk := false) (hu_of hr) (pv 0))) (FX.toB fx_int))) (FX.toB fx_int))) bax_nil))) (FX.toB fx_int))))
      (ssx_cons (sx_set sc__law_pick.nd (ex_op op_mod ops_mod (EX.toB (ex_int m_int (bax_cons (EX.toB (ex_op op_powB ops_pow (EX.toB (ex_tkW (kk := false) (hu_of hr) (pv 0))) (FX.toB fx_int))) bax_nil))) (FX.toB fx_int)))
      (ssx_one (sx_ret (ex_op op_mod ops_mod (EX.toB (ex_int m_int (bax_cons (EX.toB (ex_op op_fdivW ops_fdiv (EX.toB (ex_op op_mod ops_mod (EX.toB (ex_int m_int (bax_cons (EX.toB (ex_op op_powB ops_pow (bx_var (pv 3)) (FX.toB fx_int))) bax_nil))) (FX.toB fx_int))) (FX.toB fx_int))) bax_nil))) (bx_var (pv 1))))))))⟩
abbrev s__law_one_of : Stmt := topS 22
theorem sc__law_one_of : FnScope ["tape", "things"] ["tape", "things"] (defScope s__law_one_of) := ⟨rfl, rfl, rfl, by decide +kernel, rfl, by decide +kernel, by decide +kernel⟩
theorem fn__law_one_of {f : Addr} {fd : FuncData} (Fu : Fun K "_law_one_of" "_law_one_of" s__law_one_of f fd) (d__law_pick : DefT P w K mg base "_law_pick" 1 1 F__law_pick) (m_len : mg "len" = none) : FnG P w K mg base 2 f fd ["tape", "things"] (spT K mg 1 F__law_one_of) :=
  fgT (B := B__law_one_of) Fu sc__law_one_of rfl rfl rfl fun cdv A out s H E hG hr tk => ⟨_,
    (ssx_one (sx_ret (ex_ix (bx_var (pv 1)) (EX.toB (ex_callDT d__law_pick hG hr tk (pv 0) (ax_cons (EX.toF (ex_len m_len (bax_cons (bx_var (pv 1)) bax_nil))) ax_nil))) (fun _ _ => rfl))))⟩
abbrev s__law_drawn_text : Stmt := topS 24
theorem sc__law_drawn_text : FnScope ["tape", "letters", "most", "found", "half", "turn"] ["tape", "letters", "most"] (defScope s__law_drawn_text) := ⟨rfl, rfl, rfl, by decide +kernel, rfl, by decide +kernel, by decide +kernel⟩
theorem fn__law_drawn_text {f : Addr} {fd : FuncData} (Fu : Fun K "_law_drawn_text" "_law_drawn_text" s__law_drawn_text f fd) (d__law_pick : DefT P w K mg base "_law_pick" 1 1 F__law_pick) (d__law_one_of : DefT P w K mg base "_law_one_of" 2 1 F__law_one_of) (m_len : mg "len" = none) (m_range : mg "range" = none) : FnG P w K mg base 3 f fd ["tape", "letters", "most"] (spT K mg 2 F__law_drawn_text) :=
  fgT (B := B__law_drawn_text) Fu sc__law_drawn_text rfl rfl rfl fun cdv A out s H E hG hr tk => ⟨_,
    (ssx_cons (sx_set sc__law_drawn_text.nd (ex_ms (rr := (rJoin K)) PySem.F.slot_str_join PySem.F.type_str_join mt_join opm_join (FX.toB fx_str) (bax_cons (EX.toB (ex_lcW (own := [("turn", 5)]) (g := gName 5) (tt := tYes) (te := tCallS (spT K mg 1 F__law_one_of) (WE WN) (tCons (tVar 0) (tCons (tVar 1) (tNil)))) rfl sc__law_drawn_text.nd (blkOk_by (N := ["tape", "letters", "most", "found", "half", "turn"]) (sc := defScope s__law_drawn_text) (by decide +kernel)) (ix_rng1 (by rfl) m_range (ax_cons (EX.toF (ex_callDT d__law_pick hG hr tk (pv 0) (ax_cons (EX.toF (ex_op op_addA ops_add (bx_var (pv 2)) (FX.toB fx_int))) ax_nil))) ax_nil)) (gw_name (by decide)) (fun s H C cl fp => (gx_nm sc__law_drawn_text.nd)) (fun s H C cl fp => tsx_nil) (fun s H C cl fp => (EX.toF (ex_callDT d__law_one_of hG hr takes0 (pv 0) (ax_cons (fx_var (pv 1)) ax_nil)))))) bax_nil)))
      (ssx_cons (sx_if (WXt.t (wx_and (tx_cmp (op_eqP hr.units) ops_eq (EX.toB (ex_callDT d__law_pick hG hr tk (pv 0) (ax_cons fx_int ax_nil))) (FX.toB fx_int) (nomark _)) (wx_and1 (tx_cmp op_gtA ops_ord (EX.toB (ex_len m_len (bax_cons (bx_var (pv 3)) bax_nil))) (FX.toB fx_int) (nomark _))))) (ssx_cons (sx_set sc__law_drawn_text.nd (ex_sl (bx_var (pv 3)) ox_none (ox_some (EX.toB (ex_op op_addA ops_add (FX.toB fx_int) (EX.toB (ex_callDT d__law_pick hG hr tk (pv 0) (ax_cons fx_int ax_nil))))))))
      (ssx_one (sx_set sc__law_drawn_text.nd (ex_sl (EX.toB (ex_op op_mulA ops_mul (bx_var (pv 4)) (EX.toB (ex_len m_len (bax_cons (bx_var (pv 3)) bax_nil))))) ox_none (ox_some (EX.toB (ex_len m_len (bax_cons (bx_var (pv 3)) bax_nil)))))))) ssx_nil)
      (ssx_one (sx_retV (pv 3)))))⟩
abbrev s__law_drawn_saying : Stmt := topS 25
theorem sc__law_drawn_saying : FnScope ["tape", "letters", "deep", "way"] ["tape", "letters", "deep"] (defScope s__law_drawn_saying) := ⟨rfl, rfl, rfl, by decide +kernel, rfl, by decide +kernel, by decide +kernel⟩
theorem fn__law_drawn_saying {f : Addr} {fd : FuncData} (Fu : Fun K "_law_drawn_saying" "_law_drawn_saying" s__law_drawn_saying f fd) (gs : mg "_law_drawn_saying" = some (.ref f)) (ks : PySem.W.keepIn K (.ref f) = true) (bs : Binds K fd ["tape", "letters", "deep"] []) (d__law_pick : DefT P w K mg base "_law_pick" 1 1 F__law_pick) (d__law_drawn_text : DefT P w K mg base "_law_drawn_text" 3 2 F__law_drawn_text) : FnG P w K mg base 15 f fd ["tape", "letters", "deep"] (spT K mg 2 F__law_drawn_saying) := by
  have all : ∀ d, FnG P w K mg base (3 + d) f fd ["tape", "letters", "deep"] (spT K mg 2 (R__law_drawn_saying d)) := fun d => by
    induction d with
    | zero => exact fg_noneT
    | succ d ih =>
      have d__law_drawn_saying : DefT P w K mg base "_law_drawn_saying" (3 + d) 2 (R__law_drawn_saying d) := ⟨_, _, _, ih, gs, ks, bs⟩
      exact fgT (B := B__law_drawn_saying (R__law_drawn_saying d)) Fu sc__law_drawn_saying rfl rfl rfl fun cdv A out s H E hG hr tk => ⟨_,
    (ssx_cons (sx_set sc__law_drawn_saying.nd (ex_if (tx_cmp op_gtA ops_ord (bx_var (pv 2)) (FX.toB fx_int) (nomark _)) (ex_callDT d__law_pick hG hr tk (pv 0) (ax_cons fx_int ax_nil) (hk := Nat.le_trans (by decide : 1 ≤ 3) (Nat.le_add_right _ _))) (FX.toE fx_int)))
      (ssx_cons (sx_if (tx_cmp op_ltA ops_ord (bx_var (pv 3)) (FX.toB fx_int) (nomark _)) (ssx_one (sx_ret (ex_tp (ax_cons fx_str (ax_cons (EX.toF (ex_callDT d__law_drawn_text hG hr tk (pv 0) (ax_cons (fx_var (pv 1)) (ax_cons fx_int ax_nil)) (hk := Nat.le_trans (by decide : 3 ≤ 3) (Nat.le_add_right _ _)))) ax_nil))))) ssx_nil)
      (ssx_cons (sx_if (tx_cmp (op_eqP hr.units) ops_eq (bx_var (pv 3)) (FX.toB fx_int) (nomark _)) (ssx_one (sx_ret (ex_tp (ax_cons fx_str (ax_cons (EX.toF (ex_callDT d__law_drawn_saying hG hr tk (pv 0) (ax_cons (fx_var (pv 1)) (ax_cons (EX.toF (ex_op op_sub ops_sub (bx_var (pv 2)) (FX.toB fx_int))) ax_nil)) (hk := Nat.le_refl _))) ax_nil))))) ssx_nil)
      (ssx_one (sx_ret (ex_tp (ax_cons (EX.toF (ex_if (tx_cmp op_ltA ops_ord (bx_var (pv 3)) (FX.toB fx_int) (nomark _)) (FX.toE fx_str) (FX.toE fx_str))) (ax_cons (EX.toF (ex_callDT d__law_drawn_saying hG hr tk (pv 0) (ax_cons (fx_var (pv 1)) (ax_cons (EX.toF (ex_op op_sub ops_sub (bx_var (pv 2)) (FX.toB fx_int))) ax_nil)) (hk := Nat.le_refl _))) (ax_cons (EX.toF (ex_callDT d__law_drawn_saying hG hr tk (pv 0) (ax_cons (fx_var (pv 1)) (ax_cons (EX.toF (ex_op op_sub ops_sub (bx_var (pv 2)) (FX.toB fx_int))) ax_nil)) (hk := Nat.le_refl _))) ax_nil)))))))))⟩
  exact all 12
abbrev s__law_signs : Stmt := topS 27
theorem sc__law_signs : FnScope ["saying_here", "parts", "part"] ["saying_here"] (defScope s__law_signs) := ⟨rfl, rfl, rfl, by decide +kernel, rfl, by decide +kernel, by decide +kernel⟩
theorem fn__law_signs {f : Addr} {fd : FuncData} (Fu : Fun K "_law_signs" "_law_signs" s__law_signs f fd) (gs : mg "_law_signs" = some (.ref f)) (ks : PySem.W.keepIn K (.ref f) = true) (bs : Binds K fd ["saying_here"] [])  : FnG P w K mg base 12 f fd ["saying_here"] (spF K mg 1 F__law_signs) := by
  have all : ∀ d, FnG P w K mg base (0 + d) f fd ["saying_here"] (spF K mg 1 (R__law_signs d)) := fun d => by
    induction d with
    | zero => exact fg_none
    | succ d ih =>
      have d__law_signs : DefF P w K mg base "_law_signs" (0 + d) 1 (R__law_signs d) := ⟨_, _, _, ih, gs, ks, bs⟩
      exact fgF (B := B__law_signs (R__law_signs d)) Fu sc__law_signs rfl rfl rfl fun cdv A out s H E hG hr tk => ⟨_,
    (ssx_cons (sx_if (tx_cmp (op_eqP hr.units) ops_eq (EX.toB (ex_ix (bx_var (pv 0)) (FX.toB fx_int) (fun _ _ => rfl))) (FX.toB fx_str) (nomark _)) (ssx_one (sx_ret (ex_ms (rr := (rJoin K)) PySem.F.slot_str_join PySem.F.type_str_join mt_join opm_join (FX.toB fx_str) (bax_cons (EX.toB (ex_op op_addA ops_add (EX.toB (ex_lst (ax_cons fx_str ax_nil))) (EX.toB (ex_lcW (own := [("part", 2)]) (g := gName 2) (tt := tTest (tOp (rEqP K not) (tVar 2) (tC (.str "")))) (te := tVar 2) rfl sc__law_signs.nd (blkOk_by (N := ["saying_here", "parts", "part"]) (sc := defScope s__law_signs) (by decide +kernel)) (ix_seq (EX.toF (ex_lst (ax_cons (EX.toF (ex_ix (bx_var (pv 0)) (FX.toB fx_int) (fun _ _ => rfl))) ax_nil)))) (gw_name (by decide)) (fun s H C cl fp => (gx_nm sc__law_signs.nd)) (fun s H C cl fp => (tsx_one (tx_cmp (op_neP hr.units) ops_eq (bx_var (pv 2)) (FX.toB fx_str) (nomark _)))) (fun s H C cl fp => (fx_var (pv 2))))))) bax_nil)))) ssx_nil)
      (ssx_cons (sx_setLc (own := [("part", 2)]) (g := gName 2) (tt := tYes) (te := tOp (QL.rAdd K) (tOp (QL.rAdd K) (tC (.str "(")) (tCallS (spF K mg 1 (R__law_signs d)) (WE WN) (tCons (tVar 2) (tNil)))) (tC (.str ")"))) rfl sc__law_signs.nd (blkOk_by (N := ["saying_here", "parts", "part"]) (sc := defScope s__law_signs) (by decide +kernel)) (ix_seq (EX.toF (ex_sl (bx_var (pv 0)) (ox_some (FX.toB fx_int)) ox_none))) (gw_name (by decide)) (fun s H C cl fp => (gx_nm sc__law_signs.nd)) (fun s H C cl fp => tsx_nil) (fun s H C cl fp => (EX.toF (ex_op op_addA ops_add (EX.toB (ex_op op_addA ops_add (FX.toB fx_str) (EX.toB (ex_callD d__law_signs hG hr takes0 (ax_cons (fx_var (pv 2)) ax_nil) (hk := Nat.le_refl _))))) (FX.toB fx_str)))))
      (ssx_one (sx_ret (ex_if (tx_cmp (op_eqP hr.units) ops_eq (EX.toB (ex_ix (bx_var (pv 0)) (FX.toB fx_int) (fun _ _ => rfl))) (FX.toB fx_str) (nomark _)) (ex_op op_addA ops_add (FX.toB fx_str) (EX.toB (ex_ix (bx_var (pv 1)) (FX.toB fx_int) (fun _ _ => rfl)))) (ex_ms (rr := (rJoin K)) PySem.F.slot_str_join PySem.F.type_str_join mt_join opm_join (EX.toB (ex_op op_addA ops_add (EX.toB (ex_op op_addA ops_add (FX.toB fx_str) (EX.toB (ex_ix (bx_var (pv 0)) (FX.toB fx_int) (fun _ _ => rfl))))) (FX.toB fx_str))) (bax_cons (bx_var (pv 1)) bax_nil)))))))⟩
  exact all 12
abbrev s__law_any : Stmt := topS 23
theorem sc__law_any : FnScope ["tape", "some"] ["tape"] (defScope s__law_any) := ⟨rfl, rfl, rfl, by decide +kernel, rfl, by decide +kernel, by decide +kernel⟩
theorem fn__law_any {f : Addr} {fd : FuncData} (Fu : Fun K "_law_any" "_law_any" s__law_any f fd) (d__law_one_of : DefT P w K mg base "_law_one_of" 2 1 F__law_one_of) : FnG P w K mg base 3 f fd ["tape"] (spT K mg 0 F__law_any) :=
  fgT (B := B__law_any) Fu sc__law_any rfl rfl rfl fun cdv A out s H E hG hr tk => ⟨_,
    (ssx_cons (sx_set sc__law_any.nd (ex_lst (ax_cons fx_non (ax_cons fx_bl (ax_cons fx_bl (ax_cons fx_int (ax_cons fx_int (ax_cons fx_int (ax_cons fx_int (ax_cons fx_int (ax_cons (EX.toF (ex_op op_sub ops_sub (FX.toB fx_int) (FX.toB fx_int))) (ax_cons (EX.toF (ex_op op_powB ops_pow (FX.toB fx_int) (FX.toB fx_int))) (ax_cons fx_str (ax_cons fx_str (ax_cons fx_str (ax_cons fx_str (ax_cons fx_str (ax_cons fx_str (ax_cons fx_str (ax_cons (EX.toF (ex_tp ax_nil)) (ax_cons (EX.toF (ex_lst ax_nil)) (ax_cons (EX.toF ex_dk) (ax_cons (EX.toF (ex_tp (ax_cons fx_int ax_nil))) (ax_cons (EX.toF (ex_lst (ax_cons fx_int ax_nil))) (ax_cons (EX.toF (ex_disp (px_cons fx_str fx_int px_nil))) (ax_cons (EX.toF (ex_tp (ax_cons fx_int (ax_cons fx_int ax_nil)))) ax_nil))))))))))))))))))))))))))
      (ssx_cons (sx_set sc__law_any.nd (ex_op op_addA ops_add (bx_var (pv 1)) (EX.toB (ex_lst (ax_cons (EX.toF (ex_tp (ax_cons fx_str (ax_cons fx_str ax_nil)))) (ax_cons (EX.toF (ex_tp (ax_cons fx_str (ax_cons (EX.toF (ex_tp (ax_cons fx_str (ax_cons fx_str ax_nil)))) ax_nil)))) (ax_cons (EX.toF (ex_tp (ax_cons fx_str (ax_cons fx_int ax_nil)))) (ax_cons (EX.toF (ex_tp (ax_cons fx_str (ax_cons fx_int ax_nil)))) (ax_cons (EX.toF (ex_tp (ax_cons fx_str (ax_cons fx_int (ax_cons fx_str ax_nil))))) (ax_cons (EX.toF (ex_lst (ax_cons (EX.toF (ex_tp (ax_cons fx_str (ax_cons fx_int ax_nil)))) ax_nil))) (ax_cons (EX.toF (ex_dispT (Nat.lt_of_succ_lt (hu_of hr)) (px_cons (EX.toF (ex_tp (ax_cons fx_int (ax_cons fx_int ax_nil)))) fx_int px_nil))) (ax_cons (EX.toF (ex_lst (ax_cons (EX.toF (ex_tp (ax_cons fx_int (ax_cons fx_str ax_nil)))) ax_nil))) (ax_cons (EX.toF (ex_tp (ax_cons fx_str (ax_cons fx_str ax_nil)))) ax_nil)))))))))))))
      (ssx_one (sx_ret (ex_callDT d__law_one_of hG hr tk (pv 0) (ax_cons (EX.toF (ex_op op_addA ops_add (bx_var (pv 1)) (EX.toB (ex_lst (ax_cons (EX.toF (ex_lst (ax_cons fx_str ax_nil))) (ax_cons (EX.toF (ex_lst (ax_cons fx_str (ax_cons fx_str ax_nil)))) (ax_cons (EX.toF (ex_tp (ax_cons fx_str (ax_cons fx_str ax_nil)))) (ax_cons (EX.toF (ex_tp (ax_cons fx_str (ax_cons fx_int ax_nil)))) (ax_cons (EX.toF (ex_lst (ax_cons (EX.toF (ex_tp (ax_cons fx_int (ax_cons fx_int ax_nil)))) ax_nil))) (ax_cons (EX.toF (ex_tp (ax_cons fx_non ax_nil))) (ax_cons (EX.toF (ex_lst (ax_cons fx_non ax_nil))) (ax_cons fx_str (ax_cons fx_str (ax_cons fx_str ax_nil)))))))))))))) ax_nil))))))⟩
abbrev s__law_bent_saying : Stmt := topS 28
theorem sc__law_bent_saying : FnScope ["tape", "saying_here", "way", "at", "some"] ["tape", "saying_here"] (defScope s__law_bent_saying) := ⟨rfl, rfl, rfl, by decide +kernel, rfl, by decide +kernel, by decide +kernel⟩
theorem fn__law_bent_saying {f : Addr} {fd : FuncData} (Fu : Fun K "_law_bent_saying" "_law_bent_saying" s__law_bent_saying f fd) (gs : mg "_law_bent_saying" = some (.ref f)) (ks : PySem.W.keepIn K (.ref f) = true) (bs : Binds K fd ["tape", "saying_here"] []) (d__law_pick : DefT P w K mg base "_law_pick" 1 1 F__law_pick) (d__law_one_of : DefT P w K mg base "_law_one_of" 2 1 F__law_one_of) (d__law_any : DefT P w K mg base "_law_any" 3 0 F__law_any) (m_len : mg "len" = none) (m_list : mg "list" = none) : FnG P w K mg base 15 f fd ["tape", "saying_here"] (spT K mg 1 F__law_bent_saying) := by
  have all : ∀ d, FnG P w K mg base (3 + d) f fd ["tape", "saying_here"] (spT K mg 1 (R__law_bent_saying d)) := fun d => by
    induction d with
    | zero => exact fg_noneT
    | succ d ih =>
      have d__law_bent_saying : DefT P w K mg base "_law_bent_saying" (3 + d) 1 (R__law_bent_saying d) := ⟨_, _, _, ih, gs, ks, bs⟩
      exact fgT (B := B__law_bent_saying (R__law_bent_saying d)) Fu sc__law_bent_saying rfl rfl rfl fun cdv A out s H E hG hr tk => ⟨_,
    (ssx_cons (sx_set sc__law_bent_saying.nd (ex_callDT d__law_pick hG hr tk (pv 0) (ax_cons fx_int ax_nil) (hk := Nat.le_trans (by decide : 1 ≤ 3) (Nat.le_add_right _ _))))
      (ssx_cons (sx_if (WXt.t (wx_and (tx_cmp op_ltA ops_ord (bx_var (pv 2)) (FX.toB fx_int) (nomark _)) (wx_and1 (tx_cmp (op_neP hr.units) ops_eq (EX.toB (ex_ix (bx_var (pv 1)) (FX.toB fx_int) (fun _ _ => rfl))) (FX.toB fx_str) (nomark _))))) (ssx_cons (sx_set sc__law_bent_saying.nd (ex_op op_addA ops_add (FX.toB fx_int) (EX.toB (ex_callDT d__law_pick hG hr tk (pv 0) (ax_cons (EX.toF (ex_op op_sub ops_sub (EX.toB (ex_len m_len (bax_cons (bx_var (pv 1)) bax_nil))) (FX.toB fx_int))) ax_nil) (hk := Nat.le_trans (by decide : 1 ≤ 3) (Nat.le_add_right _ _))))))
      (ssx_one (sx_ret (ex_op op_addA ops_add (EX.toB (ex_op op_addA ops_add (EX.toB (ex_sl (bx_var (pv 1)) ox_none (ox_some (bx_var (pv 3))))) (EX.toB (ex_tp (ax_cons (EX.toF (ex_callDT d__law_bent_saying hG hr tk (pv 0) (ax_cons (EX.toF (ex_ix (bx_var (pv 1)) (bx_var (pv 3)) (fun _ _ => rfl))) ax_nil) (hk := Nat.le_refl _))) ax_nil))))) (EX.toB (ex_sl (bx_var (pv 1)) (ox_some (EX.toB (ex_op op_addA ops_add (bx_var (pv 3)) (FX.toB fx_int)))) ox_none)))))) ssx_nil)
      (ssx_cons (sx_set sc__law_bent_saying.nd (ex_lst (ax_cons fx_non (ax_cons (EX.toF (ex_listA rfl m_list (bax_cons (bx_var (pv 1)) bax_nil))) (ax_cons (EX.toF (ex_op op_addA ops_add (bx_var (pv 1)) (EX.toB (ex_tp (ax_cons (EX.toF (ex_tp (ax_cons fx_str (ax_cons fx_str ax_nil)))) ax_nil))))) (ax_cons (EX.toF (ex_sl (bx_var (pv 1)) ox_none (ox_some (FX.toB fx_int)))) (ax_cons (EX.toF (ex_tp ax_nil)) (ax_cons (EX.toF (ex_tp (ax_cons fx_str (ax_cons fx_str ax_nil)))) (ax_cons (EX.toF (ex_tp (ax_cons fx_str (ax_cons (EX.toF (ex_op op_addA ops_add (FX.toB fx_str) (EX.toB (ex_callDT d__law_one_of hG hr tk (pv 0) (ax_cons (EX.toF (ex_lst (ax_cons fx_str (ax_cons fx_str (ax_cons fx_str (ax_cons fx_str (ax_cons fx_str (ax_cons fx_str (ax_cons fx_str (ax_cons fx_str (ax_cons fx_str ax_nil))))))))))) ax_nil) (hk := Nat.le_trans (by decide : 2 ≤ 3) (Nat.le_add_right _ _)))))) ax_nil)))) (ax_cons (EX.toF (ex_tp (ax_cons fx_str (ax_cons fx_non ax_nil)))) (ax_cons (EX.toF (ex_tp (ax_cons fx_str (ax_cons (EX.toF (ex_lst (ax_cons fx_str ax_nil))) ax_nil)))) (ax_cons (EX.toF (ex_tp (ax_cons fx_str ax_nil))) (ax_cons (EX.toF (ex_tp (ax_cons fx_str (ax_cons fx_str (ax_cons fx_str ax_nil))))) (ax_cons (EX.toF (ex_tp (ax_cons fx_str (ax_cons (fx_var (pv 1)) ax_nil)))) ax_nil))))))))))))))
      (ssx_cons (sx_set sc__law_bent_saying.nd (ex_op op_addA ops_add (bx_var (pv 4)) (EX.toB (ex_lst (ax_cons (EX.toF (ex_tp (ax_cons fx_str (ax_cons (fx_var (pv 1)) (ax_cons (fx_var (pv 1)) ax_nil))))) (ax_cons (EX.toF (ex_tp (ax_cons fx_str (ax_cons (fx_var (pv 1)) ax_nil)))) (ax_cons (EX.toF (ex_tp (ax_cons fx_str (ax_cons (fx_var (pv 1)) (ax_cons fx_str ax_nil))))) (ax_cons (EX.toF (ex_tp (ax_cons (fx_var (pv 1)) (ax_cons fx_str (ax_cons (fx_var (pv 1)) ax_nil))))) (ax_cons (EX.toF (ex_tp (ax_cons fx_str (ax_cons fx_str ax_nil)))) (ax_cons (EX.toF (ex_tp (ax_cons fx_non (ax_cons fx_str ax_nil)))) (ax_cons (EX.toF (ex_tp (ax_cons (EX.toF (ex_lst (ax_cons fx_str ax_nil))) (ax_cons fx_str ax_nil)))) (ax_cons (EX.toF (ex_tp (ax_cons (EX.toF (ex_lst ax_nil)) (ax_cons fx_str ax_nil)))) (ax_cons (EX.toF (ex_tp (ax_cons (EX.toF ex_dk) (ax_cons (fx_var (pv 1)) ax_nil)))) (ax_cons (EX.toF (ex_callDT d__law_any hG hr tk (pv 0) ax_nil (hk := Nat.le_trans (by decide : 3 ≤ 3) (Nat.le_add_right _ _)))) ax_nil))))))))))))))
      (ssx_one (sx_ret (ex_if (tx_cmp op_ltA ops_ord (bx_var (pv 2)) (FX.toB fx_int) (nomark _)) (ex_callDT d__law_one_of hG hr tk (pv 0) (ax_cons (fx_var (pv 4)) ax_nil) (hk := Nat.le_trans (by decide : 2 ≤ 3) (Nat.le_add_right _ _))) (FX.toE (fx_var (pv 1))))))))))⟩
  exact all 12
abbrev s_closing : Stmt := topS 15
theorem sc_closing : FnScope ["signs", "start", "deep", "place"] ["signs", "start"] (defScope s_closing) := ⟨rfl, rfl, rfl, by decide +kernel, rfl, by decide +kernel, by decide +kernel⟩
theorem fn_closing {f : Addr} {fd : FuncData} (Fu : Fun K "closing" "closing" s_closing f fd) (m_len : mg "len" = none) (m_range : mg "range" = none) : FnG P w K mg base 1 f fd ["signs", "start"] (spF K mg 2 F_closing) :=
  fgF (B := B_closing) Fu sc_closing rfl rfl rfl fun cdv A out s H E hG hr tk => ⟨_,
    (ssx_cons (sx_set sc_closing.nd (FX.toE fx_int))
      (ssx_cons (sx_for (passes_of rfl) rfl (ix_rng2 (by rfl) m_range (ax_cons (fx_var (pv 1)) (ax_cons (EX.toF (ex_len m_len (bax_cons (bx_var (pv 0)) bax_nil))) ax_nil))) (gx_nm sc_closing.nd) (ssx_cons (sx_if (tx_cmp (op_eqP hr.units) ops_eq (EX.toB (ex_ix (bx_var (pv 0)) (bx_var (pv 3)) (fun _ _ => rfl))) (FX.toB fx_str) (nomark _)) (ssx_one (sx_aug (i := 2) (f := fun i j => i + j) sc_closing.nd ip_add (FX.toB fx_int))) ssx_nil)
      (ssx_one (sx_if (tx_cmp (op_eqP hr.units) ops_eq (EX.toB (ex_ix (bx_var (pv 0)) (bx_var (pv 3)) (fun _ _ => rfl))) (FX.toB fx_str) (nomark _)) (ssx_cons (sx_aug (i := 2) (f := fun i j => i - j) sc_closing.nd ip_sub (FX.toB fx_int))
      (ssx_one (sx_if (tx_cmp (op_eqP hr.units) ops_eq (bx_var (pv 2)) (FX.toB fx_int) (nomark _)) (ssx_one (sx_retV (pv 3))) ssx_nil))) ssx_nil))))
      (ssx_one (sx_ret (ex_neg (FX.toB fx_int))))))⟩
abbrev s_is_text : Stmt := topS 6
theorem sc_is_text : FnScope ["value", "letter"] ["value"] (defScope s_is_text) := ⟨rfl, rfl, rfl, by decide +kernel, rfl, by decide +kernel, by decide +kernel⟩
theorem fn_is_text {f : Addr} {fd : FuncData} (Fu : Fun K "is_text" "is_text" s_is_text f fd) (m_isinstance : mg "isinstance" = none) (m_str : mg "str" = none) (m_ALPHABET : ∃ tk, mg "ALPHABET" = some (.str "abcdefghijklmnopqrstuvwxyz" tk)) : FnG P w K mg base 1 f fd ["value"] (spF K mg 1 F_is_text) :=
  fgF (B := B_is_text) Fu sc_is_text rfl rfl rfl fun cdv A out s H E hG hr tk => ⟨_,
    (ssx_one (sx_ret (ex_and (EX.toB (ex_isiT (Ty := "str") m_isinstance m_str (by decide +kernel) (bx_var (pv 0)))) (ex_one (ex_cmp (op_eqP hr.units) ops_eq (EX.toB (ex_lcW (own := [("letter", 1)]) (g := gName 1) (tt := tTest (tOp (rInP K not) (tVar 1) (tC (.str "abcdefghijklmnopqrstuvwxyz")))) (te := tVar 1) rfl sc_is_text.nd (blkOk_by (N := ["value", "letter"]) (sc := defScope s_is_text) (by decide +kernel)) (ix_seq (fx_var (pv 0))) (gw_name (by decide)) (fun s H C cl fp => (gx_nm sc_is_text.nd)) (fun s H C cl fp => (tsx_one (tx_cmp (op_notInP hr.units) ops_in (bx_var (pv 1)) (FX.toB (fx_gs m_ALPHABET)) (by with_unfolding_all rfl)))) (fun s H C cl fp => (fx_var (pv 1))))) (EX.toB (ex_lst ax_nil)) (nomark _))))))⟩
abbrev s_inner : Stmt := topS 16
theorem sc_inner : FnScope ["signs", "start"] ["signs", "start"] (defScope s_inner) := ⟨rfl, rfl, rfl, by decide +kernel, rfl, by decide +kernel, by decide +kernel⟩
theorem fn_inner {f : Addr} {fd : FuncData} (Fu : Fun K "inner" "inner" s_inner f fd) (d_closing : DefF P w K mg base "closing" 1 2 F_closing) (m_len : mg "len" = none) : FnG P w K mg base 2 f fd ["signs", "start"] (spF K mg 2 F_inner) :=
  fgF (B := B_inner) Fu sc_inner rfl rfl rfl fun cdv A out s H E hG hr tk => ⟨_,
    (ssx_cons (sx_if (WXt.t (wx_or (tx_cmp (op_neP hr.units) ops_eq (EX.toB (ex_sl (bx_var (pv 0)) (ox_some (bx_var (pv 1))) (ox_some (EX.toB (ex_op op_addA ops_add (bx_var (pv 1)) (FX.toB fx_int)))))) (FX.toB fx_str) (nomark _)) (wx_or1 (tx_cmp (op_neP hr.units) ops_eq (EX.toB (ex_callD d_closing hG hr tk (ax_cons (fx_var (pv 0)) (ax_cons (fx_var (pv 1)) ax_nil)))) (EX.toB (ex_op op_sub ops_sub (EX.toB (ex_len m_len (bax_cons (bx_var (pv 0)) bax_nil))) (FX.toB fx_int))) (nomark _))))) (ssx_one (sx_ret (FX.toE fx_non))) ssx_nil)
      (ssx_one (sx_ret (ex_sl (bx_var (pv 0)) (ox_some (EX.toB (ex_op op_addA ops_add (bx_var (pv 1)) (FX.toB fx_int)))) (ox_some (EX.toB (ex_neg (FX.toB fx_int))))))))⟩
abbrev s_saying_of : Stmt := topS 17
theorem sc_saying_of : FnScope ["signs", "deep", "part", "end", "word", "first", "second"] ["signs", "deep"] (defScope s_saying_of) := ⟨rfl, rfl, rfl, by decide +kernel, rfl, by decide +kernel, by decide +kernel⟩
theorem fn_saying_of {f : Addr} {fd : FuncData} (Fu : Fun K "saying_of" "saying_of" s_saying_of f fd) (gs : mg "saying_of" = some (.ref f)) (ks : PySem.W.keepIn K (.ref f) = true) (bs : Binds K fd ["signs", "deep"] []) (d_closing : DefF P w K mg base "closing" 1 2 F_closing) (d_is_text : DefF P w K mg base "is_text" 1 1 F_is_text) (d_inner : DefF P w K mg base "inner" 2 2 F_inner) (m_len : mg "len" = none) : FnG P w K mg base 14 f fd ["signs", "deep"] (spF K mg 2 F_saying_of) := by
  have all : ∀ d, FnG P w K mg base (2 + d) f fd ["signs", "deep"] (spF K mg 2 (R_saying_of d)) := fun d => by
    induction d with
    | zero => exact fg_none
    | succ d ih =>
      have d_saying_of : DefF P w K mg base "saying_of" (2 + d) 2 (R_saying_of d) := ⟨_, _, _, ih, gs, ks, bs⟩
      exact fgF (B := B_saying_of (R_saying_of d)) Fu sc_saying_of rfl rfl rfl fun cdv A out s H E hG hr tk => ⟨_,
    (ssx_cons (sx_if (WXt.t (wx_or (tx_cmp op_isA ops_is (bx_var (pv 0)) (FX.toB fx_non) (nomark _)) (wx_or1 (tx_cmp (op_eqP hr.units) ops_eq (bx_var (pv 1)) (FX.toB fx_int) (nomark _))))) (ssx_one (sx_ret (FX.toE fx_non))) ssx_nil)
      (ssx_cons (sx_if (WXt.t (wx_or (tx_cmp (op_eqP hr.units) ops_eq (bx_var (pv 0)) (FX.toB fx_str) (nomark _)) (wx_or1 (WXt.t (wx_and (tx_val (EX.toB (ex_ms (rr := rStarts) PySem.F.slot_str_startswith PySem.F.type_str_startswith mt_startswith opm_starts (bx_var (pv 0)) (bax_cons (FX.toB fx_str) bax_nil)))) (wx_and (tx_val (EX.toB (ex_callD d_is_text hG hr tk (ax_cons (EX.toF (ex_sl (bx_var (pv 0)) (ox_some (FX.toB fx_int)) ox_none)) ax_nil) (hk := Nat.le_trans (by decide : 1 ≤ 2) (Nat.le_add_right _ _))))) (wx_and1 (tx_cmp (op_neP hr.units) ops_eq (bx_var (pv 0)) (FX.toB fx_str) (nomark _))))))))) (ssx_one (sx_ret (ex_tp (ax_cons fx_str (ax_cons (EX.toF (ex_sl (bx_var (pv 0)) (ox_some (FX.toB fx_int)) ox_none)) ax_nil))))) ssx_nil)
      (ssx_cons (sx_if (tx_val (EX.toB (ex_ms (rr := rStarts) PySem.F.slot_str_startswith PySem.F.type_str_startswith mt_startswith opm_starts (bx_var (pv 0)) (bax_cons (FX.toB fx_str) bax_nil)))) (ssx_cons (sx_set sc_saying_of.nd (ex_callD d_saying_of hG hr tk (ax_cons (EX.toF (ex_callD d_inner hG hr tk (ax_cons (fx_var (pv 0)) (ax_cons fx_int ax_nil)) (hk := Nat.le_trans (by decide : 2 ≤ 2) (Nat.le_add_right _ _)))) (ax_cons (EX.toF (ex_op op_sub ops_sub (bx_var (pv 1)) (FX.toB fx_int))) ax_nil)) (hk := Nat.le_refl _)))
      (ssx_one (sx_ret (ex_if (tx_cmp op_isNotA ops_is (bx_var (pv 2)) (FX.toB fx_non) (nomark _)) (ex_tp (ax_cons fx_str (ax_cons (fx_var (pv 2)) ax_nil))) (FX.toE fx_non))))) ssx_nil)
      (ssx_cons (sx_set sc_saying_of.nd (ex_if (tx_val (EX.toB (ex_ms (rr := rStarts) PySem.F.slot_str_startswith PySem.F.type_str_startswith mt_startswith opm_starts (bx_var (pv 0)) (bax_cons (FX.toB fx_str) bax_nil)))) (ex_callD d_closing hG hr tk (ax_cons (fx_var (pv 0)) (ax_cons fx_int ax_nil)) (hk := Nat.le_trans (by decide : 1 ≤ 2) (Nat.le_add_right _ _))) (ex_neg (FX.toB fx_int))))
      (ssx_cons (sx_for (passes_of rfl) rfl (ix_seq (EX.toF (ex_tp (ax_cons fx_str (ax_cons fx_str ax_nil))))) (gx_nm sc_saying_of.nd) (ssx_one (sx_if (WXt.t (wx_and (tx_cmp op_gtA ops_ord (bx_var (pv 3)) (FX.toB fx_int) (nomark _)) (wx_and1 (tx_val (EX.toB (ex_ms (rr := rStarts) PySem.F.slot_str_startswith PySem.F.type_str_startswith mt_startswith opm_starts (EX.toB (ex_sl (bx_var (pv 0)) (ox_some (EX.toB (ex_op op_addA ops_add (bx_var (pv 3)) (FX.toB fx_int)))) ox_none)) (bax_cons (EX.toB (ex_op op_addA ops_add (EX.toB (ex_op op_addA ops_add (FX.toB fx_str) (bx_var (pv 4)))) (FX.toB fx_str))) bax_nil))))))) (ssx_cons (sx_set sc_saying_of.nd (ex_callD d_saying_of hG hr tk (ax_cons (EX.toF (ex_sl (bx_var (pv 0)) (ox_some (FX.toB fx_int)) (ox_some (bx_var (pv 3))))) (ax_cons (EX.toF (ex_op op_sub ops_sub (bx_var (pv 1)) (FX.toB fx_int))) ax_nil)) (hk := Nat.le_refl _)))
      (ssx_cons (sx_set sc_saying_of.nd (ex_callD d_saying_of hG hr tk (ax_cons (EX.toF (ex_callD d_inner hG hr tk (ax_cons (fx_var (pv 0)) (ax_cons (EX.toF (ex_op op_addA ops_add (EX.toB (ex_op op_addA ops_add (bx_var (pv 3)) (EX.toB (ex_len m_len (bax_cons (bx_var (pv 4)) bax_nil))))) (FX.toB fx_int))) ax_nil)) (hk := Nat.le_trans (by decide : 2 ≤ 2) (Nat.le_add_right _ _)))) (ax_cons (EX.toF (ex_op op_sub ops_sub (bx_var (pv 1)) (FX.toB fx_int))) ax_nil)) (hk := Nat.le_refl _)))
      (ssx_one (sx_ret (ex_if (WXt.t (wx_and (tx_cmp op_isNotA ops_is (bx_var (pv 5)) (FX.toB fx_non) (nomark _)) (wx_and1 (tx_cmp op_isNotA ops_is (bx_var (pv 6)) (FX.toB fx_non) (nomark _))))) (ex_tp (ax_cons (fx_var (pv 4)) (ax_cons (fx_var (pv 5)) (ax_cons (fx_var (pv 6)) ax_nil)))) (FX.toE fx_non)))))) ssx_nil)))
      (ssx_one (sx_ret (FX.toE fx_non))))))))⟩
  exact all 12
abbrev s_is_saying_in : Stmt := topS 9
theorem sc_is_saying_in : FnScope ["value", "deep"] ["value", "deep"] (defScope s_is_saying_in) := ⟨rfl, rfl, rfl, by decide +kernel, rfl, by decide +kernel, by decide +kernel⟩
theorem fn_is_saying_in {f : Addr} {fd : FuncData} (Fu : Fun K "is_saying_in" "is_saying_in" s_is_saying_in f fd) (gs : mg "is_saying_in" = some (.ref f)) (ks : PySem.W.keepIn K (.ref f) = true) (bs : Binds K fd ["value", "deep"] []) (d_is_text : DefF P w K mg base "is_text" 1 1 F_is_text) (m_isinstance : mg "isinstance" = none) (m_len : mg "len" = none) (m_str : mg "str" = none) (m_tuple : mg "tuple" = none) : FnG P w K mg base 13 f fd ["value", "deep"] (spF K mg 2 F_is_saying_in) := by
  have all : ∀ d, FnG P w K mg base (1 + d) f fd ["value", "deep"] (spF K mg 2 (R_is_saying_in d)) := fun d => by
    induction d with
    | zero => exact fg_none
    | succ d ih =>
      have d_is_saying_in : DefF P w K mg base "is_saying_in" (1 + d) 2 (R_is_saying_in d) := ⟨_, _, _, ih, gs, ks, bs⟩
      exact fgF (B := B_is_saying_in (R_is_saying_in d)) Fu sc_is_saying_in rfl rfl rfl fun cdv A out s H E hG hr tk => ⟨_,
    (ssx_cons (sx_if (WXt.t (wx_or (tx_not (tx_val (EX.toB (ex_isiT (Ty := "tuple") m_isinstance m_tuple (by decide +kernel) (bx_var (pv 0)))))) (wx_or (tx_cmp (op_eqP hr.units) ops_eq (bx_var (pv 1)) (FX.toB fx_int) (nomark _)) (wx_or (tx_cmp op_ltA ops_ord (EX.toB (ex_len m_len (bax_cons (bx_var (pv 0)) bax_nil))) (FX.toB fx_int) (nomark _)) (wx_or1 (tx_not (tx_val (EX.toB (ex_isiT (Ty := "str") m_isinstance m_str (by decide +kernel) (EX.toB (ex_ix (bx_var (pv 0)) (FX.toB fx_int) (fun _ _ => rfl)))))))))))) (ssx_one (sx_ret (FX.toE fx_bl))) ssx_nil)
      (ssx_cons (sx_if (tx_cmp (op_eqP hr.units) ops_eq (EX.toB (ex_ix (bx_var (pv 0)) (FX.toB fx_int) (fun _ _ => rfl))) (FX.toB fx_str) (nomark _)) (ssx_one (sx_ret (ex_and (EX.toB (ex_cmp (op_eqP hr.units) ops_eq (EX.toB (ex_len m_len (bax_cons (bx_var (pv 0)) bax_nil))) (FX.toB fx_int) (nomark _))) (ex_one (ex_callD d_is_text hG hr tk (ax_cons (EX.toF (ex_ix (bx_var (pv 0)) (FX.toB fx_int) (fun _ _ => rfl))) ax_nil) (hk := Nat.le_trans (by decide : 1 ≤ 1) (Nat.le_add_right _ _))))))) ssx_nil)
      (ssx_cons (sx_if (tx_cmp (op_eqP hr.units) ops_eq (EX.toB (ex_ix (bx_var (pv 0)) (FX.toB fx_int) (fun _ _ => rfl))) (FX.toB fx_str) (nomark _)) (ssx_one (sx_ret (ex_and (EX.toB (ex_cmp (op_eqP hr.units) ops_eq (EX.toB (ex_len m_len (bax_cons (bx_var (pv 0)) bax_nil))) (FX.toB fx_int) (nomark _))) (ex_one (ex_callD d_is_saying_in hG hr tk (ax_cons (EX.toF (ex_ix (bx_var (pv 0)) (FX.toB fx_int) (fun _ _ => rfl))) (ax_cons (EX.toF (ex_op op_sub ops_sub (bx_var (pv 1)) (FX.toB fx_int))) ax_nil)) (hk := Nat.le_refl _)))))) ssx_nil)
      (ssx_cons (sx_if (WXt.t (wx_or (tx_cmp (op_notInP hr.units) ops_in (EX.toB (ex_ix (bx_var (pv 0)) (FX.toB fx_int) (fun _ _ => rfl))) (EX.toB (ex_tp (ax_cons fx_str (ax_cons fx_str ax_nil)))) (by with_unfolding_all rfl)) (wx_or1 (tx_cmp (op_neP hr.units) ops_eq (EX.toB (ex_len m_len (bax_cons (bx_var (pv 0)) bax_nil))) (FX.toB fx_int) (nomark _))))) (ssx_one (sx_ret (FX.toE fx_bl))) ssx_nil)
      (ssx_one (sx_ret (ex_and (EX.toB (ex_callD d_is_saying_in hG hr tk (ax_cons (EX.toF (ex_ix (bx_var (pv 0)) (FX.toB fx_int) (fun _ _ => rfl))) (ax_cons (EX.toF (ex_op op_sub ops_sub (bx_var (pv 1)) (FX.toB fx_int))) ax_nil)) (hk := Nat.le_refl _))) (ex_one (ex_callD d_is_saying_in hG hr tk (ax_cons (EX.toF (ex_ix (bx_var (pv 0)) (FX.toB fx_int) (fun _ _ => rfl))) (ax_cons (EX.toF (ex_op op_sub ops_sub (bx_var (pv 1)) (FX.toB fx_int))) ax_nil)) (hk := Nat.le_refl _))))))))))⟩
  exact all 12
abbrev s_is_saying : Stmt := topS 10
theorem sc_is_saying : FnScope ["value"] ["value"] (defScope s_is_saying) := ⟨rfl, rfl, rfl, by decide +kernel, rfl, by decide +kernel, by decide +kernel⟩
theorem fn_is_saying {f : Addr} {fd : FuncData} (Fu : Fun K "is_saying" "is_saying" s_is_saying f fd) (d_is_saying_in : DefF P w K mg base "is_saying_in" 13 2 F_is_saying_in) (m_DEEPEST : ∃ tk, mg "DEEPEST" = some (.int 10 tk)) : FnG P w K mg base 14 f fd ["value"] (spF K mg 1 F_is_saying) :=
  fgF (B := B_is_saying) Fu sc_is_saying rfl rfl rfl fun cdv A out s H E hG hr tk => ⟨_,
    (ssx_one (sx_ret (ex_callD d_is_saying_in hG hr tk (ax_cons (fx_var (pv 0)) (ax_cons (fx_gi m_DEEPEST) ax_nil)))))⟩
abbrev s_read_saying : Stmt := topS 18
theorem sc_read_saying : FnScope ["signs", "found"] ["signs"] (defScope s_read_saying) := ⟨rfl, rfl, rfl, by decide +kernel, rfl, by decide +kernel, by decide +kernel⟩
theorem fn_read_saying {f : Addr} {fd : FuncData} (Fu : Fun K "read_saying" "read_saying" s_read_saying f fd) {C_BadSigns : Addr} (d_BadSigns : DefE P w K mg base "BadSigns" "value" C_BadSigns) (d_saying_of : DefF P w K mg base "saying_of" 14 2 F_saying_of) (d_is_saying : DefF P w K mg base "is_saying" 14 1 F_is_saying) (m_isinstance : mg "isinstance" = none) (m_str : mg "str" = none) (m_DEEPEST : ∃ tk, mg "DEEPEST" = some (.int 10 tk)) : FnG P w K mg base 15 f fd ["signs"] (spF K mg 1 F_read_saying) :=
  fgF (B := B_read_saying) Fu sc_read_saying rfl rfl rfl fun cdv A out s H E hG hr tk => ⟨_,
    (ssx_cons (sx_set sc_read_saying.nd (ex_if (tx_val (EX.toB (ex_isiT (Ty := "str") m_isinstance m_str (by decide +kernel) (bx_var (pv 0))))) (ex_callD d_saying_of hG hr tk (ax_cons (fx_var (pv 0)) (ax_cons (fx_gi m_DEEPEST) ax_nil))) (FX.toE fx_non)))
      (ssx_cons (sx_if (WXt.t (wx_or (tx_cmp op_isA ops_is (bx_var (pv 1)) (FX.toB fx_non) (nomark _)) (wx_or1 (tx_not (tx_val (EX.toB (ex_callD d_is_saying hG hr tk (ax_cons (fx_var (pv 1)) ax_nil)))))))) (ssx_one (sx_raise d_BadSigns hr rfl tk (fx_var (pv 0)))) ssx_nil)
      (ssx_one (sx_retV (pv 1)))))⟩
abbrev s_must_be_saying : Stmt := topS 11
theorem sc_must_be_saying : FnScope ["value"] ["value"] (defScope s_must_be_saying) := ⟨rfl, rfl, rfl, by decide +kernel, rfl, by decide +kernel, by decide +kernel⟩
theorem fn_must_be_saying {f : Addr} {fd : FuncData} (Fu : Fun K "must_be_saying" "must_be_saying" s_must_be_saying f fd) {C_BadSaying : Addr} (d_BadSaying : DefE P w K mg base "BadSaying" "value" C_BadSaying) (d_is_saying : DefF P w K mg base "is_saying" 14 1 F_is_saying) : FnG P w K mg base 15 f fd ["value"] (spF K mg 1 F_must_be_saying_v2) :=
  fgF (B := B_must_be_saying_v2) Fu sc_must_be_saying rfl rfl rfl fun cdv A out s H E hG hr tk => ⟨_,
    (ssx_one (sx_if (tx_not (tx_val (EX.toB (ex_callD d_is_saying hG hr tk (ax_cons (fx_var (pv 0)) ax_nil))))) (ssx_one (sx_raise d_BadSaying hr rfl tk (fx_var (pv 0)))) ssx_nil))⟩
abbrev s_signs_of : Stmt := topS 13
theorem sc_signs_of : FnScope ["saying", "parts", "part"] ["saying"] (defScope s_signs_of) := ⟨rfl, rfl, rfl, by decide +kernel, rfl, by decide +kernel, by decide +kernel⟩
theorem fn_signs_of {f : Addr} {fd : FuncData} (Fu : Fun K "signs_of" "signs_of" s_signs_of f fd) (gs : mg "signs_of" = some (.ref f)) (ks : PySem.W.keepIn K (.ref f) = true) (bs : Binds K fd ["saying"] [])  : FnG P w K mg base 12 f fd ["saying"] (spF K mg 1 F_signs_of) := by
  have all : ∀ d, FnG P w K mg base (0 + d) f fd ["saying"] (spF K mg 1 (R_signs_of d)) := fun d => by
    induction d with
    | zero => exact fg_none
    | succ d ih =>
      have d_signs_of : DefF P w K mg base "signs_of" (0 + d) 1 (R_signs_of d) := ⟨_, _, _, ih, gs, ks, bs⟩
      exact fgF (B := B_signs_of (R_signs_of d)) Fu sc_signs_of rfl rfl rfl fun cdv A out s H E hG hr tk => ⟨_,
    (ssx_cons (sx_if (tx_cmp (op_eqP hr.units) ops_eq (EX.toB (ex_ix (bx_var (pv 0)) (FX.toB fx_int) (fun _ _ => rfl))) (FX.toB fx_str) (nomark _)) (ssx_one (sx_ret (ex_if (tx_cmp (op_neP hr.units) ops_eq (EX.toB (ex_ix (bx_var (pv 0)) (FX.toB fx_int) (fun _ _ => rfl))) (FX.toB fx_str) (nomark _)) (ex_op op_addA ops_add (FX.toB fx_str) (EX.toB (ex_ix (bx_var (pv 0)) (FX.toB fx_int) (fun _ _ => rfl)))) (FX.toE fx_str)))) ssx_nil)
      (ssx_cons (sx_setLc (own := [("part", 2)]) (g := gName 2) (tt := tYes) (te := tOp (QL.rAdd K) (tOp (QL.rAdd K) (tC (.str "(")) (tCallS (spF K mg 1 (R_signs_of d)) (WE WN) (tCons (tVar 2) (tNil)))) (tC (.str ")"))) rfl sc_signs_of.nd (blkOk_by (N := ["saying", "parts", "part"]) (sc := defScope s_signs_of) (by decide +kernel)) (ix_seq (EX.toF (ex_sl (bx_var (pv 0)) (ox_some (FX.toB fx_int)) ox_none))) (gw_name (by decide)) (fun s H C cl fp => (gx_nm sc_signs_of.nd)) (fun s H C cl fp => tsx_nil) (fun s H C cl fp => (EX.toF (ex_op op_addA ops_add (EX.toB (ex_op op_addA ops_add (FX.toB fx_str) (EX.toB (ex_callD d_signs_of hG hr takes0 (ax_cons (fx_var (pv 2)) ax_nil) (hk := Nat.le_refl _))))) (FX.toB fx_str)))))
      (ssx_one (sx_ret (ex_if (tx_cmp (op_eqP hr.units) ops_eq (EX.toB (ex_ix (bx_var (pv 0)) (FX.toB fx_int) (fun _ _ => rfl))) (FX.toB fx_str) (nomark _)) (ex_op op_addA ops_add (FX.toB fx_str) (EX.toB (ex_ix (bx_var (pv 1)) (FX.toB fx_int) (fun _ _ => rfl)))) (ex_op op_addA ops_add (EX.toB (ex_op op_addA ops_add (EX.toB (ex_op op_addA ops_add (EX.toB (ex_op op_addA ops_add (EX.toB (ex_ix (bx_var (pv 1)) (FX.toB fx_int) (fun _ _ => rfl))) (FX.toB fx_str))) (EX.toB (ex_ix (bx_var (pv 0)) (FX.toB fx_int) (fun _ _ => rfl))))) (FX.toB fx_str))) (EX.toB (ex_ix (bx_var (pv 1)) (FX.toB fx_int) (fun _ _ => rfl)))))))))⟩
  exact all 12
abbrev s_format_saying : Stmt := topS 14
theorem sc_format_saying : FnScope ["saying"] ["saying"] (defScope s_format_saying) := ⟨rfl, rfl, rfl, by decide +kernel, rfl, by decide +kernel, by decide +kernel⟩
theorem fn_format_saying {f : Addr} {fd : FuncData} (Fu : Fun K "format_saying" "format_saying" s_format_saying f fd) (d_must_be_saying : DefF P w K mg base "must_be_saying" 15 1 F_must_be_saying_v2) (d_signs_of : DefF P w K mg base "signs_of" 12 1 F_signs_of) : FnG P w K mg base 16 f fd ["saying"] (spF K mg 1 F_format_saying) :=
  fgF (B := B_format_saying) Fu sc_format_saying rfl rfl rfl fun cdv A out s H E hG hr tk => ⟨_,
    (ssx_cons (sx_expr (ex_callD d_must_be_saying hG hr tk (ax_cons (fx_var (pv 0)) ax_nil)))
      (ssx_one (sx_ret (ex_callD d_signs_of hG hr tk (ax_cons (fx_var (pv 0)) ax_nil)))))⟩
abbrev s__law_is_saying : Stmt := topS 26
theorem sc__law_is_saying : FnScope ["thing", "deep", "sign", "part"] ["thing", "deep"] (defScope s__law_is_saying) := ⟨rfl, rfl, rfl, by decide +kernel, rfl, by decide +kernel, by decide +kernel⟩
theorem fn__law_is_saying {f : Addr} {fd : FuncData} (Fu : Fun K "_law_is_saying" "_law_is_saying" s__law_is_saying f fd) (gs : mg "_law_is_saying" = some (.ref f)) (ks : PySem.W.keepIn K (.ref f) = true) (bs : Binds K fd ["thing", "deep"] []) (m_isinstance : mg "isinstance" = none) (m_len : mg "len" = none) (m_list : mg "list" = none) (m_repr : mg "repr" = none) (m_str : mg "str" = none) (m_tuple : mg "tuple" = none) : FnG P w K mg base 12 f fd ["thing", "deep"] (spF K mg 2 F__law_is_saying) := by
  have all : ∀ d, FnG P w K mg base (0 + d) f fd ["thing", "deep"] (spF K mg 2 (R__law_is_saying d)) := fun d => by
    induction d with
    | zero => exact fg_none
    | succ d ih =>
      have d__law_is_saying : DefF P w K mg base "_law_is_saying" (0 + d) 2 (R__law_is_saying d) := ⟨_, _, _, ih, gs, ks, bs⟩
      exact fgF (B := B__law_is_saying (R__law_is_saying d)) Fu sc__law_is_saying rfl rfl rfl fun cdv A out s H E hG hr tk => ⟨_,
    (ssx_cons (sx_if (WXt.t (wx_or (tx_not (tx_val (EX.toB (ex_isiT (Ty := "tuple") m_isinstance m_tuple (by decide +kernel) (bx_var (pv 0)))))) (wx_or (tx_cmp (op_eqP hr.units) ops_eq (bx_var (pv 1)) (FX.toB fx_int) (nomark _)) (wx_or1 (tx_cmp (op_eqP hr.units) ops_eq (bx_var (pv 0)) (EX.toB (ex_tp ax_nil)) (nomark _)))))) (ssx_one (sx_ret (FX.toE fx_bl))) ssx_nil)
      (ssx_cons (sx_if (tx_cmp (op_eqP hr.units) ops_eq (EX.toB (ex_reprA hG hr m_repr (bax_cons (EX.toB (ex_ix (bx_var (pv 0)) (FX.toB fx_int) (fun _ _ => rfl))) bax_nil))) (EX.toB (ex_reprA hG hr m_repr (bax_cons (FX.toB fx_str) bax_nil))) (nomark _)) (ssx_one (sx_ret (ex_and (EX.toB (ex_cmp (op_eqP hr.units) ops_eq (EX.toB (ex_len m_len (bax_cons (bx_var (pv 0)) bax_nil))) (FX.toB fx_int) (nomark _))) (ex_and (EX.toB (ex_isiT (Ty := "str") m_isinstance m_str (by decide +kernel) (EX.toB (ex_ix (bx_var (pv 0)) (FX.toB fx_int) (fun _ _ => rfl))))) (ex_one (ex_cmp (op_eqP hr.units) ops_eq (EX.toB (ex_lcW (own := [("sign", 2)]) (g := gName 2) (tt := tNot (tTest (tChain hLe hLe (tC (.str "a")) (tVar 2) (tC (.str "z"))))) (te := tVar 2) rfl sc__law_is_saying.nd (blkOk_by (N := ["thing", "deep", "sign", "part"]) (sc := defScope s__law_is_saying) (by decide +kernel)) (ix_seq (EX.toF (ex_listA rfl m_list (bax_cons (EX.toB (ex_ix (bx_var (pv 0)) (FX.toB fx_int) (fun _ _ => rfl))) bax_nil)))) (gw_name (by decide)) (fun s H C cl fp => (gx_nm sc__law_is_saying.nd)) (fun s H C cl fp => (tsx_one (tx_not (tx_chain op_leA ops_ord op_leA ops_ord (FX.toB fx_str) (bx_var (pv 2)) (FX.toB fx_str))))) (fun s H C cl fp => (fx_var (pv 2))))) (EX.toB (ex_lst ax_nil)) (nomark _))))))) ssx_nil)
      (ssx_cons (sx_if (WXt.t (wx_or (tx_cmp (op_notInP hr.units) ops_in (EX.toB (ex_reprA hG hr m_repr (bax_cons (EX.toB (ex_ix (bx_var (pv 0)) (FX.toB fx_int) (fun _ _ => rfl))) bax_nil))) (EX.toB (ex_lst (ax_cons (EX.toF (ex_reprA hG hr m_repr (bax_cons (FX.toB fx_str) bax_nil))) (ax_cons (EX.toF (ex_reprA hG hr m_repr (bax_cons (FX.toB fx_str) bax_nil))) (ax_cons (EX.toF (ex_reprA hG hr m_repr (bax_cons (FX.toB fx_str) bax_nil))) ax_nil))))) (by with_unfolding_all rfl)) (wx_or1 (tx_cmp (op_neP hr.units) ops_eq (EX.toB (ex_len m_len (bax_cons (bx_var (pv 0)) bax_nil))) (EX.toB (ex_if (tx_cmp (op_eqP hr.units) ops_eq (EX.toB (ex_ix (bx_var (pv 0)) (FX.toB fx_int) (fun _ _ => rfl))) (FX.toB fx_str) (nomark _)) (FX.toE fx_int) (FX.toE fx_int))) (nomark _))))) (ssx_one (sx_ret (FX.toE fx_bl))) ssx_nil)
      (ssx_one (sx_ret (ex_cmp (op_eqP hr.units) ops_eq (EX.toB (ex_lcW (own := [("part", 3)]) (g := gName 3) (tt := tNot (tB (tCallS (spF K mg 2 (R__law_is_saying d)) (WE WN) (tCons (tVar 3) (tCons (tOp hSub (tVar 1) (tC (.int 1))) (tNil)))))) (te := tVar 3) rfl sc__law_is_saying.nd (blkOk_by (N := ["thing", "deep", "sign", "part"]) (sc := defScope s__law_is_saying) (by decide +kernel)) (ix_seq (EX.toF (ex_sl (bx_var (pv 0)) (ox_some (FX.toB fx_int)) ox_none))) (gw_name (by decide)) (fun s H C cl fp => (gx_nm sc__law_is_saying.nd)) (fun s H C cl fp => (tsx_one (tx_not (tx_val (EX.toB (ex_callD d__law_is_saying hG hr takes0 (ax_cons (fx_var (pv 3)) (ax_cons (EX.toF (ex_op op_sub ops_sub (bx_var (pv 1)) (FX.toB fx_int))) ax_nil)) (hk := Nat.le_refl _))))))) (fun s H C cl fp => (fx_var (pv 3))))) (EX.toB (ex_lst ax_nil)) (nomark _)))))))⟩
  exact all 12
abbrev s_law : Stmt := topS 30
theorem sc_law : FnScope ["script", "start", "tape", "turn", "saying_here", "due", "thing", "deep", "worse"] ["script"] (defScope s_law) := ⟨rfl, rfl, rfl, by decide +kernel, rfl, by decide +kernel, by decide +kernel⟩
def law_f1 (PT : Addr) : S → Res SV := fCall 1 F_format_saying (aCons (fV 6) (aNil))
def law_f2 (PT : Addr) : S → Res SV := fCall 1 F_format_saying (aCons (fV 6) (aNil))
def law_b3 (PT : Addr) : S → RS := sSeq (sAsg 4 (fCallT 2 2 F__law_drawn_saying (aCons (fD (fCallT 2 1 F__law_one_of (aCons (fD (eLst (aCons (fC (.str "ab")) (aCons (fC (.str "hasnotdr")) (aCons (fC (.str "z")) (aNil)))))) (aNil)))) (aCons (fD (fOp dAdd (fC (.int 1)) (fD (fCallT 2 1 F__law_pick (aCons (fC (.int 5)) (aNil)))))) (aNil)))))
  (sSeq (sAsg 5 (fCall 1 F__law_signs (aCons (fV 4) (aNil))))
  (sSeq (sIf (tOrF (tV (fD (fOp dNe (fD (eLst (aCons (fD (fCall 1 F_format_saying (aCons (fV 4) (aNil)))) (aCons (fD (fCall 1 (fun ds => F_format_saying (pickL [0] ds)) (aCons (fV 4) (aNil)))) (aNil))))) (fD (eLst (aCons (fV 5) (aCons (fV 5) (aNil)))))))) (tV (fD (fOp dNe (fD (eLst (aCons (fD (fCall 1 F_read_saying (aCons (fV 5) (aNil)))) (aCons (fD (fCall 1 (fun ds => F_read_saying (pickL [0] ds)) (aCons (fV 5) (aNil)))) (aNil))))) (fD (eLst (aCons (fV 4) (aCons (fV 4) (aNil))))))))) (sRet (eD (fC (.bool false)))) (sNext))
  (sSeq (sAsg 6 (fCallT 2 1 F__law_one_of (aCons (fD (eLst (aCons (fC .none) (aCons (fD (eTup (aNil))) (aCons (fD (eTup (aCons (fC (.str "has")) (aNil)))) (aCons (fD (eTup (aCons (fC (.str "has")) (aCons (fC (.str "A")) (aNil))))) (aCons (fD (eLst (aCons (fC (.str "has")) (aCons (fC (.str "a")) (aNil))))) (aCons (fD (eTup (aCons (fC (.str "not")) (aCons (fC (.str "a")) (aNil))))) (aCons (fC (.str "has a")) (aCons (fD (eTup (aCons (fC (.str "and")) (aCons (fV 4) (aNil))))) (aCons (fD (eTup (aCons (fC (.str "nor")) (aCons (fV 4) (aCons (fV 4) (aNil)))))) (aNil)))))))))))) (aNil))))
  (sSeq (sIf (tV (fD (fOp dNe (fD (fCB dReprA (aCons (fD (fRef PT [("BadSaying", "value", [])] (law_f1 PT))) (aNil)))) (fD (fCB dReprA (aCons (fD (eLst (aCons (fV 6) (aNil)))) (aNil))))))) (sRet (eD (fC (.bool false)))) (sNext))
  (sSeq (sAsg 6 (fCallT 2 1 F__law_bent_saying (aCons (fV 4) (aNil))))
  (sIf (tAndF (tNotF (tV (fD (fCall 2 F__law_is_saying (aCons (fV 6) (aCons (fC (.int 10)) (aNil))))))) (tV (fD (fOp dNe (fD (fCB dReprA (aCons (fD (fRef PT [("BadSaying", "value", [])] (law_f2 PT))) (aNil)))) (fD (fCB dReprA (aCons (fD (eLst (aCons (fV 6) (aNil)))) (aNil)))))))) (sRet (eD (fC (.bool false)))) (sNext)))))))
def law_b4 (PT : Addr) : S → RS := sAsg 7 (eTup (aCons (fC (.str "not")) (aCons (fV 7) (aNil))))
def law_f5 (PT : Addr) : S → Res SV := fCall 1 F_format_saying (aCons (fV 8) (aNil))
def B_law (PT : Addr) : S → RS := sFor (fRng1 (aCons (fC (.int 8)) (aNil))) (gNm 3) (law_b3 PT)
def G_law (PT : Addr) : S → RS := sSeq (sAsg 7 (eTup (aCons (fC (.str "has")) (aCons (fC (.str "")) (aNil)))))
  (sSeq (sFor (fRng1 (aCons (fC (.int 9)) (aNil))) (gNm 3) (law_b4 PT))
  (sSeq (sAsg 8 (eTup (aCons (fC (.str "not")) (aCons (fV 7) (aNil)))))
  (sSeq (sIf (tV (fD (fOp dNe (fD (fRef PT [("BadSaying", "value", [])] (law_f5 PT))) (fD (eLst (aCons (fV 8) (aNil))))))) (sRet (eD (fC (.bool false)))) (sNext))
  (sRet (eAndF (fD (fOp dEq (fD (fCall 1 F_read_saying (aCons (fD (fCall 1 F_format_saying (aCons (fV 7) (aNil)))) (aNil)))) (gV 7))) (fOp dEq (fD (fCall 1 F_format_saying (aCons (fD (eTup (aCons (fC (.str "has")) (aCons (fC (.str "")) (aNil))))) (aNil)))) (fC (.str "has"))))))))
theorem fn_law {f fT : Addr} {fd fdT : FuncData} (Fu : Fun K "law" "law" s_law f fd) (FT : FnG P w K mg base 1 fT fdT ["script", "start"] (spTp K)) (gT : mg "_law_tape" = some (.ref fT)) (kT : PySem.W.keepIn K (.ref fT) = true) (bT : Binds K fdT ["script", "start"] []) {C_BadSaying : Addr} (c__law_refused : CloOk P w K mg base 16 18 "_law_refused" (TT1 K (List.map HL.r ([("BadSaying", C_BadSaying, "value", [])] : List HL)))) (xt__law_refused : ExT K mg (List.map HL.c ([("BadSaying", C_BadSaying, "value", [])] : List HL))) {cL PT : Addr} (TBl : LamX.TabB base mg cL PT) (lamQ : lamName PT = "law.<locals>." ++ "<lambda>") (hcd : fd.code = .ref cL) (d__law_pick : DefT P w K mg base "_law_pick" 1 1 F__law_pick) (d__law_one_of : DefT P w K mg base "_law_one_of" 2 1 F__law_one_of) (d__law_drawn_saying : DefT P w K mg base "_law_drawn_saying" 15 2 F__law_drawn_saying) (d__law_signs : DefF P w K mg base "_law_signs" 12 1 F__law_signs) (d__law_bent_saying : DefT P w K mg base "_law_bent_saying" 15 1 F__law_bent_saying) (d_read_saying : DefF P w K mg base "read_saying" 15 1 F_read_saying) (d_format_saying : DefF P w K mg base "format_saying" 16 1 F_format_saying) (d__law_is_saying : DefF P w K mg base "_law_is_saying" 12 2 F__law_is_saying) (dk_read_saying_signs : DefK P w K mg base "read_saying" 15 1 ["signs"] [0] F_read_saying) (dk_format_saying_saying : DefK P w K mg base "format_saying" 16 1 ["saying"] [0] F_format_saying) (m_len : mg "len" = none) (m_max : mg "max" = none) (m_min : mg "min" = none) (m_range : mg "range" = none) (m_repr : mg "repr" = none) (ok : LawOk2 6 [PT] (B_law PT) (G_law PT)) : FnG P w K mg base 20 f fd ["script"] (spLaw K [PT]) :=
  fg_law2C (B := B_law PT) (G := G_law PT) (cap := 3) Fu sc_law rfl (by decide) ok fun cdv ec A out s H E hG hr => by
    obtain rfl : cdv = Value.ref cL := ec.symm.trans hcd
    have tB : ∃ t, SSX (cxOf (L2.CX P w) P w K mg base ["script", "start", "tape", "turn", "saying_here", "due", "thing", "deep", "worse"] "law" (defScope s_law) f (.ref cL) A out s H E) WN (lawRest (defBody s_law)) t (B_law PT) := ⟨_, (ssx_one (sx_for (passes_of rfl) rfl (ix_rng1 (by rfl) m_range (ax_cons fx_int ax_nil)) (gx_nm sc_law.nd) (ssx_cons (sx_set sc_law.nd (ex_callDT d__law_drawn_saying hG hr takes0 (pv 2) (ax_cons (EX.toF (ex_callDT d__law_one_of hG hr takes0 (pv 2) (ax_cons (EX.toF (ex_lst (ax_cons fx_str (ax_cons fx_str (ax_cons fx_str ax_nil))))) ax_nil))) (ax_cons (EX.toF (ex_op op_addA ops_add (FX.toB fx_int) (EX.toB (ex_callDT d__law_pick hG hr takes0 (pv 2) (ax_cons fx_int ax_nil))))) ax_nil))))
      (ssx_cons (sx_set sc_law.nd (ex_callD d__law_signs hG hr takes0 (ax_cons (fx_var (pv 4)) ax_nil)))
      (ssx_cons (sx_if (WXt.t (wx_or (tx_cmp (op_neP hr.units) ops_eq (EX.toB (ex_lst (ax_cons (EX.toF (ex_callD d_format_saying hG hr takes0 (ax_cons (fx_var (pv 4)) ax_nil))) (ax_cons (EX.toF (ex_callK dk_format_saying_saying hG hr takes0 (kx_cons (fx_var (pv 4)) kx_nil))) ax_nil)))) (EX.toB (ex_lst (ax_cons (fx_var (pv 5)) (ax_cons (fx_var (pv 5)) ax_nil)))) (nomark _)) (wx_or1 (tx_cmp (op_neP hr.units) ops_eq (EX.toB (ex_lst (ax_cons (EX.toF (ex_callD d_read_saying hG hr takes0 (ax_cons (fx_var (pv 5)) ax_nil))) (ax_cons (EX.toF (ex_callK dk_read_saying_signs hG hr takes0 (kx_cons (fx_var (pv 5)) kx_nil))) ax_nil)))) (EX.toB (ex_lst (ax_cons (fx_var (pv 4)) (ax_cons (fx_var (pv 4)) ax_nil)))) (nomark _))))) (ssx_one (sx_ret (FX.toE fx_bl))) ssx_nil)
      (ssx_cons (sx_set sc_law.nd (ex_callDT d__law_one_of hG hr takes0 (pv 2) (ax_cons (EX.toF (ex_lst (ax_cons fx_non (ax_cons (EX.toF (ex_tp ax_nil)) (ax_cons (EX.toF (ex_tp (ax_cons fx_str ax_nil))) (ax_cons (EX.toF (ex_tp (ax_cons fx_str (ax_cons fx_str ax_nil)))) (ax_cons (EX.toF (ex_lst (ax_cons fx_str (ax_cons fx_str ax_nil)))) (ax_cons (EX.toF (ex_tp (ax_cons fx_str (ax_cons fx_str ax_nil)))) (ax_cons fx_str (ax_cons (EX.toF (ex_tp (ax_cons fx_str (ax_cons (fx_var (pv 4)) ax_nil)))) (ax_cons (EX.toF (ex_tp (ax_cons fx_str (ax_cons (fx_var (pv 4)) (ax_cons (fx_var (pv 4)) ax_nil))))) ax_nil))))))))))) ax_nil)))
      (ssx_cons (sx_if (tx_cmp (op_neP hr.units) ops_eq (EX.toB (ex_reprA hG hr m_repr (bax_cons (EX.toB (ex_ref1 (hs := ([("BadSaying", C_BadSaying, "value", [])] : List HL)) (L := LamX.lamS_by (sc := defScope s_law) (by decide +kernel)) c__law_refused xt__law_refused TBl rfl lamQ hG (hr.mono (by decide)) takes0 (t := fun E => tCallS (spF K mg 1 F_format_saying) (WE (WL E)) (tCons (tVar 6) (tNil))) (fun A out s H E f c' hG hr tk => (ex_callD d_format_saying hG hr tk (ax_cons (fx_var (pv 6)) ax_nil))))) bax_nil))) (EX.toB (ex_reprA hG hr m_repr (bax_cons (EX.toB (ex_lst (ax_cons (fx_var (pv 6)) ax_nil))) bax_nil))) (nomark _)) (ssx_one (sx_ret (FX.toE fx_bl))) ssx_nil)
      (ssx_cons (sx_set sc_law.nd (ex_callDT d__law_bent_saying hG hr takes0 (pv 2) (ax_cons (fx_var (pv 4)) ax_nil)))
      (ssx_one (sx_if (WXt.t (wx_and (tx_not (tx_val (EX.toB (ex_callD d__law_is_saying hG hr takes0 (ax_cons (fx_var (pv 6)) (ax_cons fx_int ax_nil)))))) (wx_and1 (tx_cmp (op_neP hr.units) ops_eq (EX.toB (ex_reprA hG hr m_repr (bax_cons (EX.toB (ex_ref1 (hs := ([("BadSaying", C_BadSaying, "value", [])] : List HL)) (L := LamX.lamS_by (sc := defScope s_law) (by decide +kernel)) c__law_refused xt__law_refused TBl rfl lamQ hG (hr.mono (by decide)) takes0 (t := fun E => tCallS (spF K mg 1 F_format_saying) (WE (WL E)) (tCons (tVar 6) (tNil))) (fun A out s H E f c' hG hr tk => (ex_callD d_format_saying hG hr tk (ax_cons (fx_var (pv 6)) ax_nil))))) bax_nil))) (EX.toB (ex_reprA hG hr m_repr (bax_cons (EX.toB (ex_lst (ax_cons (fx_var (pv 6)) ax_nil))) bax_nil))) (nomark _))))) (ssx_one (sx_ret (FX.toE fx_bl))) ssx_nil))))))))))⟩
    have tE : ∃ t, SSX (cxOf (L2.CX P w) P w K mg base ["script", "start", "tape", "turn", "saying_here", "due", "thing", "deep", "worse"] "law" (defScope s_law) f (.ref cL) A out s H E) WN (lawTail (defBody s_law)) t (G_law PT) := ⟨_, (ssx_cons (sx_set sc_law.nd (ex_tp (ax_cons fx_str (ax_cons fx_str ax_nil))))
      (ssx_cons (sx_for (passes_of rfl) rfl (ix_rng1 (by rfl) m_range (ax_cons fx_int ax_nil)) (gx_nm sc_law.nd) (ssx_one (sx_set sc_law.nd (ex_tp (ax_cons fx_str (ax_cons (fx_var (pv 7)) ax_nil))))))
      (ssx_cons (sx_set sc_law.nd (ex_tp (ax_cons fx_str (ax_cons (fx_var (pv 7)) ax_nil))))
      (ssx_cons (sx_if (tx_cmp (op_neP hr.units) ops_eq (EX.toB (ex_ref1 (hs := ([("BadSaying", C_BadSaying, "value", [])] : List HL)) (L := LamX.lamS_by (sc := defScope s_law) (by decide +kernel)) c__law_refused xt__law_refused TBl rfl lamQ hG (hr.mono (by decide)) takes0 (t := fun E => tCallS (spF K mg 1 F_format_saying) (WE (WL E)) (tCons (tVar 8) (tNil))) (fun A out s H E f c' hG hr tk => (ex_callD d_format_saying hG hr tk (ax_cons (fx_var (pv 8)) ax_nil))))) (EX.toB (ex_lst (ax_cons (fx_var (pv 8)) ax_nil))) (nomark _)) (ssx_one (sx_ret (FX.toE fx_bl))) ssx_nil)
      (ssx_one (sx_ret (ex_and (EX.toB (ex_cmp (op_eqP hr.units) ops_eq (EX.toB (ex_callD d_read_saying hG hr takes0 (ax_cons (EX.toF (ex_callD d_format_saying hG hr takes0 (ax_cons (fx_var (pv 7)) ax_nil))) ax_nil))) (bx_var (pv 7)) (nomark _))) (ex_one (ex_cmp (op_eqP hr.units) ops_eq (EX.toB (ex_callD d_format_saying hG hr takes0 (ax_cons (EX.toF (ex_tp (ax_cons fx_str (ax_cons fx_str ax_nil)))) ax_nil))) (FX.toB fx_str) (nomark _))))))))))⟩
    obtain ⟨tB, hB⟩ := tB
    obtain ⟨tE, hE⟩ := tE
    refine ⟨tB, tE, hB.sim, hE.sim, ?_⟩
    exact pss_cons (ps_for (passes_of rfl) rfl (pi_range1 (by rfl) m_range (pa_cons (pe_callB (call_max2 rfl) (by rfl) m_max PyProof.Rows.boot_max (pa_cons pe_int (pa_cons (pe_callB (call_min2 rfl) (by rfl) m_min PyProof.Rows.boot_min (pa_cons pe_int (pa_cons (pe_callB call_len (by rfl) m_len PySem.boot_len (pa_cons (pv 0) pa_nil)) pa_nil))) pa_nil))) pa_nil)) (pg_name (i := 1) sc_law.nd rfl (by first | exact Or.inl rfl | exact Or.inr rfl))
      (pss_cons (ps_set (i := 2) sc_law.nd rfl (by first | exact Or.inl rfl | exact Or.inr rfl) (pe_callF FT hG (hr.mono (by decide)) (by rfl) gT kT bT takes0 (pa_cons (pv 0) (pa_cons (pv 1) pa_nil)))) hB.ps))
      hE.ps
end
set_option maxHeartbeats 0 in
theorem all_mk {l : PySem.W.OpenLaw} {w : World} {K : PySem.W.Frag} {h : Heap} {mg : Str → Option Value} {fa f0 f1 f2 f3 f4 f5 f6 f7 f8 f9 f10 f11 f12 f13 f14 f15 f16 f17 f18 f19 : Addr} (X : K.In h) (G : h.Ns mainGlobals mg) (hfa : mg "law" = some (.ref fa)) (okL : ∀ PT, LawOk2 6 [PT] (B_law PT) (G_law PT)) {ts : List Addr} (tabs : ∀ P ∈ ts, h.get? P = some (PySem.W.tabObj #[]))
    {od0 an0 od1 an1 od2 an2 od3 an3 od4 an4 od5 an5 od6 an6 od7 an7 od8 an8 od9 an9 od10 an10 od11 an11 od12 an12 od13 an13 od14 an14 od15 an15 od16 an16 od17 an17 od18 an18 od19 an19 : Option Addr} {sl0 sl1 sl2 sl3 sl4 sl5 sl6 sl7 sl8 sl9 sl10 sl11 sl12 sl13 sl14 sl15 sl16 sl17 sl18 sl19 : Array (Option Value)} {oc0 kV0 dc0 pm0 cd0 ct0 oc1 kV1 dc1 pm1 cd1 ct1 oc2 kV2 dc2 pm2 cd2 ct2 oc3 kV3 dc3 pm3 cd3 ct3 oc4 kV4 dc4 pm4 cd4 ct4 oc5 kV5 dc5 pm5 cd5 ct5 oc6 kV6 dc6 pm6 cd6 ct6 oc7 kV7 dc7 pm7 cd7 ct7 oc8 kV8 dc8 pm8 cd8 ct8 oc9 kV9 dc9 pm9 cd9 ct9 oc10 kV10 dc10 pm10 cd10 ct10 oc11 kV11 dc11 pm11 cd11 ct11 oc12 kV12 dc12 pm12 cd12 ct12 oc13 kV13 dc13 pm13 cd13 ct13 oc14 kV14 dc14 pm14 cd14 ct14 oc15 kV15 dc15 pm15 cd15 ct15 oc16 kV16 dc16 pm16 cd16 ct16 oc17 kV17 dc17 pm17 cd17 ct17 oc18 kV18 dc18 pm18 cd18 ct18 oc19 kV19 dc19 pm19 cd19 ct19 : Value}
    {tk0 tk1 : Tok}
    {C_BadSaying fI_BadSaying cc_BadSaying ca_BadSaying eN_BadSaying C_BadSigns fI_BadSigns cc_BadSigns ca_BadSigns eN_BadSigns : Addr} {en_BadSaying eq_BadSaying ef_BadSaying en_BadSigns eq_BadSigns ef_BadSigns : Str} {eb_BadSaying em_BadSaying es_BadSaying eb_BadSigns em_BadSigns es_BadSigns : List Value} {et_BadSaying et_BadSigns : List Str} {ea_BadSaying ea_BadSigns : Bool} {eo_BadSaying eo_BadSigns : Option Bool} {ed_BadSaying e1d_BadSaying e1a_BadSaying e2d_BadSaying e3d_BadSaying ed_BadSigns e1d_BadSigns e1a_BadSigns e2d_BadSigns e3d_BadSigns : Option Addr} {k0_BadSaying k1_BadSaying k2_BadSaying k3_BadSaying k5_BadSaying k0_BadSigns k1_BadSigns k2_BadSigns k3_BadSigns k5_BadSigns : Option Value} {e1o_BadSaying e1k_BadSaying e1c_BadSaying e1p_BadSaying e1t_BadSaying e2o_BadSaying e3o_BadSaying e1o_BadSigns e1k_BadSigns e1c_BadSigns e1p_BadSigns e1t_BadSigns e2o_BadSigns e3o_BadSigns : Value} {e1s_BadSaying e2s_BadSaying e3s_BadSaying e1s_BadSigns e2s_BadSigns e3s_BadSigns : Array (Option Value)} {e2v_BadSaying e2v_BadSigns : Array Value} {e2t_BadSaying e2t_BadSigns : Tok}
    (x0_BadSaying : PySem.W.nsIn K mainGlobals "BadSaying" = some (some (.ref C_BadSaying)))
    (x1_BadSaying : K.lookup C_BadSaying = some (excClassObj en_BadSaying eq_BadSaying C_BadSaying eN_BadSaying eb_BadSaying em_BadSaying true et_BadSaying es_BadSaying ea_BadSaying eo_BadSaying ed_BadSaying k0_BadSaying k1_BadSaying k2_BadSaying k3_BadSaying k5_BadSaying "ValueError.__new__"))
    (x2_BadSaying : HandSPX.refsVE em_BadSaying = true)
    (x3_BadSaying : PySem.W.findIn K (.ref C_BadSaying) "__setattr__" = some (some (.builtin "object.__setattr__")))
    (x4_BadSaying : PySem.W.subIn K (.ref C_BadSaying) (.type "BaseException") = some true)
    (x5_BadSaying : PySem.W.typeIn K (.ref C_BadSaying) = some (.type "type"))
    (x6_BadSaying : PySem.W.keepIn K (.ref C_BadSaying) = true)
    (x7_BadSaying : PySem.W.findIn K (.ref C_BadSaying) "value" = some none)
    (x8_BadSaying : PySem.W.findIn K (.ref C_BadSaying) "__init__" = some (some (.ref fI_BadSaying)))
    (x9_BadSaying : PySem.W.typeIn K (.ref fI_BadSaying) = some (.type "function"))
    (y0_BadSaying : K.lookup fI_BadSaying = some ⟨e1o_BadSaying, e1d_BadSaying, .func (PySem.W.ksFn "__init__" "BadSaying.__init__" (defArgs (initS (topS 2))) (defBody (initS (topS 2))) (defScope (initS (topS 2))) .none e1k_BadSaying e1c_BadSaying e1p_BadSaying e1a_BadSaying (.ref ca_BadSaying) e1t_BadSaying cc_BadSaying), e1s_BadSaying⟩)
    (y1_BadSaying : PySem.W.codeIn K (.ref ca_BadSaying) "BadSaying.__init__" = true)
    (y2_BadSaying : K.lookup ca_BadSaying = some ⟨e2o_BadSaying, e2d_BadSaying, .fields e2v_BadSaying, e2s_BadSaying⟩)
    (y3_BadSaying : e2v_BadSaying[2]? = some (.str ef_BadSaying e2t_BadSaying))
    (y4_BadSaying : ((l.prog.main.file : Str) == ef_BadSaying) = true)
    (y5_BadSaying : K.lookup cc_BadSaying = some ⟨e3o_BadSaying, e3d_BadSaying, .cell (some (.ref C_BadSaying)), e3s_BadSaying⟩)
    (y6_BadSaying : PySem.W.mroIn K C_BadSaying (.ref C_BadSaying) = some true)
    (y7_BadSaying : PySem.W.subIn K (.ref C_BadSaying) (.type "ValueError") = some true)
    (y8_BadSaying : PySem.W.ks_superIn K C_BadSaying C_BadSaying "__init__" = some (some (.builtin "ValueError.__init__")))
    (y9_BadSaying : PySem.W.findIn K (.ref C_BadSaying) "__getattribute__" = some (some (.builtin "BaseException.__getattribute__")))
    (w0_BadSaying : PySem.W.findIn K (.ref C_BadSaying) "__getattr__" = some none)
    (w1_BadSaying : PySem.W.hasDictIn K C_BadSaying = true)
    (x0_BadSigns : PySem.W.nsIn K mainGlobals "BadSigns" = some (some (.ref C_BadSigns)))
    (x1_BadSigns : K.lookup C_BadSigns = some (excClassObj en_BadSigns eq_BadSigns C_BadSigns eN_BadSigns eb_BadSigns em_BadSigns true et_BadSigns es_BadSigns ea_BadSigns eo_BadSigns ed_BadSigns k0_BadSigns k1_BadSigns k2_BadSigns k3_BadSigns k5_BadSigns "ValueError.__new__"))
    (x2_BadSigns : HandSPX.refsVE em_BadSigns = true)
    (x3_BadSigns : PySem.W.findIn K (.ref C_BadSigns) "__setattr__" = some (some (.builtin "object.__setattr__")))
    (x4_BadSigns : PySem.W.subIn K (.ref C_BadSigns) (.type "BaseException") = some true)
    (x5_BadSigns : PySem.W.typeIn K (.ref C_BadSigns) = some (.type "type"))
    (x6_BadSigns : PySem.W.keepIn K (.ref C_BadSigns) = true)
    (x7_BadSigns : PySem.W.findIn K (.ref C_BadSigns) "value" = some none)
    (x8_BadSigns : PySem.W.findIn K (.ref C_BadSigns) "__init__" = some (some (.ref fI_BadSigns)))
    (x9_BadSigns : PySem.W.typeIn K (.ref fI_BadSigns) = some (.type "function"))
    (y0_BadSigns : K.lookup fI_BadSigns = some ⟨e1o_BadSigns, e1d_BadSigns, .func (PySem.W.ksFn "__init__" "BadSigns.__init__" (defArgs (initS (topS 3))) (defBody (initS (topS 3))) (defScope (initS (topS 3))) .none e1k_BadSigns e1c_BadSigns e1p_BadSigns e1a_BadSigns (.ref ca_BadSigns) e1t_BadSigns cc_BadSigns), e1s_BadSigns⟩)
    (y1_BadSigns : PySem.W.codeIn K (.ref ca_BadSigns) "BadSigns.__init__" = true)
    (y2_BadSigns : K.lookup ca_BadSigns = some ⟨e2o_BadSigns, e2d_BadSigns, .fields e2v_BadSigns, e2s_BadSigns⟩)
    (y3_BadSigns : e2v_BadSigns[2]? = some (.str ef_BadSigns e2t_BadSigns))
    (y4_BadSigns : ((l.prog.main.file : Str) == ef_BadSigns) = true)
    (y5_BadSigns : K.lookup cc_BadSigns = some ⟨e3o_BadSigns, e3d_BadSigns, .cell (some (.ref C_BadSigns)), e3s_BadSigns⟩)
    (y6_BadSigns : PySem.W.mroIn K C_BadSigns (.ref C_BadSigns) = some true)
    (y7_BadSigns : PySem.W.subIn K (.ref C_BadSigns) (.type "ValueError") = some true)
    (y8_BadSigns : PySem.W.ks_superIn K C_BadSigns C_BadSigns "__init__" = some (some (.builtin "ValueError.__init__")))
    (y9_BadSigns : PySem.W.findIn K (.ref C_BadSigns) "__getattribute__" = some (some (.builtin "BaseException.__getattribute__")))
    (w0_BadSigns : PySem.W.findIn K (.ref C_BadSigns) "__getattr__" = some none)
    (w1_BadSigns : PySem.W.hasDictIn K C_BadSigns = true)
    (tpA : PySem.W.nsIn K PySem.cStatics "thirdparty.any" = some none) (suA : PySem.W.nsIn K mainGlobals "super" = some none) (toA : (l.prog.main.scope.names.lookup ("super" : Str)).isSome = false)
    (s_BadSaying_BadSaying : PySem.W.subIn K (.ref C_BadSaying) (.ref C_BadSaying) = some true)
    {hf0 : Addr} {hd0 ha0 : Option Addr} {hs0 : Array (Option Value)} {ho0 hk0 hc0 hp0 hx0 ht0 : Value}
    (ha0_a : PySem.W.nsIn K mainGlobals "_law_refused" = some (some (.ref hf0))) (ha0_l : K.lookup hf0 = some ⟨ho0, hd0, .func (PySem.W.fnOf "_law_refused" "_law_refused" (defArgs (topS 29)) (defBody (topS 29)) (defScope (topS 29)) .none hk0 hc0 hp0 ha0 hx0 ht0), hs0⟩) (ha0_c : PySem.W.codeIn K hx0 "_law_refused" = true) (ha0_k : PySem.W.keepIn K (.ref hf0) = true)
    {cL PT : Addr} {lod : Option Addr} {lvs : Array Value} {lsl : Array (Option Value)}
    (a0 : PySem.W.nsIn K mainGlobals "_law_tape" = some (some (.ref f0))) (l0 : K.lookup f0 = some ⟨oc0, od0, .func (PySem.W.fnOf "_law_tape" "_law_tape" (defArgs s__law_tape) (defBody s__law_tape) (defScope s__law_tape) .none kV0 dc0 pm0 an0 cd0 ct0), sl0⟩) (c0 : PySem.W.codeIn K cd0 "_law_tape" = true) (k0 : PySem.W.keepIn K (.ref f0) = true)
    (a1 : PySem.W.nsIn K mainGlobals "_law_pick" = some (some (.ref f1))) (l1 : K.lookup f1 = some ⟨oc1, od1, .func (PySem.W.fnOf "_law_pick" "_law_pick" (defArgs s__law_pick) (defBody s__law_pick) (defScope s__law_pick) .none kV1 dc1 pm1 an1 cd1 ct1), sl1⟩) (c1 : PySem.W.codeIn K cd1 "_law_pick" = true) (k1 : PySem.W.keepIn K (.ref f1) = true)
    (a2 : PySem.W.nsIn K mainGlobals "_law_one_of" = some (some (.ref f2))) (l2 : K.lookup f2 = some ⟨oc2, od2, .func (PySem.W.fnOf "_law_one_of" "_law_one_of" (defArgs s__law_one_of) (defBody s__law_one_of) (defScope s__law_one_of) .none kV2 dc2 pm2 an2 cd2 ct2), sl2⟩) (c2 : PySem.W.codeIn K cd2 "_law_one_of" = true) (k2 : PySem.W.keepIn K (.ref f2) = true)
    (a3 : PySem.W.nsIn K mainGlobals "_law_drawn_text" = some (some (.ref f3))) (l3 : K.lookup f3 = some ⟨oc3, od3, .func (PySem.W.fnOf "_law_drawn_text" "_law_drawn_text" (defArgs s__law_drawn_text) (defBody s__law_drawn_text) (defScope s__law_drawn_text) .none kV3 dc3 pm3 an3 cd3 ct3), sl3⟩) (c3 : PySem.W.codeIn K cd3 "_law_drawn_text" = true) (k3 : PySem.W.keepIn K (.ref f3) = true)
    (a4 : PySem.W.nsIn K mainGlobals "_law_drawn_saying" = some (some (.ref f4))) (l4 : K.lookup f4 = some ⟨oc4, od4, .func (PySem.W.fnOf "_law_drawn_saying" "_law_drawn_saying" (defArgs s__law_drawn_saying) (defBody s__law_drawn_saying) (defScope s__law_drawn_saying) .none kV4 dc4 pm4 an4 cd4 ct4), sl4⟩) (c4 : PySem.W.codeIn K cd4 "_law_drawn_saying" = true) (k4 : PySem.W.keepIn K (.ref f4) = true)
    (a5 : PySem.W.nsIn K mainGlobals "_law_signs" = some (some (.ref f5))) (l5 : K.lookup f5 = some ⟨oc5, od5, .func (PySem.W.fnOf "_law_signs" "_law_signs" (defArgs s__law_signs) (defBody s__law_signs) (defScope s__law_signs) .none kV5 dc5 pm5 an5 cd5 ct5), sl5⟩) (c5 : PySem.W.codeIn K cd5 "_law_signs" = true) (k5 : PySem.W.keepIn K (.ref f5) = true)
    (a6 : PySem.W.nsIn K mainGlobals "_law_any" = some (some (.ref f6))) (l6 : K.lookup f6 = some ⟨oc6, od6, .func (PySem.W.fnOf "_law_any" "_law_any" (defArgs s__law_any) (defBody s__law_any) (defScope s__law_any) .none kV6 dc6 pm6 an6 cd6 ct6), sl6⟩) (c6 : PySem.W.codeIn K cd6 "_law_any" = true) (k6 : PySem.W.keepIn K (.ref f6) = true)
    (a7 : PySem.W.nsIn K mainGlobals "_law_bent_saying" = some (some (.ref f7))) (l7 : K.lookup f7 = some ⟨oc7, od7, .func (PySem.W.fnOf "_law_bent_saying" "_law_bent_saying" (defArgs s__law_bent_saying) (defBody s__law_bent_saying) (defScope s__law_bent_saying) .none kV7 dc7 pm7 an7 cd7 ct7), sl7⟩) (c7 : PySem.W.codeIn K cd7 "_law_bent_saying" = true) (k7 : PySem.W.keepIn K (.ref f7) = true)
    (a8 : PySem.W.nsIn K mainGlobals "closing" = some (some (.ref f8))) (l8 : K.lookup f8 = some ⟨oc8, od8, .func (PySem.W.fnOf "closing" "closing" (defArgs s_closing) (defBody s_closing) (defScope s_closing) .none kV8 dc8 pm8 an8 cd8 ct8), sl8⟩) (c8 : PySem.W.codeIn K cd8 "closing" = true) (k8 : PySem.W.keepIn K (.ref f8) = true)
    (a9 : PySem.W.nsIn K mainGlobals "is_text" = some (some (.ref f9))) (l9 : K.lookup f9 = some ⟨oc9, od9, .func (PySem.W.fnOf "is_text" "is_text" (defArgs s_is_text) (defBody s_is_text) (defScope s_is_text) .none kV9 dc9 pm9 an9 cd9 ct9), sl9⟩) (c9 : PySem.W.codeIn K cd9 "is_text" = true) (k9 : PySem.W.keepIn K (.ref f9) = true)
    (a10 : PySem.W.nsIn K mainGlobals "inner" = some (some (.ref f10))) (l10 : K.lookup f10 = some ⟨oc10, od10, .func (PySem.W.fnOf "inner" "inner" (defArgs s_inner) (defBody s_inner) (defScope s_inner) .none kV10 dc10 pm10 an10 cd10 ct10), sl10⟩) (c10 : PySem.W.codeIn K cd10 "inner" = true) (k10 : PySem.W.keepIn K (.ref f10) = true)
    (a11 : PySem.W.nsIn K mainGlobals "saying_of" = some (some (.ref f11))) (l11 : K.lookup f11 = some ⟨oc11, od11, .func (PySem.W.fnOf "saying_of" "saying_of" (defArgs s_saying_of) (defBody s_saying_of) (defScope s_saying_of) .none kV11 dc11 pm11 an11 cd11 ct11), sl11⟩) (c11 : PySem.W.codeIn K cd11 "saying_of" = true) (k11 : PySem.W.keepIn K (.ref f11) = true)
    (a12 : PySem.W.nsIn K mainGlobals "is_saying_in" = some (some (.ref f12))) (l12 : K.lookup f12 = some ⟨oc12, od12, .func (PySem.W.fnOf "is_saying_in" "is_saying_in" (defArgs s_is_saying_in) (defBody s_is_saying_in) (defScope s_is_saying_in) .none kV12 dc12 pm12 an12 cd12 ct12), sl12⟩) (c12 : PySem.W.codeIn K cd12 "is_saying_in" = true) (k12 : PySem.W.keepIn K (.ref f12) = true)
    (a13 : PySem.W.nsIn K mainGlobals "is_saying" = some (some (.ref f13))) (l13 : K.lookup f13 = some ⟨oc13, od13, .func (PySem.W.fnOf "is_saying" "is_saying" (defArgs s_is_saying) (defBody s_is_saying) (defScope s_is_saying) .none kV13 dc13 pm13 an13 cd13 ct13), sl13⟩) (c13 : PySem.W.codeIn K cd13 "is_saying" = true) (k13 : PySem.W.keepIn K (.ref f13) = true)
    (a14 : PySem.W.nsIn K mainGlobals "read_saying" = some (some (.ref f14))) (l14 : K.lookup f14 = some ⟨oc14, od14, .func (PySem.W.fnOf "read_saying" "read_saying" (defArgs s_read_saying) (defBody s_read_saying) (defScope s_read_saying) .none kV14 dc14 pm14 an14 cd14 ct14), sl14⟩) (c14 : PySem.W.codeIn K cd14 "read_saying" = true) (k14 : PySem.W.keepIn K (.ref f14) = true)
    (a15 : PySem.W.nsIn K mainGlobals "must_be_saying" = some (some (.ref f15))) (l15 : K.lookup f15 = some ⟨oc15, od15, .func (PySem.W.fnOf "must_be_saying" "must_be_saying" (defArgs s_must_be_saying) (defBody s_must_be_saying) (defScope s_must_be_saying) .none kV15 dc15 pm15 an15 cd15 ct15), sl15⟩) (c15 : PySem.W.codeIn K cd15 "must_be_saying" = true) (k15 : PySem.W.keepIn K (.ref f15) = true)
    (a16 : PySem.W.nsIn K mainGlobals "signs_of" = some (some (.ref f16))) (l16 : K.lookup f16 = some ⟨oc16, od16, .func (PySem.W.fnOf "signs_of" "signs_of" (defArgs s_signs_of) (defBody s_signs_of) (defScope s_signs_of) .none kV16 dc16 pm16 an16 cd16 ct16), sl16⟩) (c16 : PySem.W.codeIn K cd16 "signs_of" = true) (k16 : PySem.W.keepIn K (.ref f16) = true)
    (a17 : PySem.W.nsIn K mainGlobals "format_saying" = some (some (.ref f17))) (l17 : K.lookup f17 = some ⟨oc17, od17, .func (PySem.W.fnOf "format_saying" "format_saying" (defArgs s_format_saying) (defBody s_format_saying) (defScope s_format_saying) .none kV17 dc17 pm17 an17 cd17 ct17), sl17⟩) (c17 : PySem.W.codeIn K cd17 "format_saying" = true) (k17 : PySem.W.keepIn K (.ref f17) = true)
    (a18 : PySem.W.nsIn K mainGlobals "_law_is_saying" = some (some (.ref f18))) (l18 : K.lookup f18 = some ⟨oc18, od18, .func (PySem.W.fnOf "_law_is_saying" "_law_is_saying" (defArgs s__law_is_saying) (defBody s__law_is_saying) (defScope s__law_is_saying) .none kV18 dc18 pm18 an18 cd18 ct18), sl18⟩) (c18 : PySem.W.codeIn K cd18 "_law_is_saying" = true) (k18 : PySem.W.keepIn K (.ref f18) = true)
    (a19 : PySem.W.nsIn K mainGlobals "law" = some (some (.ref f19))) (l19 : K.lookup f19 = some ⟨oc19, od19, .func (PySem.W.fnOf "law" "law" (defArgs s_law) (defBody s_law) (defScope s_law) .none kV19 dc19 pm19 an19 cd19 ct19), sl19⟩) (c19 : PySem.W.codeIn K cd19 "law" = true) (k19 : PySem.W.keepIn K (.ref f19) = true)
    (z0 : PySem.W.nsIn K mainGlobals "int" = some none)
    (z1 : PySem.W.nsIn K mainGlobals "isinstance" = some none)
    (z2 : PySem.W.nsIn K mainGlobals "len" = some none)
    (z3 : PySem.W.nsIn K mainGlobals "list" = some none)
    (z4 : PySem.W.nsIn K mainGlobals "max" = some none)
    (z5 : PySem.W.nsIn K mainGlobals "min" = some none)
    (z6 : PySem.W.nsIn K mainGlobals "range" = some none)
    (z7 : PySem.W.nsIn K mainGlobals "repr" = some none)
    (z8 : PySem.W.nsIn K mainGlobals "str" = some none)
    (z9 : PySem.W.nsIn K mainGlobals "tuple" = some none)
    (v0 : PySem.W.nsIn K mainGlobals "ALPHABET" = some (some (.str "abcdefghijklmnopqrstuvwxyz" tk0)))
    (v1 : PySem.W.nsIn K mainGlobals "DEEPEST" = some (some (.int 10 tk1)))
    (hcL : cd19 = .ref cL) (lco : K.lookup cL = some ⟨.type "code", lod, .fields lvs, lsl⟩) (lt11 : lvs[11]? = some (.ref PT)) (lhd : PySem.W.codeHdIn K cL PT = true) (lnk : K.lookup PT = none) (lin : PT ∈ ts) (lamQ : lamName PT = "law.<locals>." ++ "<lambda>")
    : ∃ (fd : FuncData) (cs : List (Addr × Addr)), (∀ p ∈ cs, h.get? p.2 = some { cls := .none, data := .fields #[] }) ∧ (∀ p ∈ cs, K.lookup p.2 = none) ∧ (∀ p ∈ cs, PySem.W.CodeHd h p.1 p.2) ∧ (∀ (s : Shared) (v : Value), BindsTo s fd ⟨[v], []⟩ [("script", v)]) ∧ ∀ base : Heap, K.In base → base.Ns mainGlobals mg → (∀ p ∈ cs, LamX.TabB base mg p.1 p.2) → FnG l.prog w K mg base 20 fa fd ["script"] (spLaw K (cs.map (·.2))) := by
  have e := hfa.symm.trans (PySem.W.mg_of X G a19)
  cases e
  have m_int := PySem.W.mg_none_of X G z0
  have m_isinstance := PySem.W.mg_none_of X G z1
  have m_len := PySem.W.mg_none_of X G z2
  have m_list := PySem.W.mg_none_of X G z3
  have m_max := PySem.W.mg_none_of X G z4
  have m_min := PySem.W.mg_none_of X G z5
  have m_range := PySem.W.mg_none_of X G z6
  have m_repr := PySem.W.mg_none_of X G z7
  have m_str := PySem.W.mg_none_of X G z8
  have m_tuple := PySem.W.mg_none_of X G z9
  have m_ALPHABET : ∃ tk, mg "ALPHABET" = some (.str "abcdefghijklmnopqrstuvwxyz" tk) := ⟨_, PySem.W.mg_of X G v0⟩
  have m_DEEPEST : ∃ tk, mg "DEEPEST" = some (.int 10 tk) := ⟨_, PySem.W.mg_of X G v1⟩
  have Fu0 := fun_mk (st := s__law_tape) l0 c0 k0
  have b0 := Fu0.binds (ps := ["script", "start"]) fun _ _ _ _ _ _ us hl => match us, hl with | [_, _], _ => rfl
  have Fu1 := fun_mk (st := s__law_pick) l1 c1 k1
  have b1 := Fu1.binds (ps := ["tape", "many"]) fun _ _ _ _ _ _ us hl => match us, hl with | [_, _], _ => rfl
  have Fu2 := fun_mk (st := s__law_one_of) l2 c2 k2
  have b2 := Fu2.binds (ps := ["tape", "things"]) fun _ _ _ _ _ _ us hl => match us, hl with | [_, _], _ => rfl
  have Fu3 := fun_mk (st := s__law_drawn_text) l3 c3 k3
  have b3 := Fu3.binds (ps := ["tape", "letters", "most"]) fun _ _ _ _ _ _ us hl => match us, hl with | [_, _, _], _ => rfl
  have Fu4 := fun_mk (st := s__law_drawn_saying) l4 c4 k4
  have b4 := Fu4.binds (ps := ["tape", "letters", "deep"]) fun _ _ _ _ _ _ us hl => match us, hl with | [_, _, _], _ => rfl
  have Fu5 := fun_mk (st := s__law_signs) l5 c5 k5
  have b5 := Fu5.binds (ps := ["saying_here"]) fun _ _ _ _ _ _ us hl => match us, hl with | [_], _ => rfl
  have Fu6 := fun_mk (st := s__law_any) l6 c6 k6
  have b6 := Fu6.binds (ps := ["tape"]) fun _ _ _ _ _ _ us hl => match us, hl with | [_], _ => rfl
  have Fu7 := fun_mk (st := s__law_bent_saying) l7 c7 k7
  have b7 := Fu7.binds (ps := ["tape", "saying_here"]) fun _ _ _ _ _ _ us hl => match us, hl with | [_, _], _ => rfl
  have Fu8 := fun_mk (st := s_closing) l8 c8 k8
  have b8 := Fu8.binds (ps := ["signs", "start"]) fun _ _ _ _ _ _ us hl => match us, hl with | [_, _], _ => rfl
  have Fu9 := fun_mk (st := s_is_text) l9 c9 k9
  have b9 := Fu9.binds (ps := ["value"]) fun _ _ _ _ _ _ us hl => match us, hl with | [_], _ => rfl
  have Fu10 := fun_mk (st := s_inner) l10 c10 k10
  have b10 := Fu10.binds (ps := ["signs", "start"]) fun _ _ _ _ _ _ us hl => match us, hl with | [_, _], _ => rfl
  have Fu11 := fun_mk (st := s_saying_of) l11 c11 k11
  have b11 := Fu11.binds (ps := ["signs", "deep"]) fun _ _ _ _ _ _ us hl => match us, hl with | [_, _], _ => rfl
  have Fu12 := fun_mk (st := s_is_saying_in) l12 c12 k12
  have b12 := Fu12.binds (ps := ["value", "deep"]) fun _ _ _ _ _ _ us hl => match us, hl with | [_, _], _ => rfl
  have Fu13 := fun_mk (st := s_is_saying) l13 c13 k13
  have b13 := Fu13.binds (ps := ["value"]) fun _ _ _ _ _ _ us hl => match us, hl with | [_], _ => rfl
  have Fu14 := fun_mk (st := s_read_saying) l14 c14 k14
  have b14 := Fu14.binds (ps := ["signs"]) fun _ _ _ _ _ _ us hl => match us, hl with | [_], _ => rfl
  have Fu15 := fun_mk (st := s_must_be_saying) l15 c15 k15
  have b15 := Fu15.binds (ps := ["value"]) fun _ _ _ _ _ _ us hl => match us, hl with | [_], _ => rfl
  have Fu16 := fun_mk (st := s_signs_of) l16 c16 k16
  have b16 := Fu16.binds (ps := ["saying"]) fun _ _ _ _ _ _ us hl => match us, hl with | [_], _ => rfl
  have Fu17 := fun_mk (st := s_format_saying) l17 c17 k17
  have b17 := Fu17.binds (ps := ["saying"]) fun _ _ _ _ _ _ us hl => match us, hl with | [_], _ => rfl
  have Fu18 := fun_mk (st := s__law_is_saying) l18 c18 k18
  have b18 := Fu18.binds (ps := ["thing", "deep"]) fun _ _ _ _ _ _ us hl => match us, hl with | [_, _], _ => rfl
  have Fu19 := fun_mk (st := s_law) l19 c19 k19
  have T_BadSaying : OexC K C_BadSaying := ⟨⟨_, _, _, _, _, _, _, _, _, _, _, _, _, _, _, x1_BadSaying, x2_BadSaying⟩, x3_BadSaying, x4_BadSaying, x5_BadSaying, x6_BadSaying⟩
  have S_BadSaying : SupC l.prog K mg C_BadSaying fI_BadSaying cc_BadSaying ca_BadSaying "BadSaying.__init__" _ _ _ "value" := ⟨T_BadSaying, x7_BadSaying, x8_BadSaying, x9_BadSaying, ⟨_, _, _, _, _, _, _, _, _, y0_BadSaying⟩, y1_BadSaying, ⟨_, _, _, _, _, _, y2_BadSaying, y3_BadSaying, y4_BadSaying⟩, ⟨_, _, _, y5_BadSaying⟩, y6_BadSaying, y7_BadSaying, y8_BadSaying, tpA, PySem.W.mg_none_of X G suA, toA⟩
  have T_BadSigns : OexC K C_BadSigns := ⟨⟨_, _, _, _, _, _, _, _, _, _, _, _, _, _, _, x1_BadSigns, x2_BadSigns⟩, x3_BadSigns, x4_BadSigns, x5_BadSigns, x6_BadSigns⟩
  have S_BadSigns : SupC l.prog K mg C_BadSigns fI_BadSigns cc_BadSigns ca_BadSigns "BadSigns.__init__" _ _ _ "value" := ⟨T_BadSigns, x7_BadSigns, x8_BadSigns, x9_BadSigns, ⟨_, _, _, _, _, _, _, _, _, y0_BadSigns⟩, y1_BadSigns, ⟨_, _, _, _, _, _, y2_BadSigns, y3_BadSigns, y4_BadSigns⟩, ⟨_, _, _, y5_BadSigns⟩, y6_BadSigns, y7_BadSigns, y8_BadSigns, tpA, PySem.W.mg_none_of X G suA, toA⟩
  have xt__law_refused : ExT K mg (List.map HL.c ([("BadSaying", C_BadSaying, "value", [])] : List HL)) := by
    show ∀ a ∈ ([("BadSaying", C_BadSaying)] : List (Str × Addr)), mg a.1 = some (.ref a.2) ∧ ∀ b ∈ ([("BadSaying", C_BadSaying)] : List (Str × Addr)), PySem.W.exmOne K (.ref a.2) (.ref b.2) = some (decide (a.1 = b.1))
    exact (List.forall_mem_cons.mpr ⟨⟨PySem.W.mg_of X G x0_BadSaying, (List.forall_mem_cons.mpr ⟨(by rw [show decide (("BadSaying" : Str) = "BadSaying") = true by decide +kernel]; exact PySem.W.exm_ref x4_BadSaying w1_BadSaying x5_BadSaying s_BadSaying_BadSaying), (fun _ h => nomatch h)⟩)⟩, (fun _ h => nomatch h)⟩)
  refine ⟨PySem.W.fnOf "law" "law" (defArgs s_law) (defBody s_law) (defScope s_law) .none kV19 dc19 pm19 an19 cd19 ct19, [(cL, PT)], ?_, ?_, ?_, fun s v => .of_eq rfl, fun base _ _ TBs => ?_⟩
  · intro p hp; rw [List.mem_singleton.mp hp]; exact tabs PT lin
  · intro p hp; rw [List.mem_singleton.mp hp]; exact lnk
  · intro p hp; rw [List.mem_singleton.mp hp]; exact PySem.W.codeHd_of_K X lhd
  have TBl : LamX.TabB base mg cL PT := TBs (cL, PT) (by simp)
  have hcd : (PySem.W.fnOf "law" "law" (defArgs s_law) (defBody s_law) (defScope s_law) .none kV19 dc19 pm19 an19 cd19 ct19).code = .ref cL := hcL
  have d_BadSaying : DefE l.prog w K mg base "BadSaying" "value" C_BadSaying := defE_of (PySem.W.mg_of X G x0_BadSaying) S_BadSaying y0_BadSaying (hbody := rfl) (hp := rfl) (har := rfl) (Sc := NdefX.nscope_by (by decide +kernel)) (hks := rfl) (hnd := by decide) (hnc := by decide) (hev := fun _ => rfl) (hint := fun _ => rfl) (hsw := fun _ => rfl) (hsw2 := fun _ => rfl) (hb := fun us hl => match us, hl with | [_, _], _ => rfl)
  have d_BadSigns : DefE l.prog w K mg base "BadSigns" "value" C_BadSigns := defE_of (PySem.W.mg_of X G x0_BadSigns) S_BadSigns y0_BadSigns (hbody := rfl) (hp := rfl) (har := rfl) (Sc := NdefX.nscope_by (by decide +kernel)) (hks := rfl) (hnd := by decide) (hnc := by decide) (hev := fun _ => rfl) (hint := fun _ => rfl) (hsw := fun _ => rfl) (hsw2 := fun _ => rfl) (hb := fun us hl => match us, hl with | [_, _], _ => rfl)
  have c__law_refused : CloOk l.prog w K mg base 16 18 "_law_refused" (TT1 K (List.map HL.r ([("BadSaying", C_BadSaying, "value", [])] : List HL))) := clo1 (kb := 16) (hs := [(C_BadSaying, "value", [])]) (PySem.W.mg_of X G ha0_a) ha0_k ha0_l ha0_c (L2.Binds.all fun us hl => match us, hl with | [_], _ => rfl) ⟨rfl, rfl, rfl, by decide +kernel, rfl, by decide +kernel, by decide +kernel⟩ rfl rfl rfl (by simp) (fun _ _ _ _ _ => (HdsR.bare (x := "BadSaying") ⟨rfl, by decide, .inl (PySem.W.mg_of X G x0_BadSaying)⟩ ⟨y9_BadSaying, w0_BadSaying, x4_BadSaying, w1_BadSaying⟩ x7_BadSaying .nil)) rfl
  have d__law_pick : DefT l.prog w K mg base "_law_pick" 1 1 F__law_pick := ⟨_, _, _, fn__law_pick Fu1 m_int, PySem.W.mg_of X G a1, Fu1.kp, b1⟩
  have d__law_one_of : DefT l.prog w K mg base "_law_one_of" 2 1 F__law_one_of := ⟨_, _, _, fn__law_one_of Fu2 d__law_pick m_len, PySem.W.mg_of X G a2, Fu2.kp, b2⟩
  have d__law_drawn_text : DefT l.prog w K mg base "_law_drawn_text" 3 2 F__law_drawn_text := ⟨_, _, _, fn__law_drawn_text Fu3 d__law_pick d__law_one_of m_len m_range, PySem.W.mg_of X G a3, Fu3.kp, b3⟩
  have d__law_drawn_saying : DefT l.prog w K mg base "_law_drawn_saying" 15 2 F__law_drawn_saying := ⟨_, _, _, fn__law_drawn_saying Fu4 (PySem.W.mg_of X G a4) Fu4.kp b4 d__law_pick d__law_drawn_text, PySem.W.mg_of X G a4, Fu4.kp, b4⟩
  have d__law_signs : DefF l.prog w K mg base "_law_signs" 12 1 F__law_signs := ⟨_, _, _, fn__law_signs Fu5 (PySem.W.mg_of X G a5) Fu5.kp b5 , PySem.W.mg_of X G a5, Fu5.kp, b5⟩
  have d__law_any : DefT l.prog w K mg base "_law_any" 3 0 F__law_any := ⟨_, _, _, fn__law_any Fu6 d__law_one_of, PySem.W.mg_of X G a6, Fu6.kp, b6⟩
  have d__law_bent_saying : DefT l.prog w K mg base "_law_bent_saying" 15 1 F__law_bent_saying := ⟨_, _, _, fn__law_bent_saying Fu7 (PySem.W.mg_of X G a7) Fu7.kp b7 d__law_pick d__law_one_of d__law_any m_len m_list, PySem.W.mg_of X G a7, Fu7.kp, b7⟩
  have d_closing : DefF l.prog w K mg base "closing" 1 2 F_closing := ⟨_, _, _, fn_closing Fu8 m_len m_range, PySem.W.mg_of X G a8, Fu8.kp, b8⟩
  have d_is_text : DefF l.prog w K mg base "is_text" 1 1 F_is_text := ⟨_, _, _, fn_is_text Fu9 m_isinstance m_str m_ALPHABET, PySem.W.mg_of X G a9, Fu9.kp, b9⟩
  have d_inner : DefF l.prog w K mg base "inner" 2 2 F_inner := ⟨_, _, _, fn_inner Fu10 d_closing m_len, PySem.W.mg_of X G a10, Fu10.kp, b10⟩
  have d_saying_of : DefF l.prog w K mg base "saying_of" 14 2 F_saying_of := ⟨_, _, _, fn_saying_of Fu11 (PySem.W.mg_of X G a11) Fu11.kp b11 d_closing d_is_text d_inner m_len, PySem.W.mg_of X G a11, Fu11.kp, b11⟩
  have d_is_saying_in : DefF l.prog w K mg base "is_saying_in" 13 2 F_is_saying_in := ⟨_, _, _, fn_is_saying_in Fu12 (PySem.W.mg_of X G a12) Fu12.kp b12 d_is_text m_isinstance m_len m_str m_tuple, PySem.W.mg_of X G a12, Fu12.kp, b12⟩
  have d_is_saying : DefF l.prog w K mg base "is_saying" 14 1 F_is_saying := ⟨_, _, _, fn_is_saying Fu13 d_is_saying_in m_DEEPEST, PySem.W.mg_of X G a13, Fu13.kp, b13⟩
  have d_read_saying : DefF l.prog w K mg base "read_saying" 15 1 F_read_saying := ⟨_, _, _, fn_read_saying Fu14 d_BadSigns d_saying_of d_is_saying m_isinstance m_str m_DEEPEST, PySem.W.mg_of X G a14, Fu14.kp, b14⟩
  have d_must_be_saying : DefF l.prog w K mg base "must_be_saying" 15 1 F_must_be_saying_v2 := ⟨_, _, _, fn_must_be_saying Fu15 d_BadSaying d_is_saying, PySem.W.mg_of X G a15, Fu15.kp, b15⟩
  have d_signs_of : DefF l.prog w K mg base "signs_of" 12 1 F_signs_of := ⟨_, _, _, fn_signs_of Fu16 (PySem.W.mg_of X G a16) Fu16.kp b16 , PySem.W.mg_of X G a16, Fu16.kp, b16⟩
  have d_format_saying : DefF l.prog w K mg base "format_saying" 16 1 F_format_saying := ⟨_, _, _, fn_format_saying Fu17 d_must_be_saying d_signs_of, PySem.W.mg_of X G a17, Fu17.kp, b17⟩
  have d__law_is_saying : DefF l.prog w K mg base "_law_is_saying" 12 2 F__law_is_saying := ⟨_, _, _, fn__law_is_saying Fu18 (PySem.W.mg_of X G a18) Fu18.kp b18 m_isinstance m_len m_list m_repr m_str m_tuple, PySem.W.mg_of X G a18, Fu18.kp, b18⟩
  have dk_read_saying_signs : DefK l.prog w K mg base "read_saying" 15 1 ["signs"] [0] F_read_saying := ⟨⟨_, _, _, fn_read_saying Fu14 d_BadSigns d_saying_of d_is_saying m_isinstance m_str m_DEEPEST, PySem.W.mg_of X G a14, Fu14.kp, QL.Fun.kb Fu14 fun _ _ _ _ _ _ ws hl => match ws, hl with | [_], _ => rfl⟩, by decide⟩
  have dk_format_saying_saying : DefK l.prog w K mg base "format_saying" 16 1 ["saying"] [0] F_format_saying := ⟨⟨_, _, _, fn_format_saying Fu17 d_must_be_saying d_signs_of, PySem.W.mg_of X G a17, Fu17.kp, QL.Fun.kb Fu17 fun _ _ _ _ _ _ ws hl => match ws, hl with | [_], _ => rfl⟩, by decide⟩
  exact fn_law Fu19 (fn__law_tape Fu0 m_int m_len) (PySem.W.mg_of X G a0) Fu0.kp b0 c__law_refused xt__law_refused TBl lamQ hcd d__law_pick d__law_one_of d__law_drawn_saying d__law_signs d__law_bent_saying d_read_saying d_format_saying d__law_is_saying dk_read_saying_signs dk_format_saying_saying m_len m_max m_min m_range m_repr (okL PT)
end K55
namespace QM
open PySem PySem.Spec L2 QL QP
abbrev XPo := Str → List (Str × D) → S → Prop
abbrev XN : XPo := fun _ _ _ => False
def wE {α : Type} (x : Res α) (P : α → S → Prop) (X : XPo) : Prop := match x with
  | .ok a s => P a s
  | .exc c f s => X c f s
  | .bad => False
structure Po where
  nx : S → Prop
  rt : SV → S → Prop
  bk : S → Prop
  ct : S → Prop
  ex : XPo
/-- .. with another wish for the next statement; within a loop -/
def Po.wn (p : Po) (f : S → Prop) : Po := { p with nx := f }
def Po.lp (p : Po) (q : S → Prop) : Po := ⟨q, p.rt, p.nx, q, p.ex⟩
def wS (x : RS) (p : Po) : Prop := match x with
  | .nx s => p.nx s
  | .bk s => p.bk s
  | .ct s => p.ct s
  | .rt v s => p.rt v s
  | .exc c f s => p.ex c f s
  | .bad => False
/-- an operation's answer -/
def wO (z : Option OV) (r : S) (P : SV → S → Prop) : Prop := ∃ z', z = some z' ∧ P (ovS z') r
/-- a target's -/
def wSm (i : Int) (P : Prop) : Prop := sml i = true ∧ P
def wRg (i j : Int) (P : Prop) : Prop := rgOk i j = true ∧ P
def wG (z : Option S) (P : S → Prop) : Prop := ∃ r, z = some r ∧ P r
/-- a branch -/
def wB (b : Bool) (A B : Prop) : Prop := (b = true → A) ∧ (b = false → B)
/-- a value as data, as a bool, as an int .. -/
def wV (x : SV) (P : D → Prop) : Prop := ∃ d, x.view = some d ∧ P d
def wBo (d : D) (P : Bool → Prop) : Prop := ∃ b, d = .bool b ∧ P b
def wIn (d : D) (P : Int → Prop) : Prop := ∃ b, d = .int b ∧ P b
def wIt (d : D) (P : List D → Prop) : Prop := ∃ ds, itemsD d = some ds ∧ P ds
/-- a slot -/
def wL (sl : List (Option SV)) (i : Nat) (P : SV → Prop) : Prop := ∃ x, sl[i]? = some (some x) ∧ P x
def wRS (sl : List (Option SV)) (tp : Option (Int × Int)) (P : S → Prop) : Prop := P ⟨sl, tp⟩
def wRT (r : S) (t : Int × Int) (P : S → Prop) : Prop := P ⟨r.sl, some t⟩
def wU (sl : List (Option SV)) (i : Nat) (x : Option SV) (P : List (Option SV) → Prop) : Prop := i < sl.length ∧ P (sl.set i x)
/-- a def's answer -/
def wF (x : FR) (P : SV → Prop) (X : Str → List (Str × D) → Prop) : Prop := match x with
  | .ok v _ => v.out = true ∧ P v
  | .exc c f _ => X c f
  | .bad => False
def wFT (x : FR) (P : SV → Int × Int → Prop) (X : Str → List (Str × D) → Int × Int → Prop) : Prop := match x with
  | .ok v (some t) => v.out = true ∧ P v t
  | .exc c f (some t) => X c f t
  | _ => False
/-- a def that answers v -/
def Ret (x : FR) (v : SV) : Prop := ∃ tp, x = .ok v tp ∧ v.out = true
class Step (g : Prop) (s : outParam Prop) : Prop where
  go : s → g
section
variable {α β : Type} {P : α → S → Prop} {Q : β → S → Prop} {X : XPo} {r : S} {p : Po}
theorem wE_mono {x : Res α} {P' : α → S → Prop} (h : wE x P X) (hp : ∀ a s, P a s → P' a s) : wE x P' X := by
  cases x with
  | ok a s => exact hp a s h
  | exc c f s => exact h
  | bad => exact h
theorem wE_bind {x : Res α} {k : α → S → Res β} (h : wE x (fun a s => wE (k a s) Q X) X) : wE (x.bind k) Q X := by cases x <;> exact h
theorem wE_bindS {x : Res α} {k : α → S → RS} (h : wE x (fun a s => wS (k a s) p) p.ex) : wS (x.bindS k) p := by cases x <;> exact h
theorem wS_go {x : RS} {k : S → RS} (h : wS x (p.wn fun s => wS (k s) p)) : wS (x.go k) p := by cases x <;> exact h
theorem wS_mono {x : RS} {q : Po} (h : wS x p) (h1 : ∀ s, p.nx s → q.nx s) (h2 : ∀ v s, p.rt v s → q.rt v s) (h3 : ∀ s, p.bk s → q.bk s) (h4 : ∀ s, p.ct s → q.ct s) (h5 : ∀ c f s, p.ex c f s → q.ex c f s) : wS x q := by
  cases x with
  | nx s => exact h1 s h
  | bk s => exact h3 s h
  | ct s => exact h4 s h
  | rt v s => exact h2 v s h
  | exc c f s => exact h5 c f s h
  | bad => exact h
theorem wFT_mono {x : FR} {P P' : SV → Int × Int → Prop} {X X' : Str → List (Str × D) → Int × Int → Prop} (h : wFT x P X) (hp : ∀ v t, P v t → P' v t) (hx : ∀ c f t, X c f t → X' c f t) : wFT x P' X' := by
  cases x with
  | ok v t => cases t with
    | none => exact h
    | some t => exact ⟨h.1, hp v t h.2⟩
  | exc c f t => cases t with
    | none => exact h
    | some t => exact hx c f t h
  | bad => exact h
theorem wFT_use {x : FR} {P P' : SV → Int × Int → Prop} {X : Str → List (Str × D) → Int × Int → Prop} (h : wFT x P (fun _ _ _ => False)) (hp : ∀ v t, P v t → P' v t) : wFT x P' X := wFT_mono h hp fun _ _ _ z => z.elim
theorem wF_ret {x : FR} {v : SV} {P : SV → Prop} {X : Str → List (Str × D) → Prop} (h : Ret x v) (hp : P v) : wF x P X := by
  obtain ⟨tp, e, o⟩ := h
  rw [e]; exact ⟨o, hp⟩
theorem Ret.of_w {x : FR} {v : SV} (h : wF x (fun y => y = v) (fun _ _ => False)) : Ret x v := by
  cases x with
  | ok y t => obtain ⟨a, b⟩ := h; subst b; exact ⟨t, rfl, a⟩
  | exc c f t => exact h.elim
  | bad => exact h.elim
theorem Ret.of_eq {x : FR} {v : SV} {tp} (h : x = .ok v tp) (o : v.out = true := by rfl) : Ret x v := ⟨tp, h, o⟩
end
section
variable {P : SV → S → Prop} {PD : D → S → Prop} {PL : List D → S → Prop} {PS : List SV → S → Prop} {PB : Bool → S → Prop} {PO : Option Int → S → Prop} {X : XPo} {r : S} {p : Po} {fa fb fc : S → Res D} {F G : S → Res SV} {FL : S → Res (List D)} {FS : S → Res (List SV)} {T U V : S → Res Bool} {A B C : S → RS}
  {op op2 : D → D → Option OV} {o1 : D → Option OV} {ob : List D → Option OV} {om : D → List D → Option OV} {d e : D} {x : SV} {i j l n : Nat} {sl : List (Option SV)} {tp : Option (Int × Int)} {ds : List D} {fl fh : S → Res (Option Int)}
instance (priority := low) : Step (wE (fC d r) PD X) (PD d r) := ⟨id⟩
theorem wV_asD {α : Type} {Q : α → S → Prop} {k : D → S → Res α} (h : wV x fun d => wE (k d r) Q X) : wE (asD x r k) Q X := by
  obtain ⟨d, e, h⟩ := h
  unfold asD
  rw [e]; exact h
instance : Step (wE (fD F r) PD X) (wE (F r) (fun x r => wV x fun d => PD d r) X) := ⟨fun h => wE_bind (wE_mono h fun _ _ h => wV_asD h)⟩
instance : Step (wE (eD fa r) P X) (wE (fa r) (fun d r => P (.fz d) r) X) := ⟨fun h => wE_bind h⟩
instance : Step (wE (gV i ⟨sl, tp⟩) PD X) (wL sl i fun x => wV x fun d => PD d ⟨sl, tp⟩) := ⟨fun ⟨x, e, d, e2, h⟩ => by
  show wE (match sl[i]? with | some (some x) => asD x ⟨sl, tp⟩ fun d r => Res.ok d r | _ => .bad) PD X
  rw [e]; exact wV_asD ⟨d, e2, h⟩⟩
/-- a slot taken: frozen from now on -/
def wT (x : SV) (sl : List (Option SV)) (i : Nat) (P : D → List (Option SV) → Prop) : Prop := ∃ d, x.view = some d ∧ P d (sl.set i (some (.fz d)))
instance (priority := low) : Step (wE (fV i ⟨sl, tp⟩) PD X) (wL sl i fun x => wT x sl i fun d sl => PD d ⟨sl, tp⟩) := ⟨fun ⟨x, e, d, e2, h⟩ => by
  show wE (match sl[i]? with | some (some x) => asD x ⟨sl, tp⟩ fun d r => Res.ok d { r with sl := r.sl.set i (some (.fz d)) } | _ => .bad) PD X
  rw [e]; exact wV_asD ⟨d, e2, h⟩⟩
theorem wO_ov {z : Option OV} (h : wO z r P) : wE (ovR z r) P X := by
  obtain ⟨z', e, h⟩ := h
  rw [e]; exact h
instance : Step (wE (fOp op fa fb r) P X) (wE (fa r) (fun x r => wE (fb r) (fun y r => wO (op x y) r P) X) X) := ⟨fun h => wE_bind (wE_mono h fun _ _ h => wE_bind (wE_mono h fun _ _ h => wO_ov h))⟩
instance : Step (wE (fOp1 o1 fa r) P X) (wE (fa r) (fun x r => wO (o1 x) r P) X) := ⟨fun h => wE_bind (wE_mono h fun _ _ h => wO_ov h)⟩
instance : Step (wE (fCB ob FL r) P X) (wE (FL r) (fun x r => wO (ob x) r P) X) := ⟨fun h => wE_bind (wE_mono h fun _ _ h => wO_ov h)⟩
def wSt (d : D) (P : Str → Prop) : Prop := ∃ z, d = .str z ∧ P z
instance : Step (wE (fMt om fa FL r) P X) (wE (fa r) (fun x r => wSt x fun z => wE (FL r) (fun ds r => wO (om (.str z) ds) r P) X) X) := ⟨fun h => wE_bind (wE_mono h fun d r h => by
  obtain ⟨z, e, h⟩ := h
  subst e
  exact wE_bind (wE_mono h fun _ _ h => wO_ov h))⟩
instance : Step (wE (fMtL om fa FL r) P X) (wE (fa r) (fun x r => ∃ z, x = .list z ∧ wE (FL r) (fun ds r => wO (om (.list z) ds) r P) X) X) := ⟨fun h => wE_bind (wE_mono h fun d r h => by
  obtain ⟨z, e, h⟩ := h
  subst e
  exact wE_bind (wE_mono h fun _ _ h => wO_ov h))⟩
instance : Step (wE (aNil r) PL X) (PL [] r) := ⟨id⟩
instance : Step (wE (aCons fa FL r) PL X) (wE (fa r) (fun d r => wE (FL r) (fun ds r => PL (d :: ds) r) X) X) := ⟨fun h => wE_bind (wE_mono h fun _ _ h => wE_bind h)⟩
instance : Step (wE (oNil r) PS X) (PS [] r) := ⟨id⟩
instance : Step (wE (oCons F FS r) PS X) (wE (F r) (fun d r => wE (FS r) (fun ds r => PS (d :: ds) r) X) X) := ⟨fun h => wE_bind (wE_mono h fun _ _ h => wE_bind h)⟩
instance : Step (wE (eLst FL r) P X) (wE (FL r) (fun ds r => ds.length ≤ sizeLine ∧ P (.ol ds) r) X) := ⟨fun h => wE_bind (wE_mono h fun ds r h => by rw [if_pos h.1]; exact h.2)⟩
instance : Step (wE (eTup FL r) P X) (wE (FL r) (fun ds r => ds.length ≤ sizeLine ∧ P (.fz (.tuple ds)) r) X) := ⟨fun h => wE_bind (wE_mono h fun ds r h => by rw [if_pos h.1]; exact h.2)⟩
instance : Step (wE (eDK r) P X) (P (.od []) r) := ⟨id⟩
instance : Step (wE (eDT r) P X) (P (.ot []) r) := ⟨id⟩
instance : Step (wE (oNon r) PO X) (PO none r) := ⟨id⟩
instance : Step (wE (oSom fa r) PO X) (wE (fa r) (fun d r => wIn d fun i => PO (some i) r) X) := ⟨fun h => wE_bind (wE_mono h fun d r h => by
  obtain ⟨z, e, h⟩ := h
  subst e; exact h)⟩
instance : Step (wE (fSl fa fl fh r) P X) (wE (fa r) (fun x r => wE (fl r) (fun l r => wE (fh r) (fun h r => wO (dSl x l h) r P) X) X) X) := ⟨fun h => wE_bind (wE_mono h fun _ _ h => wE_bind (wE_mono h fun _ _ h => wE_bind (wE_mono h fun _ _ h => wO_ov h)))⟩
instance : Step (wE (tV fa r) PB X) (wE (fa r) (fun d r => wBo d fun b => PB b r) X) := ⟨fun h => wE_bind (wE_mono h fun d r h => by
  obtain ⟨z, e, h⟩ := h
  subst e; exact h)⟩
theorem wB_if {α : Type} {Q : α → S → Prop} {b : Bool} {y z : Res α} (h : wB b (wE y Q X) (wE z Q X)) : wE (if b then y else z) Q X := by
  cases b with
  | true => exact h.1 rfl
  | false => exact h.2 rfl
instance : Step (wE (tNotF T r) PB X) (wE (T r) (fun b r => PB (!b) r) X) := ⟨fun h => wE_bind h⟩
instance : Step (wE (tAndF T U r) PB X) (wE (T r) (fun b r => wB b (wE (U r) PB X) (PB false r)) X) := ⟨fun h => wE_bind (wE_mono h fun _ _ h => wB_if h)⟩
instance : Step (wE (tOrF T U r) PB X) (wE (T r) (fun b r => wB b (PB true r) (wE (U r) PB X)) X) := ⟨fun h => wE_bind (wE_mono h fun _ _ h => wB_if h)⟩
instance : Step (wE (tYesF r) PB X) (PB true r) := ⟨id⟩
instance : Step (wE (eAndF fa G r) P X) (wE (fa r) (fun d r => wBo d fun b => wB b (wE (G r) P X) (P (.fz (.bool false)) r)) X) := ⟨fun h => wE_bind (wE_mono h fun d r h => by
  obtain ⟨z, e, h⟩ := h
  subst e
  cases z with
  | true => exact h.1 rfl
  | false => exact h.2 rfl)⟩
instance : Step (wE (eOrF fa G r) P X) (wE (fa r) (fun d r => wBo d fun b => wB b (P (.fz (.bool true)) r) (wE (G r) P X)) X) := ⟨fun h => wE_bind (wE_mono h fun d r h => by
  obtain ⟨z, e, h⟩ := h
  subst e
  cases z with
  | true => exact h.1 rfl
  | false => exact h.2 rfl)⟩
instance : Step (wE (eNotF fa r) P X) (wE (fa r) (fun d r => wBo d fun b => P (.fz (.bool (!b))) r) X) := ⟨fun h => wE_bind (wE_mono h fun d r h => by
  obtain ⟨z, e, h⟩ := h
  subst e; exact h)⟩
instance : Step (wE (eIfF T F G r) P X) (wE (T r) (fun b r => wB b (wE (F r) P X) (wE (G r) P X)) X) := ⟨fun h => wE_bind (wE_mono h fun _ _ h => wB_if h)⟩
instance : Step (wE (eIfT T U V r) PB X) (wE (T r) (fun b r => wB b (wE (U r) PB X) (wE (V r) PB X)) X) := ⟨fun h => wE_bind (wE_mono h fun _ _ h => wB_if h)⟩
instance : Step (wE (fItems fa r) PL X) (wE (fa r) (fun d r => wIt d fun ds => PL ds r) X) := ⟨fun h => wE_bind (wE_mono h fun d r h => by
  obtain ⟨z, e, h⟩ := h
  rw [e]; exact h)⟩
instance : Step (wE (fRng1 FL r) PL X) (wE (FL r) (fun ds r => ∃ j, ds = [.int j] ∧ wSm j (PL (rngL 0 j.toNat) r)) X) := ⟨fun h => wE_bind (wE_mono h fun d r h => by
  obtain ⟨j, e, h1, h⟩ := h
  subst e
  show wE (if sml j = true then Res.ok (rngL 0 j.toNat) r else Res.bad) PL X
  rw [if_pos h1]; exact h)⟩
instance : Step (wE (fRng2 FL r) PL X) (wE (FL r) (fun ds r => ∃ i j, ds = [.int i, .int j] ∧ wSm i (wSm j (PL (rngL i (j - i).toNat) r))) X) := ⟨fun h => wE_bind (wE_mono h fun d r h => by
  obtain ⟨i, j, e, h1, h2, h⟩ := h
  have h1 : sml i = true ∧ sml j = true := ⟨h1, h2⟩
  subst e
  show wE (if sml i = true ∧ sml j = true then Res.ok (rngL i (j - i).toNat) r else Res.bad) PL X
  rw [if_pos h1]; exact h)⟩
instance : Step (wE (fRng3 FL r) PL X) (wE (FL r) (fun ds r => ∃ i j c, ds = [.int i, .int j, .int c] ∧ wSm i (wSm j (c = -1 ∧ PL ((List.range (i - j).toNat).map fun k => .int (i - (k : Nat))) r))) X) := ⟨fun h => wE_bind (wE_mono h fun d r h => by
  obtain ⟨i, j, c, e, ha, hb, hc, h⟩ := h
  have h1 : sml i = true ∧ sml j = true ∧ c = -1 := ⟨ha, hb, hc⟩
  subst e
  show wE (if sml i = true ∧ sml j = true ∧ c = -1 then Res.ok ((List.range (i - j).toNat).map fun k => PyData.int (i - (k : Nat))) r else Res.bad) PL X
  rw [if_pos h1]; exact h)⟩
instance : Step (wE (fLRg1 fa r) P X) (wE (fa r) (fun d r => wIn d fun n => wRg 0 n (P (.ol (rngL 0 (n - 0).toNat)) r)) X) := ⟨fun h => wE_bind (wE_mono h fun d r h => by
  obtain ⟨n, e, h1, h⟩ := h
  subst e
  show wE (if rgOk 0 n = true then Res.ok (SV.ol (rngL 0 (n - 0).toNat)) r else Res.bad) P X
  rw [if_pos h1]; exact h)⟩
instance : Step (wE (fEnum FL r) PL X) (wE (FL r) (fun ds r => ∃ d es, ds = [d] ∧ (d = .list es ∨ ∃ z : Str, d = .str z ∧ es = z.cps.toList.map fun c => .str (tx [c])) ∧ PL (enumL es) r) X) := ⟨fun h => wE_bind (wE_mono h fun d r h => by
  obtain ⟨d, es, e, h1, h⟩ := h
  subst e
  rcases h1 with h1 | ⟨z, h1, h2⟩
  · subst h1; exact h
  · subst h1 h2; exact h)⟩
variable {a1 a3 a4 : S → Prop} {a2 : SV → S → Prop} {a5 : XPo} {f : S → Prop} {cx : Str} {fx : List (Str × D)}
instance : Step (Po.nx ⟨a1, a2, a3, a4, a5⟩ r) (a1 r) := ⟨id⟩
instance : Step (Po.rt ⟨a1, a2, a3, a4, a5⟩ x r) (a2 x r) := ⟨id⟩
instance : Step (Po.bk ⟨a1, a2, a3, a4, a5⟩ r) (a3 r) := ⟨id⟩
instance : Step (Po.ct ⟨a1, a2, a3, a4, a5⟩ r) (a4 r) := ⟨id⟩
instance : Step (Po.ex ⟨a1, a2, a3, a4, a5⟩ cx fx r) (a5 cx fx r) := ⟨id⟩
instance : Step (Po.nx (p.wn f) r) (f r) := ⟨id⟩
instance : Step (Po.rt (p.wn f) x r) (p.rt x r) := ⟨id⟩
instance : Step (Po.bk (p.wn f) r) (p.bk r) := ⟨id⟩
instance : Step (Po.ct (p.wn f) r) (p.ct r) := ⟨id⟩
instance : Step (Po.ex (p.wn f) cx fx r) (p.ex cx fx r) := ⟨id⟩
instance : Step (Po.nx (p.lp f) r) (f r) := ⟨id⟩
instance : Step (Po.rt (p.lp f) x r) (p.rt x r) := ⟨id⟩
instance : Step (Po.bk (p.lp f) r) (p.nx r) := ⟨id⟩
instance : Step (Po.ct (p.lp f) r) (f r) := ⟨id⟩
instance : Step (Po.ex (p.lp f) cx fx r) (p.ex cx fx r) := ⟨id⟩
instance : Step (wS (sSeq A B r) p) (wS (A r) (p.wn fun s => wS (B s) p)) := ⟨fun h => wS_go h⟩
instance : Step (wS (sNext r) p) (p.nx r) := ⟨id⟩
theorem wB_ifS {b : Bool} {y z : RS} (h : wB b (wS y p) (wS z p)) : wS (if b then y else z) p := by
  cases b with
  | true => exact h.1 rfl
  | false => exact h.2 rfl
instance : Step (wS (sIf T A B r) p) (wE (T r) (fun b r => wB b (wS (A r) p) (wS (B r) p)) p.ex) := ⟨fun h => wE_bindS (wE_mono h fun _ _ h => wB_ifS h)⟩
instance : Step (wS (sExp F r) p) (wE (F r) (fun _ r => p.nx r) p.ex) := ⟨fun h => wE_bindS h⟩
instance : Step (wS (sRet F r) p) (wE (F r) (fun x r => p.rt x r) p.ex) := ⟨fun h => wE_bindS h⟩
instance : Step (wS (sRetN r) p) (p.rt (.fz .none) r) := ⟨id⟩
instance : Step (wS (sRetV i ⟨sl, tp⟩) p) (wL sl i fun x => p.rt x ⟨sl.set i none, tp⟩) := ⟨fun ⟨x, e, h⟩ => by
  show wS (match sl[i]? with | some (some x) => RS.rt x ⟨sl.set i none, tp⟩ | _ => .bad) p
  rw [e]; exact h⟩
theorem wU_set (h : wU sl i (some x) fun sl => p.nx ⟨sl, tp⟩) : wS (setS i x ⟨sl, tp⟩) p := by
  show wS (if i < sl.length then RS.nx ⟨sl.set i (some x), tp⟩ else .bad) p
  rw [if_pos h.1]; exact h.2
instance : Step (wS (sAsg i F r) p) (wE (F r) (fun x r => wS (setS i x r) p) p.ex) := ⟨fun h => wE_bindS h⟩
instance : Step (wS (setS i x ⟨sl, tp⟩) p) (wU sl i (some x) fun sl => p.nx ⟨sl, tp⟩) := ⟨fun h => wU_set h⟩
instance : Step (wS (sPar2 i j FS r) p) (wE (FS r) (fun xs r => ∃ x y, xs = [x, y] ∧ wS (setS i x r) (p.wn fun r => wS (setS j y r) p)) p.ex) := ⟨fun h => wE_bindS (wE_mono h fun xs r h => by
  obtain ⟨x, y, e, h⟩ := h
  subst e
  exact wS_go h)⟩
instance : Step (wS (sPar3 i j l FS r) p) (wE (FS r) (fun xs r => ∃ x y z, xs = [x, y, z] ∧ wS (setS i x r) (p.wn fun r => wS (setS j y r) (p.wn fun r => wS (setS l z r) p))) p.ex) := ⟨fun h => wE_bindS (wE_mono h fun xs r h => by
  obtain ⟨x, y, z, e, h⟩ := h
  subst e
  exact wS_go (wS_mono h (fun s h => wS_go h) (fun _ _ h => h) (fun _ h => h) (fun _ h => h) (fun _ _ _ h => h)))⟩
def wAll : List Nat → List SV → S → (S → Prop) → Prop
  | [], [], r, P => P r
  | i :: is, x :: xs, r, P => wU r.sl i (some x) fun sl => wAll is xs ⟨sl, r.tp⟩ P
  | _, _, _, _ => False
theorem wAll_set : ∀ (is : List Nat) (xs : List SV) (r : S), wAll is xs r p.nx → wS (setAll is xs r) p
  | [], [], r, h => h
  | i :: is, x :: xs, r, h => wS_go (wU_set (tp := r.tp) (sl := r.sl) ⟨h.1, wAll_set is xs _ h.2⟩)
  | [], _ :: _, r, h => h.elim
  | _ :: _, [], r, h => h.elim
instance {is : List Nat} : Step (wS (sParN is FS r) p) (wE (FS r) (fun xs r => xs.length = is.length ∧ wAll is xs r p.nx) p.ex) := ⟨fun h => wE_bindS (wE_mono h fun xs r h => by
  rw [if_pos h.1]; exact wAll_set is xs r h.2)⟩
instance : Step (wS (sUnp fa G' r) p) (wE (fa r) (fun d r => wG (G' d r) p.nx) p.ex) := ⟨fun h => wE_bindS (wE_mono h fun d r h => by
  obtain ⟨r', e, h⟩ := h
  rw [e]; exact h)⟩
/-- what a list in a slot gets -/
def wA (x : SV) (P : List D → Prop) : Prop := ∃ xs, x = .ol xs ∧ P xs
instance : Step (wS (sApp i fa ⟨sl, tp⟩) p) (wL sl i fun x => wA x fun _ => wE (fa ⟨sl, tp⟩) (fun d r => wL r.sl i fun x => wA x fun xs => xs.length < sizeLine ∧ wU r.sl i (some (.ol (xs ++ [d]))) fun sl => wRS sl r.tp p.nx) p.ex) := ⟨fun ⟨x, e, xs, e2, h⟩ => by
  show wS (match sl[i]? with
    | some (some (.ol _)) => (fa ⟨sl, tp⟩).bindS fun d r => match r.sl[i]? with
      | some (some (.ol xs)) => if xs.length < sizeLine then RS.nx { r with sl := r.sl.set i (some (.ol (xs ++ [d]))) } else RS.bad
      | _ => RS.bad
    | _ => .bad) p
  subst e2
  rw [e]
  refine wE_bindS (wE_mono h fun d r h => ?_)
  obtain ⟨y, e3, ys, e4, h1, h⟩ := h
  subst e4
  rw [e3]
  dsimp only
  rw [if_pos h1]; exact h.2⟩
instance {f : Int → Int → Int} : Step (wS (sAug i f fa ⟨sl, tp⟩) p) (wL sl i fun x => ∃ a, x = .fz (.int a) ∧ wE (fa ⟨sl, tp⟩) (fun d r => wIn d fun b => wS (setS i (.fz (.int (f a b))) r) p) p.ex) := ⟨fun ⟨x, e, a, e2, h⟩ => by
  show wS (match sl[i]? with
    | some (some (.fz (.int a))) => (fa ⟨sl, tp⟩).bindS fun d r => match d with
      | .int b => setS i (.fz (.int (f a b))) r
      | _ => RS.bad
    | _ => RS.bad) p
  subst e2
  rw [e]
  refine wE_bindS (wE_mono h fun d r h => ?_)
  obtain ⟨b, e3, h⟩ := h
  subst e3
  exact h⟩
instance : Step (wS (RS.nx r) p) (p.nx r) := ⟨id⟩
instance : Step (wS (RS.ct r) p) (p.ct r) := ⟨id⟩
instance : Step (wS (RS.bk r) p) (p.bk r) := ⟨id⟩
instance {I : S → Res (List D)} {Gf : D → S → Option S} : Step (wS (sFor I Gf B r) p) (wE (I r) (fun ds r => wS (forF Gf B ds r) p) p.ex) := ⟨fun h => wE_bindS h⟩
theorem wF_out {x : FR} (h : wF x (fun v => P v r) (fun c f => X c f r)) : wE (outR x r) P X := by
  cases x with
  | ok v t =>
    unfold outR
    dsimp only
    rw [if_pos h.1]; exact h.2
  | exc c f t => exact h
  | bad => exact h
instance {FD : List D → FR} : Step (wE (fCall n FD FL r) P X) (wE (FL r) (fun ds r => ds.length = n ∧ wF (FD ds) (fun v => P v r) (fun c f => X c f r)) X) := ⟨fun h => wE_bind (wE_mono h fun ds r h => by
  rw [if_pos h.1]; exact wF_out h.2)⟩
theorem wFT_out {x : FR} (h : wFT x (fun v t => P v { r with tp := some t }) (fun c f t => X c f { r with tp := some t })) : wE (outT x r) P X := by
  cases x with
  | ok v t => cases t with
    | none => exact h
    | some t =>
      unfold outT
      dsimp only
      rw [if_pos h.1]; exact h.2
  | exc c f t => cases t with
    | none => exact h
    | some t => exact h
  | bad => exact h
instance {FD : Int × Int → List D → FR} : Step (wE (fCallT i n FD FL ⟨sl, tp⟩) P X) (wL sl i fun x => x = .tape ∧ wE (FL ⟨sl, tp⟩) (fun ds r => ds.length = n ∧ ∃ t, r.tp = some t ∧ wFT (FD t ds) (fun v t => wRT r t fun r => P v r) (fun c f t => wRT r t fun r => X c f r)) X) := ⟨fun ⟨x, e, e2, h⟩ => by
  show wE (match sl[i]? with
  | some (some .tape) => (FL ⟨sl, tp⟩).bind fun ds r => match r.tp with
    | some t => if ds.length = n then outT (FD t ds) r else .bad
    | none => .bad
  | _ => .bad) P X
  subst e2
  rw [e]
  refine wE_bind (wE_mono h fun ds r h => ?_)
  obtain ⟨h1, t, e3, h⟩ := h
  rw [e3]
  dsimp only
  rw [if_pos h1]
  exact wFT_out h⟩
theorem wF_body {PF : SV → Prop} {XF : Str → List (Str × D) → Prop} (h : wS (B (mkS n (ds.map .fz) none)) ⟨fun _ => PF (.fz .none), fun x _ => x.out = true ∧ PF x, fun _ => False, fun _ => False, fun c f _ => XF c f⟩) : wF (bodyF n B ds) PF XF := by
  unfold bodyF
  cases e : B (mkS n (ds.map .fz) none) with
  | nx r => rw [e] at h; exact ⟨rfl, h⟩
  | bk r => rw [e] at h; exact h
  | ct r => rw [e] at h; exact h
  | rt v r =>
    rw [e] at h
    unfold outF
    dsimp only
    rw [if_pos h.1]; exact h
  | exc c f r => rw [e] at h; exact h
  | bad => rw [e] at h; exact h
theorem wFT_body {t : Int × Int} {PF : SV → Int × Int → Prop} {XF : Str → List (Str × D) → Int × Int → Prop} (h : wS (B (mkS n (.tape :: ds.map .fz) (some t))) ⟨fun r => ∃ t, r.tp = some t ∧ PF (.fz .none) t, fun x r => x.out = true ∧ ∃ t, r.tp = some t ∧ PF x t, fun _ => False, fun _ => False, fun c f r => ∃ t, r.tp = some t ∧ XF c f t⟩) : wFT (bodyT n B t ds) PF XF := by
  unfold bodyT
  cases e : B (mkS n (.tape :: ds.map .fz) (some t)) with
  | nx r =>
    rw [e] at h
    obtain ⟨t, e2, h⟩ := h
    unfold outF
    dsimp only
    rw [e2]; exact ⟨rfl, h⟩
  | bk r => rw [e] at h; exact h
  | ct r => rw [e] at h; exact h
  | rt v r =>
    rw [e] at h
    obtain ⟨h1, t, e2, h⟩ := h
    unfold outF
    dsimp only
    rw [if_pos h1, e2]; exact ⟨h1, h⟩
  | exc c f r =>
    rw [e] at h
    obtain ⟨t, e2, h⟩ := h
    unfold outF
    dsimp only
    rw [e2]; exact h
  | bad => rw [e] at h; exact h
end
end QM
namespace QM
open PySem PySem.Spec L2 QL QP
class Get (l : List (Option SV)) (i : Nat) (x : outParam (Option SV)) : Prop where
  eq : l[i]? = some x
instance {a : Option SV} {l : List (Option SV)} : Get (a :: l) 0 a := ⟨rfl⟩
instance {a x : Option SV} {l : List (Option SV)} {i : Nat} [h : Get l i x] : Get (a :: l) (i + 1) x := ⟨by simpa using h.eq⟩
class SetL (l : List (Option SV)) (i : Nat) (x : Option SV) (l' : outParam (List (Option SV))) : Prop where
  lt : i < l.length
  eq : l.set i x = l'
instance {a x : Option SV} {l : List (Option SV)} : SetL (a :: l) 0 x (x :: l) := ⟨by simp, rfl⟩
instance {a x : Option SV} {l l' : List (Option SV)} {i : Nat} [h : SetL l i x l'] : SetL (a :: l) (i + 1) x (a :: l') := ⟨by simpa using h.lt, by rw [List.set_cons_succ, h.eq]⟩
class OfS (s : String) (l : outParam (List Nat)) : Prop where
  eq : Str.ofString s = tx l
section
variable {P : SV → S → Prop} {PD : D → S → Prop} {X : XPo} {r : S} {d e : D} {x y : SV} {i j n : Nat} {a b : Int} {u v : Bool} {l m : List Nat} {sl sl' : List (Option SV)} {tp : Option (Int × Int)} {ds es : List D} {A B : Prop}
instance {Q : SV → Prop} [h : Get sl i (some x)] : Step (wL sl i Q) (Q x) := ⟨fun q => ⟨x, h.eq, q⟩⟩
instance {Q : List (Option SV) → Prop} {z : Option SV} [h : SetL sl i z sl'] : Step (wU sl i z Q) (Q sl') := ⟨fun q => ⟨h.lt, by rw [h.eq]; exact q⟩⟩
theorem set_same {l : List (Option SV)} {i : Nat} {x : Option SV} (h : l[i]? = some x) : l.set i x = l := by
  obtain ⟨hi, e⟩ := List.getElem?_eq_some_iff.mp h
  rw [← e, List.set_getElem_self]
theorem w_fV (h : sl[i]? = some (some x)) (hv : x.view = some d) (q : PD d ⟨sl.set i (some (.fz d)), tp⟩) : wE (fV i ⟨sl, tp⟩) PD X := by
  show wE (match sl[i]? with | some (some x) => asD x ⟨sl, tp⟩ fun d r => Res.ok d { r with sl := r.sl.set i (some (.fz d)) } | _ => .bad) PD X
  rw [h]; exact wV_asD ⟨d, hv, q⟩
instance [h : Get sl i (some (.fz d))] : Step (wE (fV i ⟨sl, tp⟩) PD X) (PD d ⟨sl, tp⟩) := ⟨fun q => w_fV h.eq rfl (by rw [set_same h.eq]; exact q)⟩
instance [h : Get sl i (some (.ol ds))] [h2 : SetL sl i (some (.fz (.list ds))) sl'] : Step (wE (fV i ⟨sl, tp⟩) PD X) (PD (.list ds) ⟨sl', tp⟩) := ⟨fun q => w_fV h.eq rfl (by rw [h2.eq]; exact q)⟩
instance {kvs : List (D × D)} [h : Get sl i (some (.od kvs))] [h2 : SetL sl i (some (.fz (.dict kvs))) sl'] : Step (wE (fV i ⟨sl, tp⟩) PD X) (PD (.dict kvs) ⟨sl', tp⟩) := ⟨fun q => w_fV h.eq rfl (by rw [h2.eq]; exact q)⟩
instance {s : String} [h : OfS s l] : Step (wE (fC (.str (Str.ofString s)) r) PD X) (PD (.str (tx l)) r) := ⟨fun q => by rw [h.eq]; exact q⟩
instance {Q : D → Prop} : Step (wV (.fz d) Q) (Q d) := ⟨fun q => ⟨_, rfl, q⟩⟩
instance {Q : D → Prop} : Step (wV (.ol ds) Q) (Q (.list ds)) := ⟨fun q => ⟨_, rfl, q⟩⟩
instance {Q : D → Prop} {kvs : List (D × D)} : Step (wV (.od kvs) Q) (Q (.dict kvs)) := ⟨fun q => ⟨_, rfl, q⟩⟩
instance {Q : D → Prop} {kvs : List (D × D)} : Step (wV (.ot kvs) Q) (Q (.dict kvs)) := ⟨fun q => ⟨_, rfl, q⟩⟩
instance {Q : List D → Prop} : Step (wA (.ol ds) Q) (Q ds) := ⟨fun q => ⟨_, rfl, q⟩⟩
instance {Q : Bool → Prop} : Step (wBo (.bool u) Q) (Q u) := ⟨fun q => ⟨_, rfl, q⟩⟩
instance {Q : Int → Prop} : Step (wIn (.int a) Q) (Q a) := ⟨fun q => ⟨_, rfl, q⟩⟩
instance {Q : Str → Prop} {z : Str} : Step (wSt (.str z) Q) (Q z) := ⟨fun q => ⟨_, rfl, q⟩⟩
instance {Q : List D → Prop} : Step (wIt (.list ds) Q) (Q ds) := ⟨fun q => ⟨_, rfl, q⟩⟩
instance {Q : List D → Prop} : Step (wIt (.tuple ds) Q) (Q ds) := ⟨fun q => ⟨_, rfl, q⟩⟩
instance {Q : S → Prop} : Step (wRS sl tp Q) (Q ⟨sl, tp⟩) := ⟨id⟩
instance {Q : S → Prop} : Step (wRS sl (S.tp ⟨sl', tp⟩) Q) (Q ⟨sl, tp⟩) := ⟨id⟩
instance {Q : S → Prop} {t : Int × Int} : Step (wRT ⟨sl, tp⟩ t Q) (Q ⟨sl, some t⟩) := ⟨id⟩
instance {Q : SV → Prop} [h : Get sl i (some x)] : Step (wL (S.sl ⟨sl, tp⟩) i Q) (Q x) := ⟨fun q => ⟨x, h.eq, q⟩⟩
instance {Q : List (Option SV) → Prop} {z : Option SV} [h : SetL sl i z sl'] : Step (wU (S.sl ⟨sl, tp⟩) i z Q) (Q sl') := ⟨fun q => ⟨h.lt, by show Q (sl.set i z); rw [h.eq]; exact q⟩⟩
def ltrs (l : List Nat) : List D := l.map fun c => .str (tx [c])
instance {Q : List D → Prop} : Step (wIt (.str (tx l)) Q) (Q (ltrs l)) := ⟨fun q => ⟨_, rfl, q⟩⟩
instance : Step (wB true A B) A := ⟨fun q => ⟨fun _ => q, fun h => absurd h (by decide)⟩⟩
instance : Step (wB false A B) B := ⟨fun q => ⟨fun h => absurd h (by decide), fun _ => q⟩⟩
instance : Step (wB (id u) A B) (wB u A B) := ⟨id⟩
instance : Step (wB (!u) A B) (wB u B A) := ⟨fun q => ⟨fun h => q.2 (by simpa using h), fun h => q.1 (by simpa using h)⟩⟩
theorem wB_t {b : Bool} (h : b = true) (q : A) : wB b A B := ⟨fun _ => q, fun z => by rw [h] at z; cases z⟩
theorem wB_f {b : Bool} (h : b = false) (q : B) : wB b A B := ⟨fun z => absurd (h.symm.trans z) (by decide), fun _ => q⟩
theorem wB_d {p : Prop} [Decidable p] (h1 : p → A) (h2 : ¬ p → B) : wB (decide p) A B := ⟨fun h => h1 (of_decide_eq_true h), fun h => h2 (of_decide_eq_false h)⟩
instance {Q : S → Prop} [h : SetL sl i (some (.fz d)) sl'] : Step (wG (gNm i d ⟨sl, tp⟩) Q) (Q ⟨sl', tp⟩) := ⟨fun q => ⟨⟨sl', tp⟩, by
  show (if i < sl.length then some (⟨sl.set i (some (.fz d)), tp⟩ : S) else none) = _
  rw [if_pos h.lt, h.eq], q⟩⟩
instance {Q : S → Prop} : Step (wG (gNilF [] r) Q) (Q r) := ⟨fun q => ⟨r, rfl, q⟩⟩
instance {Q : S → Prop} {G : D → S → Option S} {Gs : List D → S → Option S} : Step (wG (gConsF G Gs (d :: ds) r) Q) (wG (G d r) fun r => wG (Gs ds r) Q) := ⟨fun ⟨r1, e1, r2, e2, q⟩ => ⟨r2, by
  unfold gConsF
  dsimp only
  rw [e1]; exact e2, q⟩⟩
instance {Q : S → Prop} {Gs : List D → S → Option S} : Step (wG (gTupF n Gs (.tuple ds) r) Q) (ds.length = n ∧ wG (Gs ds r) Q) := ⟨fun ⟨h, r1, e1, q⟩ => ⟨r1, by
  unfold gTupF
  dsimp only
  rw [if_pos h]; exact e1, q⟩⟩
theorem wO_of {z : Option OV} {z' : OV} (h : z = some z') (q : P (ovS z') r) : wO z r P := ⟨z', h, q⟩
instance : Step (wO (dAdd (.int a) (.int b)) r P) (P (.fz (.int (a + b))) r) := ⟨fun q => ⟨.fz _, rfl, q⟩⟩
instance : Step (wO (dAdd (.str (tx l)) (.str (tx m))) r P) (l.length + m.length ≤ sizeLine ∧ P (.fz (.str (tx (l ++ m)))) r) := ⟨fun q => wO_of (z' := .fz (.str (tx (l ++ m)))) (by simp [q.1]) q.2⟩
instance : Step (wO (dAdd (.list ds) (.list es)) r P) (ds.length + es.length ≤ sizeLine ∧ P (.ol (ds ++ es)) r) := ⟨fun q => wO_of (z' := .nl (ds ++ es)) (by simp [q.1]) q.2⟩
instance : Step (wO (dSub (.int a) (.int b)) r P) (P (.fz (.int (a - b))) r) := ⟨fun q => ⟨.fz _, rfl, q⟩⟩
instance : Step (wO (dMul (.int a) (.int b)) r P) (bitsI a + bitsI b ≤ 134217728 ∧ P (.fz (.int (a * b))) r) := ⟨fun q => wO_of (z' := .fz (.int (a * b))) (by simp [q.1]) q.2⟩
instance : Step (wO (dMul (.list ds) (.int b)) r P) ((ds.length * b.toNat ≤ sizeLine ∧ -(2 ^ 40) < b ∧ b < 2 ^ 40) ∧ P (.ol (List.replicate b.toNat ds).flatten) r) := ⟨fun q => wO_of (z' := .nl _) (by rw [d_mulL, if_pos q.1]) q.2⟩
instance : Step (wO (dMul (.str (tx l)) (.int b)) r P) ((l.length * b.toNat ≤ sizeLine ∧ -(2 ^ 40) < b ∧ b < 2 ^ 40) ∧ P (.fz (.str (tx (List.replicate b.toNat l).flatten))) r) := ⟨fun q => wO_of (z' := .fz (.str (tx (List.replicate b.toNat l).flatten))) (by rw [d_mulS, tx_len', if_pos q.1]; rfl) q.2⟩
instance : Step (wO (dFdiv (.int a) (.int b)) r P) ((0 < b ∧ b < 1000000000000000000000000000000) ∧ P (.fz (.int (a / b))) r) := ⟨fun q => wO_of (z' := .fz (.int (a / b))) (by rw [d_div, if_pos q.1]) q.2⟩
instance : Step (wO (dMod (.int a) (.int b)) r P) (0 < b ∧ P (.fz (.int (a % b))) r) := ⟨fun q => wO_of (z' := .fz (.int (a % b))) (by rw [d_mod, if_pos q.1]) q.2⟩
instance {fi : Int → Int → Bool} {ft : List Nat → List Nat → Bool} : Step (wO (dOrd fi ft (.int a) (.int b)) r P) (P (.fz (.bool (fi a b))) r) := ⟨fun q => ⟨.fz _, rfl, q⟩⟩
instance {fi : Int → Int → Bool} {ft : List Nat → List Nat → Bool} : Step (wO (dOrd fi ft (.str (tx l)) (.str (tx m))) r P) (P (.fz (.bool (ft l m))) r) := ⟨fun q => ⟨.fz _, rfl, q⟩⟩
instance (priority := low) {f : Bool → Bool} : Step (wO (dEqF f d e) r P) ((okD d = true ∧ okD e = true) ∧ P (.fz (.bool (f (PyData.eqv d e)))) r) := ⟨fun q => wO_of (z' := .fz (.bool (f (PyData.eqv d e)))) (by rw [d_eq, if_pos q.1]) q.2⟩
instance {f : Bool → Bool} : Step (wO (dEqF f (.int a) (.int b)) r P) (P (.fz (.bool (f (decide (a = b))))) r) := ⟨fun q => wO_of (z' := .fz (.bool (f (decide (a = b))))) (by rw [d_eq, if_pos ⟨ok_int, ok_int⟩, eqv_int]) q⟩
instance {f : Bool → Bool} : Step (wO (dEqF f (.str (tx l)) (.str (tx m))) r P) (P (.fz (.bool (f (decide (l = m))))) r) := ⟨fun q => wO_of (z' := .fz (.bool (f (decide (l = m))))) (by rw [d_eq, if_pos ⟨ok_str, ok_str⟩, eqv_str, tx_dec]) q⟩
instance {f : Bool → Bool} : Step (wO (dInF f (.str (tx l)) (.str (tx m))) r P) (P (.fz (.bool (f (strIn (tx l) (tx m))))) r) := ⟨fun q => ⟨.fz _, rfl, q⟩⟩
instance {f : Bool → Bool} : Step (wO (dInF f d (.list ds)) r P) ((okD d = true ∧ okD (.list ds) = true) ∧ P (.fz (.bool (f (ds.any fun y => PyData.eqv y d)))) r) := ⟨fun q => wO_of (z' := .fz (.bool (f (ds.any fun y => PyData.eqv y d)))) (by
  have : dInF f d (.list ds) = if okF d = true ∧ okF (.list ds) = true then some (.fz (.bool (f (ds.any fun y => eqF y d)))) else none := by cases d <;> rfl
  rw [this, okF_eq, okF_eq, if_pos q.1]
  simp only [eqF_eq]) q.2⟩
instance {f : Bool → Bool} : Step (wO (dInF f d (.tuple ds)) r P) ((okD d = true ∧ okD (.tuple ds) = true) ∧ P (.fz (.bool (f (ds.any fun y => PyData.eqv y d)))) r) := ⟨fun q => wO_of (z' := .fz (.bool (f (ds.any fun y => PyData.eqv y d)))) (by
  have : dInF f d (.tuple ds) = if okF d = true ∧ okF (.tuple ds) = true then some (.fz (.bool (f (ds.any fun y => eqF y d)))) else none := by cases d <;> rfl
  rw [this, okF_eq, okF_eq, if_pos q.1]
  simp only [eqF_eq]) q.2⟩
instance {f : Bool → Bool} : Step (wO (dIsF f d .none) r P) (P (.fz (.bool (f (isN d)))) r) := ⟨fun q => wO_of (z' := .fz (.bool (f (isN d)))) d_isN q⟩
instance {f : Bool → Bool} : Step (wO (dIsF f (.bool u) (.bool v)) r P) (P (.fz (.bool (f (decide (u = v))))) r) := ⟨fun q => ⟨.fz _, rfl, q⟩⟩
def wAt {α : Type} (xs : List α) (i : Int) (Q : α → Prop) : Prop := ∃ d, atI xs i = some d ∧ Q d
theorem wAt_r {α : Type} {xs : List α} {i : Int} {d : α} {Q : α → Prop} (h : atI xs i = some d) (q : Q d) : wAt xs i Q := ⟨d, h, q⟩
theorem at_n {α : Type} {xs : List α} {i : Nat} {d : α} (h : xs[i]? = some d) : atI xs (i : Int) = some d := atI_nat h
instance {α : Type} {x : α} {xs : List α} {Q : α → Prop} : Step (wAt (x :: xs) 0 Q) (Q x) := ⟨wAt_r (at_n (i := 0) rfl)⟩
instance {α : Type} {x y : α} {xs : List α} {Q : α → Prop} : Step (wAt (x :: y :: xs) 1 Q) (Q y) := ⟨wAt_r (at_n (i := 1) rfl)⟩
instance {α : Type} {x y z : α} {xs : List α} {Q : α → Prop} : Step (wAt (x :: y :: z :: xs) 2 Q) (Q z) := ⟨wAt_r (at_n (i := 2) rfl)⟩
instance : Step (wO (dIx (.list ds) (.int a)) r P) (wAt ds a fun d => P (.fz d) r) := ⟨fun ⟨d, h, q⟩ => wO_of (z' := .fz d) (by rw [d_ixL, h]; rfl) q⟩
instance : Step (wO (dIx (.tuple ds) (.int a)) r P) (wAt ds a fun d => P (.fz d) r) := ⟨fun ⟨d, h, q⟩ => wO_of (z' := .fz d) (by rw [d_ixT, h]; rfl) q⟩
instance : Step (wO (dIx (.str (tx l)) (.int a)) r P) (l.length ≤ sizeLine ∧ wAt l a fun c => P (.fz (.str (tx [c]))) r) := ⟨fun ⟨hl, c, h, q⟩ => wO_of (z' := .fz (.str (tx [c]))) (by
  rw [d_ixS, tx_len', if_pos hl]
  show (atI l a).map _ = _
  rw [h]; rfl) q⟩
variable {lo hi : Option Int}
instance (priority := low) : Step (wO (dSl (.list ds) lo hi) r P) (P (.ol (cutL ds lo hi)) r) := ⟨wO_of (z' := .nl _) rfl⟩
instance (priority := low) : Step (wO (dSl (.str (tx l)) lo hi) r P) (l.length ≤ sizeLine ∧ P (.fz (.str (tx (cutL l lo hi)))) r) := ⟨fun q => wO_of (z' := .fz (.str (tx (cutL l lo hi)))) (by rw [d_slS, tx_len', if_pos q.1]; rfl) q.2⟩
theorem cut_whole {α : Type} {ds : List α} (h : HT.sIx ds.length 0 lo = 0 ∧ HT.sIx ds.length ds.length hi = ds.length) : cutL ds lo hi = ds := by
  unfold cutL
  rw [h.1, h.2]; simp
instance (priority := low) : Step (wO (dSl (.tuple ds) lo hi) r P) (P (.fz (.tuple (cutL ds lo hi))) r) := ⟨fun q => by
  by_cases h : HT.sIx ds.length 0 lo = 0 ∧ HT.sIx ds.length ds.length hi = ds.length
  · refine wO_of (z' := .fz (.tuple ds)) ?_ ?_
    · unfold dSl
      dsimp only
      rw [if_pos h]
    · rw [cut_whole h] at q; exact q
  · refine wO_of (z' := .nt (cutL ds lo hi)) ?_ q
    unfold dSl
    dsimp only
    rw [if_neg h]⟩
theorem cut_tail {α : Type} (x : α) (xs : List α) : cutL (x :: xs) (some 1) none = xs := by
  unfold cutL
  have e := HT.sIx_nat (n := (x :: xs).length) (d := 0) (k := 1)
  rw [show ((1 : Nat) : Int) = 1 from rfl] at e
  rw [e, HT.sIx_none, List.length_cons, show min 1 (xs.length + 1) = 1 by omega]
  simp
instance : Step (wO (dSl (.str (tx (i :: l))) (some 1) none) r P) ((i :: l).length ≤ sizeLine ∧ P (.fz (.str (tx l))) r) := ⟨fun q => Step.go ⟨q.1, by rw [cut_tail]; exact q.2⟩⟩
instance : Step (wO (dSl (.tuple (d :: ds)) (some 1) none) r P) (P (.fz (.tuple ds)) r) := ⟨fun q => Step.go (by rw [cut_tail]; exact q)⟩
instance : Step (wO (dSl (.list (d :: ds)) (some 1) none) r P) (P (.ol ds) r) := ⟨fun q => Step.go (by rw [cut_tail]; exact q)⟩
instance : Step (wO (dRev (.list ds)) r P) (P (.ol ds.reverse) r) := ⟨wO_of (z' := .nl _) rfl⟩
instance : Step (wO (dRev (.str (tx l))) r P) (l.length ≤ sizeLine ∧ P (.fz (.str (tx l.reverse))) r) := ⟨fun q => wO_of (z' := .fz (.str (tx l.reverse))) (by rw [d_revS, tx_len', if_pos q.1]; rfl) q.2⟩
instance : Step (wO (dNeg (.int a)) r P) (P (.fz (.int (-a))) r) := ⟨fun q => ⟨.fz _, rfl, q⟩⟩
instance : Step (wO (dLen [.str (tx l)]) r P) (l.length ≤ sizeLine ∧ P (.fz (.int (l.length : Nat))) r) := ⟨fun q => wO_of (z' := .fz (.int (l.length : Nat))) (by rw [d_lenS, tx_len', if_pos q.1]) q.2⟩
instance : Step (wO (dLen [.list ds]) r P) (P (.fz (.int (ds.length : Nat))) r) := ⟨fun q => ⟨.fz _, rfl, q⟩⟩
instance : Step (wO (dLen [.tuple ds]) r P) (P (.fz (.int (ds.length : Nat))) r) := ⟨fun q => ⟨.fz _, rfl, q⟩⟩
instance : Step (wO (dInt [.int a]) r P) (P (.fz (.int a)) r) := ⟨fun q => ⟨.fz _, rfl, q⟩⟩
instance : Step (wO (dInt [.bool u]) r P) (P (.fz (.int (if u then 1 else 0))) r) := ⟨fun q => ⟨.fz _, rfl, q⟩⟩
instance : Step (wO (dMax2 [.int a, .int b]) r P) (P (.fz (.int (if b > a then b else a))) r) := ⟨fun q => ⟨.fz _, rfl, q⟩⟩
instance : Step (wO (dMin2 [.int a, .int b]) r P) (P (.fz (.int (if b < a then b else a))) r) := ⟨fun q => ⟨.fz _, rfl, q⟩⟩
instance (priority := low) {z y : Str} : Step (wO (dFind3 (.str z) [.str y, .int a]) r P) (P (.fz (.int (Txt.find3 z y a))) r) := ⟨fun q => wO_of (z' := .fz (.int (Txt.find3 z y a))) d_find3 q⟩
instance {z y : Str} : Step (wO (dRfind4 (.str z) [.str y, .int a, .int b]) r P) (P (.fz (.int (Txt.rfindIn z y a b))) r) := ⟨fun q => wO_of (z' := .fz (.int (Txt.rfindIn z y a b))) d_rfind4 q⟩
instance : Step (wO (dListA [.list ds]) r P) (P (.ol ds) r) := ⟨wO_of (z' := .nl _) rfl⟩
instance : Step (wO (dListA [.tuple ds]) r P) (P (.ol ds) r) := ⟨wO_of (z' := .nl _) rfl⟩
instance : Step (wO (dListA [.str (tx l)]) r P) (l.length ≤ sizeLine ∧ P (.ol (ltrs l)) r) := ⟨fun q => wO_of (z' := .nl (ltrs l)) (by
  show (if (tx l).length ≤ sizeLine then some (OV.nl ((tx l).cps.toList.map fun c => PyData.str (tx [c]))) else none) = _
  rw [tx_len', if_pos q.1]; rfl) q.2⟩
instance {kvs : List (D × D)} [n : NoOb kvs] : Step (wO (dListA [.dict kvs]) r P) (P (.ol (kvs.map (·.1))) r) := ⟨wO_of (z' := .nl _) (by
  show (if isOb kvs = true then none else some (OV.nl (kvs.map (·.1)))) = _
  rw [n.h]; rfl)⟩
instance : Step (wO (dTupOf [.list ds]) r P) (P (.fz (.tuple ds)) r) := ⟨wO_of (z' := .nt _) rfl⟩
instance : Step (wO (dTupOf [.tuple ds]) r P) (P (.fz (.tuple ds)) r) := ⟨fun q => ⟨.fz _, rfl, q⟩⟩
instance : Step (wO (dRepr [d]) r P) (showOk d = true ∧ P (.fz (.str d.shown)) r) := ⟨fun q => wO_of (z' := .fz (.str d.shown)) (by
  show (if showOk d = true then _ else _) = _
  rw [if_pos q.1]) q.2⟩
instance : Step (wO (dMaxL [.list ds]) r P) (∃ n ns, intsD ds = some (n :: ns) ∧ P (.fz (.int (maxI (n :: ns)))) r) := ⟨fun ⟨n, ns, e, q⟩ => wO_of (z' := .fz (.int (maxI (n :: ns)))) (by
  unfold dMaxL
  dsimp only
  rw [e]) q⟩
instance : Step (wO (dMinL [.list ds]) r P) (∃ n ns, intsD ds = some (n :: ns) ∧ P (.fz (.int (minI (n :: ns)))) r) := ⟨fun ⟨n, ns, e, q⟩ => wO_of (z' := .fz (.int (minI (n :: ns)))) (by
  unfold dMinL
  dsimp only
  rw [e]) q⟩
instance {z : Str} : Step (wO (dJoin (.str z) [.list ds]) r P) (∃ ys, strsD ds = some ys ∧ (ys.map (·.length)).sum + ys.length * z.length ≤ 1000000 ∧ P (.fz (.str (Txt.join z ys))) r) := ⟨fun ⟨ys, e, h, q⟩ => wO_of (z' := .fz (.str (Txt.join z ys))) (by
  unfold dJoin
  dsimp only
  rw [e]
  show (if _ then _ else _) = _
  rw [if_pos h]) q⟩
instance : Step (wO (dSortSet (.str (tx l))) r P) (l.length < 4000 ∧ P (.ol (ltrs (QS.sortU l))) r) := ⟨fun q => wO_of (z' := .nl (ltrs (QS.sortU l))) (by
  show (if (tx l).length < 4000 then _ else _) = _
  rw [tx_len', if_pos q.1]; rfl) q.2⟩
def wLc (vs : List Nat) (G : D → S → Option S) (T : S → Res Bool) (F : S → Res D) (ds : List D) (r : S) (P : SV → S → Prop) : Prop := match lcF vs G T F ds [] { r with sl := wipeS vs r.sl } with
  | .ok acc r' => P (.ol acc) { r' with sl := restS vs r.sl r'.sl }
  | _ => False
instance {vs : List Nat} {I : S → Res (List D)} {G : D → S → Option S} {T : S → Res Bool} {F : S → Res D} : Step (wE (fLc vs I G T F r) P X) (wE (I r) (fun ds r => wLc vs G T F ds r P) X) := ⟨fun h => wE_bind (wE_mono h fun ds r h => by
  unfold wLc at h
  show wE (match lcF vs G T F ds [] { r with sl := wipeS vs r.sl } with
    | .ok acc r' => Res.ok (SV.ol acc) { r' with sl := restS vs r.sl r'.sl }
    | _ => Res.bad) P X
  generalize lcF vs G T F ds [] { r with sl := wipeS vs r.sl } = z at h ⊢
  cases z <;> exact h)⟩
theorem lc_inv {vs : List Nat} {G : D → S → Option S} {T : S → Res Bool} {F : S → Res D} (Q : Nat → List D → S → Prop) : ∀ (ds acc : List D) (k : Nat) (r : S), Q k acc r →
    (∀ i d acc r, ds[i]? = some d → Q (k + i) acc r → wG (G d r) fun r => wE (T r) (fun b r => wB b (wE (F r) (fun y r => acc.length < sizeLine ∧ Q (k + i + 1) (acc ++ [y]) ⟨wipeS vs r.sl, r.tp⟩) XN) (Q (k + i + 1) acc ⟨wipeS vs r.sl, r.tp⟩)) XN) →
    ∃ acc' r', lcF vs G T F ds acc r = .ok acc' r' ∧ Q (k + ds.length) acc' r'
  | [], acc, k, r, h, _ => ⟨acc, r, rfl, h⟩
  | d :: ds, acc, k, r, h, st => by
    have st' : ∀ i d acc r, ds[i]? = some d → Q (k + 1 + i) acc r → wG (G d r) fun r => wE (T r) (fun b r => wB b (wE (F r) (fun y r => acc.length < sizeLine ∧ Q (k + 1 + i + 1) (acc ++ [y]) ⟨wipeS vs r.sl, r.tp⟩) XN) (Q (k + 1 + i + 1) acc ⟨wipeS vs r.sl, r.tp⟩)) XN := fun i d acc r hd hq => by
      have := st (i + 1) d acc r (by simpa using hd) (by rw [show k + (i + 1) = k + 1 + i by omega]; exact hq)
      rw [show k + (i + 1) + 1 = k + 1 + i + 1 by omega] at this
      exact this
    obtain ⟨r1, e1, h1⟩ := st 0 d acc r rfl h
    unfold lcF
    rw [e1]
    dsimp only
    cases e2 : T r1 with
    | bad => rw [e2] at h1; exact h1.elim
    | exc c f s => rw [e2] at h1; exact h1.elim
    | ok b r2 =>
      rw [e2] at h1
      cases b with
      | true =>
        have h2 := h1.1 rfl
        dsimp only
        cases e3 : F r2 with
        | bad => rw [e3] at h2; exact h2.elim
        | exc c f s => rw [e3] at h2; exact h2.elim
        | ok y r3 =>
          rw [e3] at h2
          dsimp only
          rw [if_pos h2.1]
          obtain ⟨acc', r', e4, h4⟩ := lc_inv Q ds (acc ++ [y]) (k + 1) _ h2.2 st'
          exact ⟨acc', r', e4, by rw [List.length_cons, show k + (ds.length + 1) = k + 1 + ds.length by omega]; exact h4⟩
      | false =>
        have h2 := h1.2 rfl
        dsimp only
        obtain ⟨acc', r', e4, h4⟩ := lc_inv Q ds acc (k + 1) _ h2 st'
        exact ⟨acc', r', e4, by rw [List.length_cons, show k + (ds.length + 1) = k + 1 + ds.length by omega]; exact h4⟩
/-- a comprehension by an invariant: how many are done, what is told, the state -/
theorem wLc_inv {vs : List Nat} {G : D → S → Option S} {T : S → Res Bool} {F : S → Res D} (Q : Nat → List D → S → Prop) (h0 : Q 0 [] ⟨wipeS vs r.sl, r.tp⟩)
    (st : ∀ i d acc r, ds[i]? = some d → Q i acc r → wG (G d r) fun r => wE (T r) (fun b r => wB b (wE (F r) (fun y r => acc.length < sizeLine ∧ Q (i + 1) (acc ++ [y]) ⟨wipeS vs r.sl, r.tp⟩) XN) (Q (i + 1) acc ⟨wipeS vs r.sl, r.tp⟩)) XN)
    (he : ∀ acc r', Q ds.length acc r' → P (.ol acc) ⟨restS vs r.sl r'.sl, r'.tp⟩) : wLc vs G T F ds r P := by
  obtain ⟨acc', r', e, h⟩ := lc_inv Q ds [] 0 ⟨wipeS vs r.sl, r.tp⟩ h0 (fun i d acc r hd hq => by
    have := st i d acc r hd (by simpa using hq)
    simpa using this)
  unfold wLc
  rw [e]
  exact he acc' r' (by simpa using h)
/-- .. where the state stays -/
theorem wLc_map {vs : List Nat} {G : D → S → Option S} {T : S → Res Bool} {F : S → Res D} (f : D → Option D) (hl : ds.length ≤ sizeLine)
    (st : ∀ d ∈ ds, wG (G d ⟨wipeS vs r.sl, r.tp⟩) fun r1 => wE (T r1) (fun b r2 => wB b (wE (F r2) (fun y r3 => f d = some y ∧ (⟨wipeS vs r3.sl, r3.tp⟩ : S) = ⟨wipeS vs r.sl, r.tp⟩) XN) (f d = none ∧ (⟨wipeS vs r2.sl, r2.tp⟩ : S) = ⟨wipeS vs r.sl, r.tp⟩)) XN)
    (he : P (.ol (ds.filterMap f)) ⟨restS vs r.sl (wipeS vs r.sl), r.tp⟩) : wLc vs G T F ds r P := by
  refine wLc_inv (fun i acc r' => r' = ⟨wipeS vs r.sl, r.tp⟩ ∧ acc = (ds.take i).filterMap f) ⟨rfl, by simp⟩ (fun i d acc r' hd ⟨e1, e2⟩ => ?_) (fun acc r' ⟨e1, e2⟩ => ?_)
  · subst e1
    have hi := (List.getElem?_eq_some_iff.mp hd).1
    have ht : (ds.take (i + 1)).filterMap f = acc ++ [d].filterMap f := by
      rw [List.take_add_one, hd, e2, List.filterMap_append]; rfl
    obtain ⟨r1, e3, h⟩ := st d (List.mem_of_getElem? hd)
    refine ⟨r1, e3, wE_mono h fun b r2 h => ⟨fun hb => wE_mono (h.1 hb) fun y r3 h3 => ⟨?_, h3.2, ?_⟩, fun hb => ⟨(h.2 hb).2, ?_⟩⟩⟩
    · rw [e2]
      have := List.length_filterMap_le f (ds.take i)
      rw [List.length_take] at this
      omega
    · rw [ht]
      simp [h3.1]
    · rw [ht]
      simp [(h.2 hb).1]
  · subst e1 e2
    rw [List.take_length]
    exact he
end
theorem wFor_inv {p : Po} {G : D → S → Option S} {B : S → RS} (Q : Nat → S → Prop) {ds : List D} {r : S} (h0 : Q 0 r)
    (st : ∀ i d r, ds[i]? = some d → Q i r → wG (G d r) fun r => wS (B r) (p.lp (Q (i + 1)))) (he : ∀ r, Q ds.length r → p.nx r) : wS (forF G B ds r) p := by
  have main : ∀ (ds : List D) (k : Nat) (r : S), Q k r → (∀ i d r, ds[i]? = some d → Q (k + i) r → wG (G d r) fun r => wS (B r) (p.lp (Q (k + i + 1)))) → (∀ r, Q (k + ds.length) r → p.nx r) → wS (forF G B ds r) p := by
    intro ds
    induction ds with
    | nil => exact fun k r h _ he => he r h
    | cons d ds ih =>
      intro k r h st he
      obtain ⟨r1, e1, h1⟩ := st 0 d r rfl h
      have rest : ∀ r, Q (k + 1) r → wS (forF G B ds r) p := fun r h => ih (k + 1) r h (fun i d r hd hq => by
        have := st (i + 1) d r (by simpa using hd) (by rw [show k + (i + 1) = k + 1 + i by omega]; exact hq)
        rw [show k + (i + 1) + 1 = k + 1 + i + 1 by omega] at this
        exact this) fun r hq => he r (by rw [List.length_cons, show k + (ds.length + 1) = k + 1 + ds.length by omega]; exact hq)
      unfold forF
      rw [e1]
      dsimp only
      cases e2 : B r1 with
      | nx r2 => rw [e2] at h1; exact rest r2 h1
      | ct r2 => rw [e2] at h1; exact rest r2 h1
      | bk r2 => rw [e2] at h1; exact h1
      | rt v r2 => rw [e2] at h1; exact h1
      | exc c f r2 => rw [e2] at h1; exact h1
      | bad => rw [e2] at h1; exact h1
  exact main ds 0 r h0 (fun i d r hd hq => by
    have := st i d r hd (by simpa using hq)
    simpa using this) (fun r hq => he r (by simpa using hq))
end QM
namespace QM
open PySem PySem.Spec L2 QL QP
class Mk (n : Nat) (ds : List SV) (sl : outParam (List (Option SV))) : Prop where
  eq : ds.map some ++ List.replicate (n - ds.length) none = sl
instance : Mk 0 [] [] := ⟨rfl⟩
instance {n : Nat} {sl : List (Option SV)} [h : Mk n [] sl] : Mk (n + 1) [] (none :: sl) := ⟨by
  have := h.eq
  simp only [List.map_nil, List.length_nil, Nat.sub_zero, List.nil_append] at this ⊢
  rw [List.replicate_succ, this]⟩
instance {n : Nat} {d : SV} {ds : List SV} {sl : List (Option SV)} [h : Mk n ds sl] : Mk (n + 1) (d :: ds) (some d :: sl) := ⟨by
  have := h.eq
  simp only [List.map_cons, List.length_cons, Nat.add_sub_add_right, List.cons_append]
  rw [this]⟩
class Fz (ds : List D) (xs : outParam (List SV)) : Prop where
  eq : ds.map SV.fz = xs
instance : Fz [] [] := ⟨rfl⟩
instance {d : D} {ds : List D} {xs : List SV} [h : Fz ds xs] : Fz (d :: ds) (.fz d :: xs) := ⟨by rw [List.map_cons, h.eq]⟩
section
variable {n : Nat} {B : S → RS} {ds : List D} {xs : List SV} {sl : List (Option SV)}
theorem wF_go {PF : SV → Prop} {XF : Str → List (Str × D) → Prop} [f : Fz ds xs] [m : Mk n xs sl] (h : wS (B ⟨sl, none⟩) ⟨fun _ => PF (.fz .none), fun x _ => x.out = true ∧ PF x, fun _ => False, fun _ => False, fun c f _ => XF c f⟩) : wF (bodyF n B ds) PF XF := by
  refine wF_body ?_
  unfold mkS
  rw [f.eq, m.eq]; exact h
theorem wFT_go {t : Int × Int} {PF : SV → Int × Int → Prop} {XF : Str → List (Str × D) → Int × Int → Prop} [f : Fz ds xs] [m : Mk n (.tape :: xs) sl] (h : wS (B ⟨sl, some t⟩) ⟨fun r => ∃ t, r.tp = some t ∧ PF (.fz .none) t, fun x r => x.out = true ∧ ∃ t, r.tp = some t ∧ PF x t, fun _ => False, fun _ => False, fun c f r => ∃ t, r.tp = some t ∧ XF c f t⟩) : wFT (bodyT n B t ds) PF XF := by
  refine wFT_body ?_
  unfold mkS
  rw [f.eq, m.eq]; exact h
theorem Ret.go {v : SV} [f : Fz ds xs] [m : Mk n xs sl] (h : wS (B ⟨sl, none⟩) ⟨fun _ => SV.fz .none = v, fun x _ => x.out = true ∧ x = v, fun _ => False, fun _ => False, fun _ _ _ => False⟩) : Ret (bodyF n B ds) v := Ret.of_w (wF_go h)
end
class Wi (vs : List Nat) (sl : List (Option SV)) (sl' : outParam (List (Option SV))) : Prop where
  eq : wipeS vs sl = sl'
instance {sl : List (Option SV)} : Wi [] sl sl := ⟨rfl⟩
instance {v : Nat} {vs : List Nat} {sl l1 l2 : List (Option SV)} [h : Wi vs sl l1] [h2 : SetL l1 v none l2] : Wi (v :: vs) sl l2 := ⟨by
  unfold wipeS
  rw [h.eq, h2.eq]⟩
class Rest (vs : List Nat) (old sl : List (Option SV)) (sl' : outParam (List (Option SV))) : Prop where
  eq : restS vs old sl = sl'
instance {old sl : List (Option SV)} : Rest [] old sl sl := ⟨rfl⟩
instance {v : Nat} {vs : List Nat} {old sl l1 : List (Option SV)} [h : Rest vs old sl l1] [g : Get old v none] : Rest (v :: vs) old sl l1 := ⟨by
  unfold restS
  rw [g.eq]; exact h.eq⟩
instance {v : Nat} {vs : List Nat} {old sl l1 : List (Option SV)} {ds : List D} [h : Rest vs old sl l1] [g : Get old v (some (.ol ds))] : Rest (v :: vs) old sl l1 := ⟨by
  unfold restS
  rw [g.eq]; exact h.eq⟩
instance {v : Nat} {vs : List Nat} {old sl l1 l2 : List (Option SV)} {d : D} [h : Rest vs old sl l1] [g : Get old v (some (.fz d))] [h2 : SetL l1 v (some (.fz d)) l2] : Rest (v :: vs) old sl l2 := ⟨by
  unfold restS
  rw [g.eq]
  dsimp only
  rw [h.eq, h2.eq]⟩
section
variable {P : SV → S → Prop} {r : S} {d : D} {ds acc : List D} {vs : List Nat} {G : D → S → Option S} {T : S → Res Bool} {F : S → Res D} {sl sl' old : List (Option SV)} {tp : Option (Int × Int)}
/-- a comprehension, turn by turn -/
def wC (vs : List Nat) (G : D → S → Option S) (T : S → Res Bool) (F : S → Res D) (old : List (Option SV)) (ds acc : List D) (r : S) (P : SV → S → Prop) : Prop := match lcF vs G T F ds acc r with
  | .ok acc r' => P (.ol acc) { r' with sl := restS vs old r'.sl }
  | _ => False
def wWi (vs : List Nat) (r : S) (Q : S → Prop) : Prop := Q ⟨wipeS vs r.sl, r.tp⟩
instance {Q : S → Prop} [h : Wi vs sl sl'] : Step (wWi vs ⟨sl, tp⟩ Q) (Q ⟨sl', tp⟩) := ⟨fun q => by
  unfold wWi
  dsimp only
  rw [h.eq]; exact q⟩
instance [h : Wi vs sl sl'] : Step (wLc vs G T F (d :: ds) ⟨sl, tp⟩ P) (wC vs G T F sl (d :: ds) [] ⟨sl', tp⟩ P) := ⟨fun q => by
  unfold wLc
  dsimp only
  rw [h.eq]; exact q⟩
instance [h : Wi vs sl sl'] [h2 : Rest vs sl sl' old] : Step (wLc vs G T F [] ⟨sl, tp⟩ P) (P (.ol []) ⟨old, tp⟩) := ⟨fun q => by
  show P (.ol []) ⟨restS vs sl (wipeS vs sl), tp⟩
  rw [h.eq, h2.eq]; exact q⟩
instance [h : Rest vs old sl sl'] : Step (wC vs G T F old [] acc ⟨sl, tp⟩ P) (P (.ol acc) ⟨sl', tp⟩) := ⟨fun q => by
  show P (.ol acc) ⟨restS vs old sl, tp⟩
  rw [h.eq]; exact q⟩
instance : Step (wC vs G T F old (d :: ds) acc r P) (wG (G d r) fun r => wE (T r) (fun b r => wB b (wE (F r) (fun y r => acc.length < sizeLine ∧ wWi vs r fun r => wC vs G T F old ds (acc ++ [y]) r P) XN) (wWi vs r fun r => wC vs G T F old ds acc r P)) XN) := ⟨fun ⟨r1, e1, h1⟩ => by
  unfold wC lcF
  rw [e1]
  dsimp only at h1 ⊢
  cases e2 : T r1 with
  | bad => rw [e2] at h1; exact h1.elim
  | exc c f s => rw [e2] at h1; exact h1.elim
  | ok b r2 =>
    rw [e2] at h1
    cases b with
    | true =>
      have h2 := h1.1 rfl
      dsimp only
      cases e3 : F r2 with
      | bad => rw [e3] at h2; exact h2.elim
      | exc c f s => rw [e3] at h2; exact h2.elim
      | ok y r3 =>
        rw [e3] at h2
        dsimp only
        rw [if_pos h2.1]; exact h2.2
    | false => exact h1.2 rfl⟩
/-- .. by an invariant -/
theorem lc_go [w : Wi vs sl sl'] (Q : Nat → List D → S → Prop) (h0 : Q 0 [] ⟨sl', tp⟩)
    (st : ∀ i d acc r, ds[i]? = some d → Q i acc r → wG (G d r) fun r => wE (T r) (fun b r => wB b (wE (F r) (fun y r => acc.length < sizeLine ∧ wWi vs r fun r => Q (i + 1) (acc ++ [y]) r) XN) (wWi vs r fun r => Q (i + 1) acc r)) XN)
    (he : ∀ acc r', Q ds.length acc r' → P (.ol acc) ⟨restS vs sl r'.sl, r'.tp⟩) : wLc vs G T F ds ⟨sl, tp⟩ P :=
  wLc_inv Q (by dsimp only; rw [w.eq]; exact h0) st he
/-- .. where the state stays -/
theorem lc_map [w : Wi vs sl sl'] [q : Rest vs sl sl' old] (f : D → Option D) (hl : ds.length ≤ sizeLine)
    (st : ∀ d ∈ ds, wG (G d ⟨sl', tp⟩) fun r1 => wE (T r1) (fun b r2 => wB b (wE (F r2) (fun y r3 => f d = some y ∧ wWi vs r3 fun r => r = ⟨sl', tp⟩) XN) (f d = none ∧ wWi vs r2 fun r => r = ⟨sl', tp⟩)) XN)
    (he : P (.ol (ds.filterMap f)) ⟨old, tp⟩) : wLc vs G T F ds ⟨sl, tp⟩ P := by
  refine wLc_map f hl (fun d hd => ?_) ?_
  · dsimp only
    rw [w.eq]; exact st d hd
  · dsimp only
    rw [w.eq, q.eq]; exact he
end
theorem sml_small {n : Nat} (h : n ≤ 1000000) : sml (n : Int) = true := by
  unfold sml
  have e : (2 : Int) ^ 62 = 4611686018427387904 := by decide
  rw [e]
  exact decide_eq_true ⟨by omega, by omega⟩
instance {n : Nat} {A : Prop} : Step (wSm (n : Int) A) (n ≤ 1000000 ∧ A) := ⟨fun h => ⟨sml_small h.1, h.2⟩⟩
instance {n : Nat} {A : Prop} : Step (wSm (@OfNat.ofNat Int n instOfNat) A) (n ≤ 1000000 ∧ A) := ⟨fun h => ⟨sml_small h.1, h.2⟩⟩
theorem wSm_lit {n : Nat} {A : Prop} (h : n ≤ 1000000) (a : A) : wSm (n : Int) A := ⟨sml_small h, a⟩
instance {A : Prop} : Step (wSm 0 A) A := ⟨fun a => wSm_lit (n := 0) (by decide) a⟩
instance {A : Prop} : Step (wSm 1 A) A := ⟨fun a => wSm_lit (n := 1) (by decide) a⟩
instance {A : Prop} : Step (wSm 2 A) A := ⟨fun a => wSm_lit (n := 2) (by decide) a⟩
instance {A : Prop} : Step (wSm 3 A) A := ⟨fun a => wSm_lit (n := 3) (by decide) a⟩
instance {A : Prop} : Step (wSm 4 A) A := ⟨fun a => wSm_lit (n := 4) (by decide) a⟩
instance {A : Prop} : Step (wSm 5 A) A := ⟨fun a => wSm_lit (n := 5) (by decide) a⟩
instance {A : Prop} : Step (wSm 6 A) A := ⟨fun a => wSm_lit (n := 6) (by decide) a⟩
instance {A : Prop} : Step (wSm 7 A) A := ⟨fun a => wSm_lit (n := 7) (by decide) a⟩
instance {A : Prop} : Step (wSm 8 A) A := ⟨fun a => wSm_lit (n := 8) (by decide) a⟩
instance {A : Prop} : Step (wSm 9 A) A := ⟨fun a => wSm_lit (n := 9) (by decide) a⟩
instance {A : Prop} : Step (wSm 10 A) A := ⟨fun a => wSm_lit (n := 10) (by decide) a⟩
instance {A : Prop} : Step (wSm 11 A) A := ⟨fun a => wSm_lit (n := 11) (by decide) a⟩
instance {A : Prop} : Step (wSm 12 A) A := ⟨fun a => wSm_lit (n := 12) (by decide) a⟩
instance {A : Prop} : Step (wSm 13 A) A := ⟨fun a => wSm_lit (n := 13) (by decide) a⟩
instance {A : Prop} : Step (wSm 14 A) A := ⟨fun a => wSm_lit (n := 14) (by decide) a⟩
instance {A : Prop} : Step (wSm 15 A) A := ⟨fun a => wSm_lit (n := 15) (by decide) a⟩
instance {A : Prop} : Step (wSm 16 A) A := ⟨fun a => wSm_lit (n := 16) (by decide) a⟩
instance {A : Prop} : Step (wSm 17 A) A := ⟨fun a => wSm_lit (n := 17) (by decide) a⟩
instance {A : Prop} : Step (wSm 18 A) A := ⟨fun a => wSm_lit (n := 18) (by decide) a⟩
instance {A : Prop} : Step (wSm 19 A) A := ⟨fun a => wSm_lit (n := 19) (by decide) a⟩
instance {A : Prop} : Step (wSm 20 A) A := ⟨fun a => wSm_lit (n := 20) (by decide) a⟩
instance {A : Prop} : Step (wSm 21 A) A := ⟨fun a => wSm_lit (n := 21) (by decide) a⟩
instance {A : Prop} : Step (wSm 22 A) A := ⟨fun a => wSm_lit (n := 22) (by decide) a⟩
instance {A : Prop} : Step (wSm 23 A) A := ⟨fun a => wSm_lit (n := 23) (by decide) a⟩
instance {A : Prop} : Step (wSm 24 A) A := ⟨fun a => wSm_lit (n := 24) (by decide) a⟩
instance {A : Prop} : Step (wSm 25 A) A := ⟨fun a => wSm_lit (n := 25) (by decide) a⟩
instance {A : Prop} : Step (wSm 26 A) A := ⟨fun a => wSm_lit (n := 26) (by decide) a⟩
instance {A : Prop} : Step (wSm 27 A) A := ⟨fun a => wSm_lit (n := 27) (by decide) a⟩
instance {A : Prop} : Step (wSm 28 A) A := ⟨fun a => wSm_lit (n := 28) (by decide) a⟩
instance {A : Prop} : Step (wSm 29 A) A := ⟨fun a => wSm_lit (n := 29) (by decide) a⟩
instance {A : Prop} : Step (wSm 30 A) A := ⟨fun a => wSm_lit (n := 30) (by decide) a⟩
instance {A : Prop} : Step (wSm 31 A) A := ⟨fun a => wSm_lit (n := 31) (by decide) a⟩
instance {A : Prop} : Step (wSm 32 A) A := ⟨fun a => wSm_lit (n := 32) (by decide) a⟩
instance {A : Prop} : Step (wSm 33 A) A := ⟨fun a => wSm_lit (n := 33) (by decide) a⟩
instance {A : Prop} : Step (wSm 34 A) A := ⟨fun a => wSm_lit (n := 34) (by decide) a⟩
instance {A : Prop} : Step (wSm 35 A) A := ⟨fun a => wSm_lit (n := 35) (by decide) a⟩
instance {A : Prop} : Step (wSm 36 A) A := ⟨fun a => wSm_lit (n := 36) (by decide) a⟩
instance {A : Prop} : Step (wSm 37 A) A := ⟨fun a => wSm_lit (n := 37) (by decide) a⟩
instance {A : Prop} : Step (wSm 38 A) A := ⟨fun a => wSm_lit (n := 38) (by decide) a⟩
instance {A : Prop} : Step (wSm 39 A) A := ⟨fun a => wSm_lit (n := 39) (by decide) a⟩
instance {A : Prop} : Step (wSm 40 A) A := ⟨fun a => wSm_lit (n := 40) (by decide) a⟩
instance {A : Prop} : Step (wSm 60 A) A := ⟨fun a => wSm_lit (n := 60) (by decide) a⟩
instance {A : Prop} : Step (wSm 63 A) A := ⟨fun a => wSm_lit (n := 63) (by decide) a⟩
instance {A : Prop} : Step (wSm (-1) A) A := ⟨fun a => ⟨by decide +kernel, a⟩⟩
theorem rgOk_small {n m : Nat} (h : n ≤ 1000000) (h2 : m ≤ 1000000) : rgOk (n : Int) (m : Int) = true := by
  unfold rgOk
  rw [sml_small h, sml_small h2]
  simp only [Bool.true_and]
  exact decide_eq_true (by omega)
instance {n : Nat} {A : Prop} : Step (wRg 0 (n : Int) A) (n ≤ 1000000 ∧ A) := ⟨fun h => ⟨rgOk_small (n := 0) (by decide) h.1, h.2⟩⟩
section
variable {P : SV → S → Prop} {r : S} {z : Str} {i : Int} {u : Bool} {ds : List D} {kvs : List (D × D)}
theorem kb_NoneType_int : kitB "NoneType" "int" = some false := by decide +kernel
instance : Step (wO (dIsi "int" PyData.none) r P) (P (.fz (.bool false)) r) := ⟨fun q => ⟨.fz (.bool false), by show (kitB "NoneType" "int").map (fun b => OV.fz (PyData.bool b)) = _; rw [kb_NoneType_int]; rfl, q⟩⟩
theorem kb_bool_int : kitB "bool" "int" = some true := by decide +kernel
instance : Step (wO (dIsi "int" (.bool u)) r P) (P (.fz (.bool true)) r) := ⟨fun q => ⟨.fz (.bool true), by show (kitB "bool" "int").map (fun b => OV.fz (PyData.bool b)) = _; rw [kb_bool_int]; rfl, q⟩⟩
theorem kb_int_int : kitB "int" "int" = some true := by decide +kernel
instance : Step (wO (dIsi "int" (.int i)) r P) (P (.fz (.bool true)) r) := ⟨fun q => ⟨.fz (.bool true), by show (kitB "int" "int").map (fun b => OV.fz (PyData.bool b)) = _; rw [kb_int_int]; rfl, q⟩⟩
theorem kb_str_int : kitB "str" "int" = some false := by decide +kernel
instance : Step (wO (dIsi "int" (.str z)) r P) (P (.fz (.bool false)) r) := ⟨fun q => ⟨.fz (.bool false), by show (kitB "str" "int").map (fun b => OV.fz (PyData.bool b)) = _; rw [kb_str_int]; rfl, q⟩⟩
theorem kb_list_int : kitB "list" "int" = some false := by decide +kernel
instance : Step (wO (dIsi "int" (.list ds)) r P) (P (.fz (.bool false)) r) := ⟨fun q => ⟨.fz (.bool false), by show (kitB "list" "int").map (fun b => OV.fz (PyData.bool b)) = _; rw [kb_list_int]; rfl, q⟩⟩
theorem kb_tuple_int : kitB "tuple" "int" = some false := by decide +kernel
instance : Step (wO (dIsi "int" (.tuple ds)) r P) (P (.fz (.bool false)) r) := ⟨fun q => ⟨.fz (.bool false), by show (kitB "tuple" "int").map (fun b => OV.fz (PyData.bool b)) = _; rw [kb_tuple_int]; rfl, q⟩⟩
theorem kb_dict_int : kitB "dict" "int" = some false := by decide +kernel
instance : Step (wO (dIsi "int" (.dict kvs)) r P) (P (.fz (.bool false)) r) := ⟨fun q => ⟨.fz (.bool false), by show (if ("int" : String) = "dict" then some (OV.fz (.bool (!isOb kvs))) else (kitB "dict" "int").map (fun b => OV.fz (PyData.bool b))) = _; rw [if_neg (by decide), kb_dict_int]; rfl, q⟩⟩
theorem kb_NoneType_bool : kitB "NoneType" "bool" = some false := by decide +kernel
instance : Step (wO (dIsi "bool" PyData.none) r P) (P (.fz (.bool false)) r) := ⟨fun q => ⟨.fz (.bool false), by show (kitB "NoneType" "bool").map (fun b => OV.fz (PyData.bool b)) = _; rw [kb_NoneType_bool]; rfl, q⟩⟩
theorem kb_bool_bool : kitB "bool" "bool" = some true := by decide +kernel
instance : Step (wO (dIsi "bool" (.bool u)) r P) (P (.fz (.bool true)) r) := ⟨fun q => ⟨.fz (.bool true), by show (kitB "bool" "bool").map (fun b => OV.fz (PyData.bool b)) = _; rw [kb_bool_bool]; rfl, q⟩⟩
theorem kb_int_bool : kitB "int" "bool" = some false := by decide +kernel
instance : Step (wO (dIsi "bool" (.int i)) r P) (P (.fz (.bool false)) r) := ⟨fun q => ⟨.fz (.bool false), by show (kitB "int" "bool").map (fun b => OV.fz (PyData.bool b)) = _; rw [kb_int_bool]; rfl, q⟩⟩
theorem kb_str_bool : kitB "str" "bool" = some false := by decide +kernel
instance : Step (wO (dIsi "bool" (.str z)) r P) (P (.fz (.bool false)) r) := ⟨fun q => ⟨.fz (.bool false), by show (kitB "str" "bool").map (fun b => OV.fz (PyData.bool b)) = _; rw [kb_str_bool]; rfl, q⟩⟩
theorem kb_list_bool : kitB "list" "bool" = some false := by decide +kernel
instance : Step (wO (dIsi "bool" (.list ds)) r P) (P (.fz (.bool false)) r) := ⟨fun q => ⟨.fz (.bool false), by show (kitB "list" "bool").map (fun b => OV.fz (PyData.bool b)) = _; rw [kb_list_bool]; rfl, q⟩⟩
theorem kb_tuple_bool : kitB "tuple" "bool" = some false := by decide +kernel
instance : Step (wO (dIsi "bool" (.tuple ds)) r P) (P (.fz (.bool false)) r) := ⟨fun q => ⟨.fz (.bool false), by show (kitB "tuple" "bool").map (fun b => OV.fz (PyData.bool b)) = _; rw [kb_tuple_bool]; rfl, q⟩⟩
theorem kb_dict_bool : kitB "dict" "bool" = some false := by decide +kernel
instance : Step (wO (dIsi "bool" (.dict kvs)) r P) (P (.fz (.bool false)) r) := ⟨fun q => ⟨.fz (.bool false), by show (if ("bool" : String) = "dict" then some (OV.fz (.bool (!isOb kvs))) else (kitB "dict" "bool").map (fun b => OV.fz (PyData.bool b))) = _; rw [if_neg (by decide), kb_dict_bool]; rfl, q⟩⟩
theorem kb_NoneType_str : kitB "NoneType" "str" = some false := by decide +kernel
instance : Step (wO (dIsi "str" PyData.none) r P) (P (.fz (.bool false)) r) := ⟨fun q => ⟨.fz (.bool false), by show (kitB "NoneType" "str").map (fun b => OV.fz (PyData.bool b)) = _; rw [kb_NoneType_str]; rfl, q⟩⟩
theorem kb_bool_str : kitB "bool" "str" = some false := by decide +kernel
instance : Step (wO (dIsi "str" (.bool u)) r P) (P (.fz (.bool false)) r) := ⟨fun q => ⟨.fz (.bool false), by show (kitB "bool" "str").map (fun b => OV.fz (PyData.bool b)) = _; rw [kb_bool_str]; rfl, q⟩⟩
theorem kb_int_str : kitB "int" "str" = some false := by decide +kernel
instance : Step (wO (dIsi "str" (.int i)) r P) (P (.fz (.bool false)) r) := ⟨fun q => ⟨.fz (.bool false), by show (kitB "int" "str").map (fun b => OV.fz (PyData.bool b)) = _; rw [kb_int_str]; rfl, q⟩⟩
theorem kb_str_str : kitB "str" "str" = some true := by decide +kernel
instance : Step (wO (dIsi "str" (.str z)) r P) (P (.fz (.bool true)) r) := ⟨fun q => ⟨.fz (.bool true), by show (kitB "str" "str").map (fun b => OV.fz (PyData.bool b)) = _; rw [kb_str_str]; rfl, q⟩⟩
theorem kb_list_str : kitB "list" "str" = some false := by decide +kernel
instance : Step (wO (dIsi "str" (.list ds)) r P) (P (.fz (.bool false)) r) := ⟨fun q => ⟨.fz (.bool false), by show (kitB "list" "str").map (fun b => OV.fz (PyData.bool b)) = _; rw [kb_list_str]; rfl, q⟩⟩
theorem kb_tuple_str : kitB "tuple" "str" = some false := by decide +kernel
instance : Step (wO (dIsi "str" (.tuple ds)) r P) (P (.fz (.bool false)) r) := ⟨fun q => ⟨.fz (.bool false), by show (kitB "tuple" "str").map (fun b => OV.fz (PyData.bool b)) = _; rw [kb_tuple_str]; rfl, q⟩⟩
theorem kb_dict_str : kitB "dict" "str" = some false := by decide +kernel
instance : Step (wO (dIsi "str" (.dict kvs)) r P) (P (.fz (.bool false)) r) := ⟨fun q => ⟨.fz (.bool false), by show (if ("str" : String) = "dict" then some (OV.fz (.bool (!isOb kvs))) else (kitB "dict" "str").map (fun b => OV.fz (PyData.bool b))) = _; rw [if_neg (by decide), kb_dict_str]; rfl, q⟩⟩
theorem kb_NoneType_list : kitB "NoneType" "list" = some false := by decide +kernel
instance : Step (wO (dIsi "list" PyData.none) r P) (P (.fz (.bool false)) r) := ⟨fun q => ⟨.fz (.bool false), by show (kitB "NoneType" "list").map (fun b => OV.fz (PyData.bool b)) = _; rw [kb_NoneType_list]; rfl, q⟩⟩
theorem kb_bool_list : kitB "bool" "list" = some false := by decide +kernel
instance : Step (wO (dIsi "list" (.bool u)) r P) (P (.fz (.bool false)) r) := ⟨fun q => ⟨.fz (.bool false), by show (kitB "bool" "list").map (fun b => OV.fz (PyData.bool b)) = _; rw [kb_bool_list]; rfl, q⟩⟩
theorem kb_int_list : kitB "int" "list" = some false := by decide +kernel
instance : Step (wO (dIsi "list" (.int i)) r P) (P (.fz (.bool false)) r) := ⟨fun q => ⟨.fz (.bool false), by show (kitB "int" "list").map (fun b => OV.fz (PyData.bool b)) = _; rw [kb_int_list]; rfl, q⟩⟩
theorem kb_str_list : kitB "str" "list" = some false := by decide +kernel
instance : Step (wO (dIsi "list" (.str z)) r P) (P (.fz (.bool false)) r) := ⟨fun q => ⟨.fz (.bool false), by show (kitB "str" "list").map (fun b => OV.fz (PyData.bool b)) = _; rw [kb_str_list]; rfl, q⟩⟩
theorem kb_list_list : kitB "list" "list" = some true := by decide +kernel
instance : Step (wO (dIsi "list" (.list ds)) r P) (P (.fz (.bool true)) r) := ⟨fun q => ⟨.fz (.bool true), by show (kitB "list" "list").map (fun b => OV.fz (PyData.bool b)) = _; rw [kb_list_list]; rfl, q⟩⟩
theorem kb_tuple_list : kitB "tuple" "list" = some false := by decide +kernel
instance : Step (wO (dIsi "list" (.tuple ds)) r P) (P (.fz (.bool false)) r) := ⟨fun q => ⟨.fz (.bool false), by show (kitB "tuple" "list").map (fun b => OV.fz (PyData.bool b)) = _; rw [kb_tuple_list]; rfl, q⟩⟩
theorem kb_dict_list : kitB "dict" "list" = some false := by decide +kernel
instance : Step (wO (dIsi "list" (.dict kvs)) r P) (P (.fz (.bool false)) r) := ⟨fun q => ⟨.fz (.bool false), by show (if ("list" : String) = "dict" then some (OV.fz (.bool (!isOb kvs))) else (kitB "dict" "list").map (fun b => OV.fz (PyData.bool b))) = _; rw [if_neg (by decide), kb_dict_list]; rfl, q⟩⟩
theorem kb_NoneType_tuple : kitB "NoneType" "tuple" = some false := by decide +kernel
instance : Step (wO (dIsi "tuple" PyData.none) r P) (P (.fz (.bool false)) r) := ⟨fun q => ⟨.fz (.bool false), by show (kitB "NoneType" "tuple").map (fun b => OV.fz (PyData.bool b)) = _; rw [kb_NoneType_tuple]; rfl, q⟩⟩
theorem kb_bool_tuple : kitB "bool" "tuple" = some false := by decide +kernel
instance : Step (wO (dIsi "tuple" (.bool u)) r P) (P (.fz (.bool false)) r) := ⟨fun q => ⟨.fz (.bool false), by show (kitB "bool" "tuple").map (fun b => OV.fz (PyData.bool b)) = _; rw [kb_bool_tuple]; rfl, q⟩⟩
theorem kb_int_tuple : kitB "int" "tuple" = some false := by decide +kernel
instance : Step (wO (dIsi "tuple" (.int i)) r P) (P (.fz (.bool false)) r) := ⟨fun q => ⟨.fz (.bool false), by show (kitB "int" "tuple").map (fun b => OV.fz (PyData.bool b)) = _; rw [kb_int_tuple]; rfl, q⟩⟩
theorem kb_str_tuple : kitB "str" "tuple" = some false := by decide +kernel
instance : Step (wO (dIsi "tuple" (.str z)) r P) (P (.fz (.bool false)) r) := ⟨fun q => ⟨.fz (.bool false), by show (kitB "str" "tuple").map (fun b => OV.fz (PyData.bool b)) = _; rw [kb_str_tuple]; rfl, q⟩⟩
theorem kb_list_tuple : kitB "list" "tuple" = some false := by decide +kernel
instance : Step (wO (dIsi "tuple" (.list ds)) r P) (P (.fz (.bool false)) r) := ⟨fun q => ⟨.fz (.bool false), by show (kitB "list" "tuple").map (fun b => OV.fz (PyData.bool b)) = _; rw [kb_list_tuple]; rfl, q⟩⟩
theorem kb_tuple_tuple : kitB "tuple" "tuple" = some true := by decide +kernel
instance : Step (wO (dIsi "tuple" (.tuple ds)) r P) (P (.fz (.bool true)) r) := ⟨fun q => ⟨.fz (.bool true), by show (kitB "tuple" "tuple").map (fun b => OV.fz (PyData.bool b)) = _; rw [kb_tuple_tuple]; rfl, q⟩⟩
theorem kb_dict_tuple : kitB "dict" "tuple" = some false := by decide +kernel
instance : Step (wO (dIsi "tuple" (.dict kvs)) r P) (P (.fz (.bool false)) r) := ⟨fun q => ⟨.fz (.bool false), by show (if ("tuple" : String) = "dict" then some (OV.fz (.bool (!isOb kvs))) else (kitB "dict" "tuple").map (fun b => OV.fz (PyData.bool b))) = _; rw [if_neg (by decide), kb_dict_tuple]; rfl, q⟩⟩
theorem kb_NoneType_dict : kitB "NoneType" "dict" = some false := by decide +kernel
instance : Step (wO (dIsi "dict" PyData.none) r P) (P (.fz (.bool false)) r) := ⟨fun q => ⟨.fz (.bool false), by show (kitB "NoneType" "dict").map (fun b => OV.fz (PyData.bool b)) = _; rw [kb_NoneType_dict]; rfl, q⟩⟩
theorem kb_bool_dict : kitB "bool" "dict" = some false := by decide +kernel
instance : Step (wO (dIsi "dict" (.bool u)) r P) (P (.fz (.bool false)) r) := ⟨fun q => ⟨.fz (.bool false), by show (kitB "bool" "dict").map (fun b => OV.fz (PyData.bool b)) = _; rw [kb_bool_dict]; rfl, q⟩⟩
theorem kb_int_dict : kitB "int" "dict" = some false := by decide +kernel
instance : Step (wO (dIsi "dict" (.int i)) r P) (P (.fz (.bool false)) r) := ⟨fun q => ⟨.fz (.bool false), by show (kitB "int" "dict").map (fun b => OV.fz (PyData.bool b)) = _; rw [kb_int_dict]; rfl, q⟩⟩
theorem kb_str_dict : kitB "str" "dict" = some false := by decide +kernel
instance : Step (wO (dIsi "dict" (.str z)) r P) (P (.fz (.bool false)) r) := ⟨fun q => ⟨.fz (.bool false), by show (kitB "str" "dict").map (fun b => OV.fz (PyData.bool b)) = _; rw [kb_str_dict]; rfl, q⟩⟩
theorem kb_list_dict : kitB "list" "dict" = some false := by decide +kernel
instance : Step (wO (dIsi "dict" (.list ds)) r P) (P (.fz (.bool false)) r) := ⟨fun q => ⟨.fz (.bool false), by show (kitB "list" "dict").map (fun b => OV.fz (PyData.bool b)) = _; rw [kb_list_dict]; rfl, q⟩⟩
theorem kb_tuple_dict : kitB "tuple" "dict" = some false := by decide +kernel
instance : Step (wO (dIsi "dict" (.tuple ds)) r P) (P (.fz (.bool false)) r) := ⟨fun q => ⟨.fz (.bool false), by show (kitB "tuple" "dict").map (fun b => OV.fz (PyData.bool b)) = _; rw [kb_tuple_dict]; rfl, q⟩⟩
instance : Step (wO (dIsi "dict" (.dict kvs)) r P) (P (.fz (.bool (!isOb kvs))) r) := ⟨fun q => ⟨.fz (.bool (!isOb kvs)), by show (if ("dict" : String) = "dict" then some (OV.fz (.bool (!isOb kvs))) else (kitB "dict" "dict").map (fun b => OV.fz (PyData.bool b))) = _; rw [if_pos rfl], q⟩⟩
instance [n : NoOb kvs] : Step (wO (dIsi "dict" (.dict kvs)) r P) (P (.fz (.bool true)) r) := ⟨fun q => ⟨.fz (.bool true), by show (if ("dict" : String) = "dict" then some (OV.fz (.bool (!isOb kvs))) else (kitB "dict" "dict").map (fun b => OV.fz (PyData.bool b))) = _; rw [if_pos rfl, n.h]; rfl, q⟩⟩
end
section
variable {P : SV → S → Prop} {r : S} {l : List Nat} {c s : Nat}
instance : Step (wO (dFind3 (.str (tx l)) [.str (tx [c]), .int (s : Nat)]) r P) (P (.fz (.int (optI (nxt l c s)))) r) := ⟨fun q => ⟨.fz (.int (optI (nxt l c s))), by
  rw [d_find3, find3_one l c (s : Nat) (by omega)]; rfl, q⟩⟩
instance : Step (wO (dFind3 (.str (tx l)) [.str (tx [c]), .int 0]) r P) (P (.fz (.int (optI (nxt l c 0)))) r) := ⟨fun q => ⟨.fz (.int (optI (nxt l c 0))), by
  rw [d_find3, find3_one l c 0 (by omega)]; rfl, q⟩⟩
end
theorem ltrs_len {l : List Nat} : (ltrs l).length = l.length := by simp [ltrs]
theorem szb' {n : Nat} (h : n ≤ 1000000) : n ≤ sizeLine := by rw [sizeLine_eq]; omega
theorem szl' {n : Nat} (h : n ≤ 1000000) : n < sizeLine := by rw [sizeLine_eq]; omega
end QM
namespace QM
open PySem PySem.Spec L2 QL QP
local macro_rules | `(tactic| decreasing_trivial_pre_omega) => `(tactic| first
  | apply QM.Step.go
  | refine ⟨rfl, ?_⟩
  | refine ⟨⟨rfl, rfl⟩, ?_⟩
  | refine ⟨_, rfl, ?_⟩
  | refine ⟨_, _, rfl, ?_⟩
  | refine ⟨_, _, _, rfl, ?_⟩
  | refine ⟨Nat.le_of_ble_eq_true rfl, ?_⟩
  | refine wAt_r rfl ?_
  | refine wB_t rfl ?_
  | refine wB_f rfl ?_)
theorem pick_sp {t : Int × Int} {many : Int} (ok : TapeOk t = true) (h0 : 0 < many) (h1 : many < 1000000000000000000000000000000) : wFT (F__law_pick t [.int many]) (fun v t' => TapeOk t' = true ∧ ∃ f : Nat, v = .fz (.int f) ∧ (f : Int) < many) (fun _ _ _ => False) := by
  obtain ⟨f, t', e, o, p, q⟩ := pick_eq ok h0 h1
  rw [e]
  exact ⟨rfl, o, f.toNat, by rw [Int.toNat_of_nonneg p], by omega⟩
theorem atI_lt {α : Type} {xs : List α} {f : Nat} (h : f < xs.length) : atI xs (f : Int) = some xs[f] := by
  have := atI_nat (List.getElem?_eq_getElem h)
  exact this
theorem one_of_sp {t : Int × Int} {ds : List D} (ok : TapeOk t = true) (h0 : ds ≠ []) (h1 : ds.length < 1000000000000) : wFT (F__law_one_of t [.list ds]) (fun v t' => TapeOk t' = true ∧ ∃ d ∈ ds, v = .fz d) (fun _ _ _ => False) := by
  refine wFT_go ?_
  unfold B__law_one_of
  repeat' decreasing_trivial_pre_omega
  have hl : 0 < ds.length := List.length_pos_iff.mpr h0
  refine wFT_use (pick_sp ok (by omega) (by omega)) (fun v t' ⟨o, f, e, hf⟩ => ?_)
  subst e
  repeat' decreasing_trivial_pre_omega
  refine wAt_r (atI_lt (by omega)) ?_
  exact ⟨rfl, t', rfl, o, _, List.getElem_mem _, rfl⟩
theorem one_of_txt {t : Int × Int} {l : List Nat} (ok : TapeOk t = true) (h0 : l ≠ []) (h1 : l.length ≤ 1000000) : wFT (F__law_one_of t [.str (tx l)]) (fun v t' => TapeOk t' = true ∧ ∃ c ∈ l, v = .fz (.str (tx [c]))) (fun _ _ _ => False) := by
  refine wFT_go ?_
  unfold B__law_one_of
  repeat' decreasing_trivial_pre_omega
  refine ⟨szb' h1, ?_⟩
  repeat' decreasing_trivial_pre_omega
  have hl : 0 < l.length := List.length_pos_iff.mpr h0
  refine wFT_use (pick_sp ok (by omega) (by omega)) (fun v t' ⟨o, f, e, hf⟩ => ?_)
  subst e
  repeat' decreasing_trivial_pre_omega
  refine ⟨szb' h1, wAt_r (atI_lt (by omega)) ?_⟩
  exact ⟨rfl, t', rfl, o, _, List.getElem_mem _, rfl⟩
instance : OfS "" [] := ⟨by decide⟩
theorem join0 (l : List Nat) : Txt.join (tx []) (l.map fun c => tx [c]) = tx l := by
  show Builtin.Str.glued (tx []) _ = _
  rw [StrLaws.glued_eq_join]
  have e0 : ∀ x : Str, tx [] ++ x = x := fun x => by
    show (⟨#[] ++ x.cps⟩ : Str) = x
    simp
  induction l with
  | nil => rfl
  | cons c l ih =>
    cases l with
    | nil => rfl
    | cons c' l =>
      show tx [c] ++ tx [] ++ Str.join (tx []) ((c' :: l).map fun c => tx [c]) = _
      rw [ih, tx_add, tx_add]; rfl
theorem strs_ltrs (l : List Nat) : strsD (ltrs l) = some (l.map fun c => tx [c]) := by
  induction l with
  | nil => rfl
  | cons c l ih =>
    show (strsD (ltrs l)).map _ = _
    rw [ih]; rfl
theorem sum_ones (l : List Nat) : ((l.map fun c => tx [c]).map (·.length)).sum = l.length := by
  induction l with
  | nil => rfl
  | cons c l ih =>
    rw [List.map_cons, List.map_cons, List.sum_cons, ih]
    simp [Nat.add_comm]
theorem cut_up {α : Type} (xs : List α) (b : Nat) : cutL xs none (some (b : Int)) = xs.take b := cut_to xs b
theorem repl_mem {l : List Nat} {n c : Nat} (h : c ∈ (List.replicate n l).flatten) : c ∈ l := by
  obtain ⟨m, h1, h2⟩ := List.mem_flatten.mp h
  rw [(List.mem_replicate.mp h1).2] at h2
  exact h2
theorem repl_len (l : List Nat) (n : Nat) : (List.replicate n l).flatten.length = n * l.length := by simp
theorem drawn_text_sp {t : Int × Int} {ls : List Nat} {most : Nat} (ok : TapeOk t = true) (h0 : ls ≠ []) (h1 : ls.length ≤ 1000) (hm : most ≤ 1000) :
    wFT (F__law_drawn_text t [.str (tx ls), .int (most : Nat)]) (fun v t' => TapeOk t' = true ∧ ∃ l : List Nat, v = .fz (.str (tx l)) ∧ l.length ≤ most ∧ ∀ c ∈ l, c ∈ ls) (fun _ _ _ => False) := by
  refine wFT_go ?_
  unfold B__law_drawn_text
  repeat' decreasing_trivial_pre_omega
  refine wFT_use (pick_sp ok (by omega) (by omega)) (fun v t1 ⟨o1, f, e, hf⟩ => ?_)
  subst e
  repeat' decreasing_trivial_pre_omega
  refine ⟨by omega, ?_⟩
  refine lc_go (fun i acc r => ∃ t' l, r = ⟨[some .tape, some (.fz (.str (tx ls))), some (.fz (.int (most : Nat))), none, none, none], some t'⟩ ∧ TapeOk t' = true ∧ acc = ltrs l ∧ l.length = i ∧ ∀ c ∈ l, c ∈ ls) ⟨t1, [], rfl, o1, rfl, rfl, by simp⟩ ?_ ?_
  · rintro i d acc r hd ⟨t', l, rfl, o, rfl, hl, hc⟩
    have hi : i < (rngL 0 ((f : Nat) : Int).toNat).length := (List.getElem?_eq_some_iff.mp hd).1
    have hi : i < f := by simpa [rngL] using hi
    unfold _law_drawn_text_e1
    repeat' decreasing_trivial_pre_omega
    refine wFT_use (one_of_txt o h0 (by omega)) (fun v t2 ⟨o2, c, hc2, e⟩ => ?_)
    subst e
    repeat' decreasing_trivial_pre_omega
    refine ⟨szl' (by rw [ltrs_len]; omega), ?_⟩
    repeat' decreasing_trivial_pre_omega
    refine ⟨t2, l ++ [c], rfl, o2, by simp [ltrs], by simp [hl], fun c' h' => ?_⟩
    rcases List.mem_append.mp h' with h' | h'
    · exact hc c' h'
    · rw [List.mem_singleton.mp h']; exact hc2
  · rintro acc r ⟨t', l, rfl, o, rfl, hl, hc⟩
    have hl : l.length = f := by simpa [rngL] using hl
    repeat' decreasing_trivial_pre_omega
    refine ⟨_, strs_ltrs l, by rw [sum_ones]; simp; omega, ?_⟩
    rw [join0]
    repeat' decreasing_trivial_pre_omega
    refine wFT_use (pick_sp o (by omega) (by omega)) (fun v t2 ⟨o2, g, e, hg⟩ => ?_)
    subst e
    repeat' decreasing_trivial_pre_omega
    refine wB_d (fun hg0 => ?_) (fun hg0 => ?_)
    · repeat' decreasing_trivial_pre_omega
      refine ⟨szb' (by omega), ?_⟩
      repeat' decreasing_trivial_pre_omega
      refine wB_d (fun hl1 => ?_) (fun hl1 => ?_)
      · repeat' decreasing_trivial_pre_omega
        refine wFT_use (pick_sp o2 (by omega) (by omega)) (fun v t3 ⟨o3, k, e, hk⟩ => ?_)
        subst e
        repeat' decreasing_trivial_pre_omega
        refine ⟨szb' (by omega), ?_⟩
        have ek : (1 : Int) + (k : Int) = ((1 + k : Nat) : Int) := by omega
        rw [ek, cut_up]
        repeat' decreasing_trivial_pre_omega
        refine ⟨szb' (by omega), ?_⟩
        repeat' decreasing_trivial_pre_omega
        have h4 : (l.take (1 + k)).length * l.length ≤ 4 * 1000 := Nat.mul_le_mul (by rw [List.length_take]; omega) (by omega)
        refine ⟨⟨szb' (by rw [Int.toNat_natCast]; omega), by omega, by omega⟩, ?_⟩
        rw [Int.toNat_natCast]
        repeat' decreasing_trivial_pre_omega
        refine ⟨szb' (by omega), ?_⟩
        repeat' decreasing_trivial_pre_omega
        refine ⟨szb' (by rw [repl_len, Nat.mul_comm]; omega), ?_⟩
        rw [cut_up]
        repeat' decreasing_trivial_pre_omega
        refine ⟨o3, _, rfl, by rw [List.length_take]; omega, fun c hc' => hc c ?_⟩
        exact List.mem_of_mem_take (repl_mem (List.mem_of_mem_take hc'))
      · repeat' decreasing_trivial_pre_omega
        exact ⟨o2, l, rfl, by omega, hc⟩
    · repeat' decreasing_trivial_pre_omega
      exact ⟨o2, l, rfl, by omega, hc⟩
/-- what is left of p behind a walk through l -/
def remL : List Nat → List Nat → List Nat
  | _, [] => []
  | [], p => p
  | b :: l, a :: p => if a = b then remL l p else remL l (a :: p)
end QM
namespace QM
open PySem PySem.Spec L2 QL QP
local macro_rules | `(tactic| decreasing_trivial_pre_omega) => `(tactic| first
  | apply QM.Step.go
  | refine ⟨rfl, ?_⟩
  | refine ⟨⟨rfl, rfl⟩, ?_⟩
  | refine ⟨_, rfl, ?_⟩
  | refine ⟨_, _, rfl, ?_⟩
  | refine ⟨_, _, _, rfl, ?_⟩
  | refine ⟨Nat.le_of_ble_eq_true rfl, ?_⟩
  | refine wAt_r rfl ?_
  | refine wB_t rfl ?_
  | refine wB_f rfl ?_)
inductive Sy where
  | has (p : List Nat) | no (s : Sy) | an (s t : Sy) | or (s t : Sy)
instance : OfS "has" [104, 97, 115] := ⟨by decide +kernel⟩
instance : OfS "not" [110, 111, 116] := ⟨by decide +kernel⟩
instance : OfS "and" [97, 110, 100] := ⟨by decide +kernel⟩
instance : OfS "or" [111, 114] := ⟨by decide +kernel⟩
def Sy.d : Sy → D
  | .has p => .tuple [.str (tx [104, 97, 115]), .str (tx p)]
  | .no s => .tuple [.str (tx [110, 111, 116]), s.d]
  | .an s t => .tuple [.str (tx [97, 110, 100]), s.d, t.d]
  | .or s t => .tuple [.str (tx [111, 114]), s.d, t.d]
def Sy.deep : Sy → Nat
  | .has _ => 1
  | .no s => s.deep + 1
  | .an s t => max s.deep t.deep + 1
  | .or s t => max s.deep t.deep + 1
def Sy.ok : Sy → Prop
  | .has p => Tx p ∧ p.length ≤ 1000
  | .no s => s.ok
  | .an s t => s.ok ∧ t.ok
  | .or s t => s.ok ∧ t.ok
def Sy.kept (l : List Nat) : Sy → Bool
  | .has p => decide (remL l p = [])
  | .no s => !s.kept l
  | .an s t => s.kept l && t.kept l
  | .or s t => s.kept l || t.kept l
theorem Sy.pos (s : Sy) : 1 ≤ s.deep := by cases s <;> simp [Sy.deep]
theorem is_text_R {l : List Nat} (hl : l.length ≤ 1000000) : Ret (F_is_text [.str (tx l)]) (.fz (.bool (decide (Tx l)))) := Ret.of_eq (is_text_eq l (szb' hl))
theorem is_saying_in_R : ∀ (n : Nat) (s : Sy) (k : Nat), s.ok → s.deep ≤ k → k ≤ n → Ret (R_is_saying_in (n + 1) [s.d, .int (k : Nat)]) (.fz (.bool true)) := by
  intro n
  induction n with
  | zero => exact fun s k _ h1 h2 => absurd (Nat.le_trans s.pos (Nat.le_trans h1 h2)) (by decide)
  | succ n ih =>
    intro s k ok h1 h2
    have hk := Nat.le_trans s.pos h1
    have hkz : ((k : Nat) : Int) ≠ 0 := by omega
    have hk1 : ((k : Nat) : Int) - 1 = ((k - 1 : Nat) : Int) := by omega
    show Ret (bodyF 2 (B_is_saying_in (R_is_saying_in (n + 1))) [s.d, .int (k : Nat)]) _
    refine Ret.go ?_
    unfold B_is_saying_in
    cases s with
    | has p =>
      simp only [Sy.d]
      repeat' decreasing_trivial_pre_omega
      refine wB_f (decide_eq_false hkz) ?_
      repeat' decreasing_trivial_pre_omega
      refine wF_ret (is_text_R (Nat.le_trans ok.2 (by decide))) ?_
      exact ⟨rfl, by simp [ok.1]⟩
    | no s =>
      simp only [Sy.d]
      repeat' decreasing_trivial_pre_omega
      refine wB_f (decide_eq_false hkz) ?_
      repeat' decreasing_trivial_pre_omega
      rw [hk1]
      refine wF_ret (ih s (k - 1) ok (by simp only [Sy.deep] at h1; omega) (by omega)) ?_
      exact ⟨rfl, rfl⟩
    | an s t =>
      simp only [Sy.d]
      simp only [Sy.deep] at h1
      repeat' decreasing_trivial_pre_omega
      refine wB_f (decide_eq_false hkz) ?_
      repeat' decreasing_trivial_pre_omega
      rw [hk1]
      refine wF_ret (ih s (k - 1) ok.1 (by omega) (by omega)) ?_
      repeat' decreasing_trivial_pre_omega
      rw [hk1]
      refine wF_ret (ih t (k - 1) ok.2 (by omega) (by omega)) ?_
      exact ⟨rfl, rfl⟩
    | or s t =>
      simp only [Sy.d]
      simp only [Sy.deep] at h1
      repeat' decreasing_trivial_pre_omega
      refine wB_f (decide_eq_false hkz) ?_
      repeat' decreasing_trivial_pre_omega
      rw [hk1]
      refine wF_ret (ih s (k - 1) ok.1 (by omega) (by omega)) ?_
      repeat' decreasing_trivial_pre_omega
      rw [hk1]
      refine wF_ret (ih t (k - 1) ok.2 (by omega) (by omega)) ?_
      exact ⟨rfl, rfl⟩
theorem is_saying_R {s : Sy} (ok : s.ok) (h : s.deep ≤ 10) : Ret (F_is_saying [s.d]) (.fz (.bool true)) := by
  refine Ret.go ?_
  unfold B_is_saying
  repeat' decreasing_trivial_pre_omega
  refine wF_ret (is_saying_in_R 11 s 10 ok h (by decide)) ?_
  exact ⟨rfl, rfl⟩
end QM
namespace QM
open PySem PySem.Spec L2 QL QP
section
variable {P : SV → S → Prop} {PD : D → S → Prop} {PL : List D → S → Prop} {PP : List (D × D) → S → Prop} {X : XPo} {r : S} {p : Po} {fa fb fc fk fv : S → Res D} {F : S → Res (List (D × D))} {FL : S → Res (List D)}
  {op op2 : D → D → Option OV} {i j : Nat} {a b : Int} {sl : List (Option SV)} {tp : Option (Int × Int)} {ds es : List D} {l m : List Nat}
instance : Step (wE (fChain op op2 fa fb fc r) P X) (wE (fa r) (fun x r => wE (fb r) (fun y r => wO (op x y) r fun v r => wV v fun d => wBo d fun b => wB b (wE (fc r) (fun z r => wO (op2 y z) r P) X) (P (.fz (.bool false)) r)) X) X) := ⟨fun h => wE_bind (wE_mono h fun x r h => wE_bind (wE_mono h fun y r h => by
  obtain ⟨z, e, d, e2, b, e3, h⟩ := h
  subst e3
  have ez : z = .fz (.bool b) := by
    cases z with
    | fz d => cases e2; rfl
    | nl d => cases e2
    | nt d => cases e2
    | nd d => cases e2
  subst ez
  rw [e]
  cases b with
  | true => exact wE_bind (wE_mono (h.1 rfl) fun _ _ h => wO_ov h)
  | false => exact h.2 rfl))⟩
instance : Step (wO (dPow (.int a) (.int b)) r P) ((0 ≤ b ∧ (bitsI a : Int) * b ≤ 2 ^ 27) ∧ P (.fz (.int (a ^ b.toNat))) r) := ⟨fun q => wO_of (z' := .fz (.int (a ^ b.toNat))) (by unfold dPow; exact if_pos q.1) q.2⟩
instance : Step (wE (pNil r) PP X) (PP [] r) := ⟨id⟩
instance : Step (wE (pCons fk fv F r) PP X) (wE (fk r) (fun k r => wE (fv r) (fun v r => wE (F r) (fun ps r => PP ((k, v) :: ps) r) X) X) X) := ⟨fun h => wE_bind (wE_mono h fun _ _ h => wE_bind (wE_mono h fun _ _ h => wE_bind (wE_mono h fun _ _ h => h)))⟩
instance : Step (wE (eDisp F r) P X) (wE (F r) (fun ps r => ∃ cs, keysD ps = some cs ∧ ps.length ≤ 15 ∧ P (.od (mergeD [] cs)) r) X) := ⟨fun h => wE_bind (wE_mono h fun ps r h => by
  obtain ⟨cs, e, hl, h⟩ := h
  rw [e]
  show wE (if ps.length ≤ 15 then _ else _) P X
  rw [if_pos hl]; exact h)⟩
instance : Step (wE (eDispT F r) P X) (wE (F r) (fun ps r => ∃ cs, keysDT ps = some cs ∧ ps.length ≤ 15 ∧ P (.ot (mergeDT [] cs)) r) X) := ⟨fun h => wE_bind (wE_mono h fun ps r h => by
  obtain ⟨cs, e, hl, h⟩ := h
  rw [e]
  show wE (if ps.length ≤ 15 then _ else _) P X
  rw [if_pos hl]; exact h)⟩
def wPp (xs : List D) (k : Int) (Q : D → List D → Prop) : Prop := False ∨ ∃ q, popD xs k = some q ∧ Q q.1 q.2
instance {fe : S → Res D} : Step (wE (fPop j fe ⟨sl, tp⟩) PD X) (wL sl j fun x => wA x fun _ => wE (fe ⟨sl, tp⟩) (fun d r => wIn d fun k => wL r.sl j fun x => wA x fun xs => wPp xs k fun d xs' => wU r.sl j (some (.ol xs')) fun sl => wRS sl r.tp fun r => PD d r) X) := ⟨fun ⟨x, e, xs0, e1, h⟩ => by
  subst e1
  unfold fPop
  try dsimp only
  rw [e]
  refine wE_bind (wE_mono h fun d r h => ?_)
  obtain ⟨k, e2, y, e3, xs, e4, h | ⟨q, e5, e6, h⟩⟩ := h
  · exact h.elim
  subst e2 e4
  try dsimp only
  rw [e3]
  try dsimp only
  rw [e5]
  exact h⟩
instance : Step (wE (fZip FL r) PL X) (wE (FL r) (fun ds r => ∃ x y, ds = [x, y] ∧ wIt x fun ds => wIt y fun es => PL (zipL ds es) r) X) := ⟨fun h => wE_bind (wE_mono h fun ds r h => by
  obtain ⟨x, y, e, ds, e2, es, e3, h⟩ := h
  subst e
  show wE (match itemsD x, itemsD y with
    | some ds, some es => Res.ok (zipL ds es) r
    | _, _ => Res.bad) PL X
  rw [e2, e3]
  exact h)⟩
instance : Step (wO (dSortA [.list ds]) r P) (∃ ys, strsD ds = some ys ∧ P (.ol ((sortS ys).map .str)) r) := ⟨fun ⟨ys, e, q⟩ => wO_of (z' := .nl ((sortS ys).map .str)) (by
  unfold dSortA
  dsimp only
  rw [e]) q⟩
instance : Step (wO (dTupA [.list ds]) r P) (P (.fz (.tuple ds)) r) := ⟨wO_of (z' := .nt _) rfl⟩
instance : Step (wO (dTupA [.tuple ds]) r P) (P (.fz (.tuple ds)) r) := ⟨fun q => ⟨.fz _, rfl, q⟩⟩
instance : Step (wO (dTupA [.str (tx l)]) r P) (l.length ≤ sizeLine ∧ P (.fz (.tuple (ltrs l))) r) := ⟨fun q => wO_of (z' := .nt (ltrs l)) (by
  unfold dTupA
  dsimp only
  rw [tx_len', if_pos q.1]; rfl) q.2⟩
end
end QM
namespace QM
open PySem PySem.Spec L2 QL QP
local macro_rules | `(tactic| decreasing_trivial_pre_omega) => `(tactic| first
  | apply QM.Step.go
  | refine ⟨rfl, ?_⟩
  | refine ⟨⟨rfl, rfl⟩, ?_⟩
  | refine ⟨_, rfl, ?_⟩
  | refine ⟨_, _, rfl, ?_⟩
  | refine ⟨_, _, _, rfl, ?_⟩
  | refine ⟨Nat.le_of_ble_eq_true rfl, ?_⟩
  | refine wAt_r rfl ?_
  | refine wB_t rfl ?_
  | refine wB_f rfl ?_)
theorem eqv_nil (xs : List D) : PyData.eqv (.list xs) (.list []) = xs.isEmpty := by
  cases xs <;> rfl
end QM
namespace QM
open PySem PySem.Spec L2 QL QP
local macro_rules | `(tactic| decreasing_trivial_pre_omega) => `(tactic| first
  | apply QM.Step.go
  | refine ⟨rfl, ?_⟩
  | refine ⟨⟨rfl, rfl⟩, ?_⟩
  | refine ⟨_, rfl, ?_⟩
  | refine ⟨_, _, rfl, ?_⟩
  | refine ⟨_, _, _, rfl, ?_⟩
  | refine ⟨Nat.le_of_ble_eq_true rfl, ?_⟩
  | refine wAt_r rfl ?_
  | refine wB_t rfl ?_
  | refine wB_f rfl ?_)
theorem lt_one (a b : Nat) : decide ([a] < [b]) = decide (a < b) := by
  apply decide_eq_decide.mpr
  constructor
  · intro h
    cases h with
    | rel h => exact h
    | cons h => cases h
  · exact fun h => List.Lex.rel h
def NotS : D → Prop
  | .str _ => False
  | _ => True
theorem is_text_no {d : D} (h : NotS d) : Ret (F_is_text [d]) (.fz (.bool false)) := by
  refine Ret.go ?_
  unfold B_is_text
  cases d with
  | str z => exact h.elim
  | _ =>
    repeat' decreasing_trivial_pre_omega
    rfl
end QM
namespace QM
open PySem PySem.Spec L2 QL QP
local macro_rules | `(tactic| decreasing_trivial_pre_omega) => `(tactic| first
  | apply QM.Step.go
  | refine ⟨rfl, ?_⟩
  | refine ⟨⟨rfl, rfl⟩, ?_⟩
  | refine ⟨_, rfl, ?_⟩
  | refine ⟨_, _, rfl, ?_⟩
  | refine ⟨_, _, _, rfl, ?_⟩
  | refine ⟨Nat.le_of_ble_eq_true rfl, ?_⟩
  | refine wAt_r rfl ?_
  | refine wB_t rfl ?_
  | refine wB_f rfl ?_)
instance : OfS "abcxz" [97, 98, 99, 120, 122] := ⟨by decide +kernel⟩
end QM
namespace QM
open PySem PySem.Spec L2 QL QP
/-- a def that raises -/
def Thr (x : FR) (c : Str) (f : List (Str × D)) : Prop := ∃ tp, x = .exc c f tp
section
variable {x : FR} {c v : Str} {f : List (Str × D)} {P : SV → Prop} {X : Str → List (Str × D) → Prop} {n : Nat} {B : S → RS} {ds : List D} {xs : List SV} {sl : List (Option SV)} {p : Po} {r : S} {fe : S → Res D} {tp : Option (Int × Int)} {PV : SV → S → Prop} {XV : XPo} {FB : S → Res SV} {hs : List HM} {PT : Addr}
theorem wF_thr (h : Thr x c f) (q : X c f) : wF x P X := by
  obtain ⟨tp, e⟩ := h
  rw [e]; exact q
theorem Thr.of_w (h : wF x (fun _ => False) (fun c' f' => c' = c ∧ f' = f)) : Thr x c f := by
  cases x with
  | ok y t => exact h.2.elim
  | exc c' f' t => obtain ⟨a, b⟩ := h; subst a b; exact ⟨t, rfl⟩
  | bad => exact h.elim
theorem Thr.go [f' : Fz ds xs] [m : Mk n xs sl] (h : wS (B ⟨sl, none⟩) ⟨fun _ => False, fun x _ => x.out = true ∧ False, fun _ => False, fun _ => False, fun c' f' _ => c' = c ∧ f' = f⟩) : Thr (bodyF n B ds) c f := Thr.of_w (wF_go h)
instance : Step (wS (sRaise c v fe r) p) (wE (fe r) (fun d r => p.ex c [(v, d)] r) p.ex) := ⟨fun h => wE_bindS (wE_mono h fun _ _ h => h)⟩
def wTell (hs : List HM) (c : Str) (f : List (Str × D)) (Q : List D → Prop) : Prop := False ∨ ∃ ds, tellR hs c f = some ds ∧ Q ds
theorem wTell_r {Q : List D → Prop} {ds : List D} (h : tellR hs c f = some ds) (q : Q ds) : wTell hs c f Q := .inr ⟨ds, h, q⟩
def wScr (x : SV) (PT : Addr) (Q : Prop) : Prop := ∃ T, x = .scr T ∧ PT ∈ T ∧ Q
instance {Q : Prop} : Step (wScr (.scr [PT]) PT Q) Q := ⟨fun q => ⟨_, rfl, by simp, q⟩⟩
instance : Step (wE (fRef PT hs FB ⟨sl, tp⟩) PV XV) (wL sl 0 fun x => wScr x PT (wE (FB ⟨sl, tp⟩) (fun _ r => PV (.ol []) r) (fun c f r => wTell hs c f fun ds => PV (.ol ds) r))) := ⟨fun ⟨x, e, T, e2, hT, h⟩ => by
  subst e2
  unfold fRef
  dsimp only
  rw [e]
  dsimp only
  rw [if_pos hT]
  cases e3 : FB ⟨sl, tp⟩ with
  | ok y r => rw [e3] at h; exact h
  | bad => rw [e3] at h; exact h
  | exc c f r =>
    rw [e3] at h
    rcases h with h | ⟨ds, e4, h⟩
    · exact h.elim
    · unfold refIn
      dsimp only
      rw [e4]
      exact h⟩
end
end QM
namespace QM
open PySem PySem.Spec L2 QL QP
def sml (d : D) : Bool := d.showable && decide (d.depth ≤ 50) && d.leavesShort 40 && decide (d.weight ≤ 10000)
theorem sml_tx {l : List Nat} (h : l.length ≤ 1000) (hc : ∀ c ∈ l, c < 16 ^ 8) : sml (.str (tx l)) = true := by
  unfold sml
  simp only [Bool.and_eq_true, decide_eq_true_eq]
  refine ⟨⟨⟨rfl, by simp [PyData.depth]⟩, ?_⟩, ?_⟩
  · show (tx l).cps.toList.all _ = true
    simp only [List.all_eq_true, decide_eq_true_eq]
    intro c hcm
    exact hc c (by simpa [tx] using hcm)
  · simp [PyData.weight, tx]
    omega
instance : Step (wO (dReprA [d]) r P) (showA d = true ∧ P (.fz (.str d.shown)) r) := ⟨fun q => wO_of (z' := .fz (.str d.shown)) (by
  show (if showA d = true then _ else _) = _
  rw [if_pos q.1]) q.2⟩
end QM
namespace QM
open PySem PySem.Spec L2 QL QP
local macro_rules | `(tactic| decreasing_trivial_pre_omega) => `(tactic| first
  | apply QM.Step.go
  | refine ⟨rfl, ?_⟩
  | refine ⟨⟨rfl, rfl⟩, ?_⟩
  | refine ⟨_, rfl, ?_⟩
  | refine ⟨_, _, rfl, ?_⟩
  | refine ⟨_, _, _, rfl, ?_⟩
  | refine ⟨Nat.le_of_ble_eq_true rfl, ?_⟩
  | refine ⟨⟨Nat.le_of_ble_eq_true rfl, by decide, by decide⟩, ?_⟩
  | refine wAt_r rfl ?_
  | refine wB_t rfl ?_
  | refine wB_f rfl ?_)
def wOd (x : SV) (Q : List (D × D) → Prop) : Prop := ∃ kvs, x = .od kvs ∧ Q kvs
def wKey (k : D) (Q : Key → Prop) : Prop := ∃ c, keyD k = some c ∧ Q c
section
variable {P : SV → S → Prop} {X : XPo} {r : S} {p : Po} {fv fk : S → Res D} {i : Nat} {sl : List (Option SV)} {tp : Option (Int × Int)}
instance {Q : List (D × D) → Prop} {kvs : List (D × D)} : Step (wOd (.od kvs) Q) (Q kvs) := ⟨fun q => ⟨_, rfl, q⟩⟩
instance {Q : Key → Prop} {a : Int} : Step (wKey (.int a) Q) (Q (.inl a)) := ⟨fun q => ⟨_, rfl, q⟩⟩
instance {Q : Key → Prop} {z : Str} : Step (wKey (.str z) Q) (Q (.inr z)) := ⟨fun q => ⟨_, rfl, q⟩⟩
instance : Step (wS (sPutK i fv fk r) p) (wE (fv r) (fun v r => wL r.sl i fun x => wOd x fun _ => wE (fk r) (fun k r => wKey k fun c => wL r.sl i fun x => wOd x fun kvs => kvs.length < sizeLine ∧ wU r.sl i (some (.od (putD kvs c v))) fun sl => wRS sl r.tp p.nx) p.ex) p.ex) := ⟨fun h => wE_bindS (wE_mono h fun v r h => by
  obtain ⟨x, e, kvs, e2, h⟩ := h
  subst e2
  rw [e]
  refine wE_bindS (wE_mono h fun k r h => ?_)
  obtain ⟨c, e3, x, e4, kvs, e5, hl, h⟩ := h
  subst e5
  rw [e3, e4]
  show wS (if kvs.length < sizeLine then _ else _) p
  rw [if_pos hl]
  exact h.2)⟩
instance : Step (wE (fLenK i ⟨sl, tp⟩) P X) (wL sl i fun x => wOd x fun kvs => P (.fz (.int (kvs.length : Nat))) ⟨sl, tp⟩) := ⟨fun ⟨x, e, kvs, e2, h⟩ => by
  subst e2
  unfold fLenK
  dsimp only
  rw [e]
  exact h⟩
instance {PL : List D → S → Prop} {l : List Nat} [h : Get sl i (some (.fz (.str (tx l))))] : Step (wE (fEnum (aCons (fV i) aNil) ⟨sl, tp⟩) PL X) (PL (enumL (ltrs l)) ⟨sl, tp⟩) := ⟨fun q => Step.go (Step.go (Step.go (Step.go ⟨_, _, rfl, .inr ⟨_, rfl, rfl⟩, q⟩)))⟩
end
abbrev Pn (q : S → Prop) : Po := ⟨q, fun _ _ => False, fun _ => False, fun _ => False, XN⟩
theorem cutP {x : RS} {p : Po} {q : S → Prop} (h : wS x (Pn q)) (k : ∀ s, q s → p.nx s) : wS x p := wS_mono h k (fun _ _ z => z.elim) (fun _ z => z.elim) (fun _ z => z.elim) (fun _ _ _ z => z.elim)
theorem seqP {A B : S → RS} {r : S} {q : S → Prop} {p : Po} (h : wS (A r) (Pn q)) (k : ∀ s, q s → wS (B s) p) : wS (sSeq A B r) p := wS_go (cutP h k)
theorem eqv_refl_str {x : Str} : PyData.eqv (.str x) (.str x) = true := by rw [eqv_str]; simp
theorem one_all {Pb : D → Bool} {t : Int × Int} {ds : List D} (ok : TapeOk t = true) (hall : ds.all Pb = true) (h0 : ds ≠ []) (h1 : ds.length < 1000000000000) : wFT (F__law_one_of t [.list ds]) (fun v t' => TapeOk t' = true ∧ ∃ d, v = .fz d ∧ Pb d = true) (fun _ _ _ => False) :=
  wFT_use (one_of_sp ok h0 h1) fun v t' ⟨o, d, hd, e⟩ => ⟨o, d, e, List.all_eq_true.mp hall d hd⟩
/-- a thing that weighs little -/
def tiny (d : D) : Bool := sml d && decide (d.depth ≤ 40) && decide (d.weight ≤ 1000)
theorem tiny_of {d : D} (h : tiny d = true) : sml d = true ∧ d.depth ≤ 40 ∧ d.weight ≤ 1000 := by
  unfold tiny at h
  simp only [Bool.and_eq_true, decide_eq_true_eq] at h
  exact ⟨h.1.1, h.1.2, h.2⟩
theorem tiny_tx {l : List Nat} (h : l.length ≤ 200) (hc : ∀ c ∈ l, c < 16 ^ 8) : tiny (.str (tx l)) = true := by
  unfold tiny
  simp only [Bool.and_eq_true, decide_eq_true_eq]
  refine ⟨⟨sml_tx (by omega) hc, by simp [PyData.depth]⟩, ?_⟩
  simp [PyData.weight, tx]
  omega
abbrev Good (d : D) : Prop := Ret (F_is_text [d]) (.fz (.bool true))
theorem good_tx {l : List Nat} (hl : l.length ≤ 1000000) (h : Tx l) : Good (.str (tx l)) := by
  have := is_text_R hl
  rwa [decide_eq_true h] at this
instance : OfS "a" [97] := ⟨by decide +kernel⟩
instance : OfS "b" [98] := ⟨by decide +kernel⟩
instance : OfS "A" [65] := ⟨by decide +kernel⟩
instance : OfS "-" [45] := ⟨by decide +kernel⟩
instance : OfS "1" [49] := ⟨by decide +kernel⟩
instance : OfS "a1" [97, 49] := ⟨by decide +kernel⟩
instance : OfS "a b" [97, 32, 98] := ⟨by decide +kernel⟩
instance : OfS "ab" [97, 98] := ⟨by decide +kernel⟩
instance : OfS "ba" [98, 97] := ⟨by decide +kernel⟩
instance : OfS "aa" [97, 97] := ⟨by decide +kernel⟩
instance : OfS "aba" [97, 98, 97] := ⟨by decide +kernel⟩
instance : OfS "abc" [97, 98, 99] := ⟨by decide +kernel⟩
instance : OfS "text" [116, 101, 120, 116] := ⟨by decide +kernel⟩
instance : OfS "letters" [108, 101, 116, 116, 101, 114, 115] := ⟨by decide +kernel⟩
end QM
namespace QM
open PySem PySem.Spec L2 QL QP
/-- behind the first places of p from s on -/
def adv (l : List Nat) : List Nat → Nat → Option Nat
  | [], s => some s
  | c :: p, s => (nxt l c s).bind fun k => adv l p (k + 1)
theorem adv_snoc (l : List Nat) (c : Nat) : ∀ (p : List Nat) (s : Nat), adv l (p ++ [c]) s = (adv l p s).bind fun k => (nxt l c k).map (· + 1)
  | [], s => by
    show ((nxt l c s).bind fun k => some (k + 1)) = (nxt l c s).map (· + 1)
    cases nxt l c s <;> rfl
  | a :: p, s => by
    show ((nxt l a s).bind fun k => adv l (p ++ [c]) (k + 1)) = ((nxt l a s).bind fun k => adv l p (k + 1)).bind _
    cases nxt l a s with
    | none => rfl
    | some k => exact adv_snoc l c p (k + 1)
theorem sub_lenA {α : Type} [DecidableEq α] : ∀ {S ls : List α}, S.Nodup → (∀ c ∈ S, c ∈ ls) → S.length ≤ ls.length
  | [], _, _, _ => Nat.zero_le _
  | c :: S, ls, hn, h => by
    have hc := h c (List.mem_cons_self ..)
    have ih := sub_lenA (S := S) (ls := ls.erase c) (List.nodup_cons.mp hn).2 fun d hd => by
      have : d ≠ c := fun e => (List.nodup_cons.mp hn).1 (e ▸ hd)
      exact (List.mem_erase_of_ne this).mpr (h d (List.mem_cons_of_mem _ hd))
    rw [List.length_erase_of_mem hc] at ih
    have := List.length_pos_of_mem hc
    simp only [List.length_cons]
    omega
end QM
namespace QM
open PySem PySem.Spec L2 QL QP
local macro_rules | `(tactic| decreasing_trivial_pre_omega) => `(tactic| first
  | apply QM.Step.go
  | refine ⟨rfl, ?_⟩
  | refine ⟨⟨rfl, rfl⟩, ?_⟩
  | refine ⟨_, rfl, ?_⟩
  | refine ⟨_, _, rfl, ?_⟩
  | refine ⟨_, _, _, rfl, ?_⟩
  | refine ⟨Nat.le_of_ble_eq_true rfl, ?_⟩
  | refine ⟨⟨Nat.le_of_ble_eq_true rfl, by decide, by decide⟩, ?_⟩
  | refine wAt_r rfl ?_
  | refine wB_t rfl ?_
  | refine wB_f rfl ?_)
theorem cut_fr {α : Type} (xs : List α) (b : Nat) : cutL xs (some (b : Int)) none = xs.drop b := by
  unfold cutL
  rw [HT.sIx_nat, HT.sIx_none]
  by_cases h : b ≤ xs.length
  · rw [Nat.min_eq_left h, List.take_of_length_le (by rw [List.length_drop]; exact Nat.le_refl _)]
  · rw [Nat.min_eq_right (by omega), Nat.sub_self, List.take_zero, List.drop_of_length_le (by omega)]
instance {n : Nat} {b : Int} {A : Prop} : Step (wRg 0 ((n : Nat) + b) A) ((0 ≤ b ∧ (n : Int) + b ≤ 1000000) ∧ A) := ⟨fun h => ⟨by
  have e : ((n : Nat) : Int) + b = ((n + b.toNat : Nat) : Int) := by omega
  rw [e]
  exact rgOk_small (n := 0) (by decide) (by omega), h.2⟩⟩
instance {n : Nat} {b : Int} {A : Prop} : Step (wSm ((n : Nat) + b) A) ((0 ≤ b ∧ (n : Int) + b ≤ 1000000) ∧ A) := ⟨fun h => ⟨by
  have e : ((n : Nat) : Int) + b = ((n + b.toNat : Nat) : Int) := by omega
  rw [e]
  exact sml_small (by omega), h.2⟩⟩
theorem eqv_txs (a b : List Nat) : PyData.eqv (.str (tx a)) (.str (tx b)) = decide (a = b) := by rw [eqv_str, tx_dec]
abbrev seenP (K : List (List Nat)) : List (D × D) := K.map fun p => (.str (tx p), .bool true)
instance {K : List (List Nat)} : NoOb (seenP K) := ⟨by cases K <;> rfl⟩
instance {α : Type} {K : List α} {f : α → Str} {g : α → D} : NoOb (K.map fun p => (PyData.str (f p), g p)) := ⟨by cases K <;> rfl⟩
instance {α : Type} {K : List α} {f : α → List D} {g : α → D} : NoOb (K.map fun p => (PyData.tuple (f p), g p)) := ⟨by cases K <;> rfl⟩
end QM
namespace QM
open PySem PySem.Spec L2 QL QP
/-- the way ahead of a place -/
def wv (l : List Nat) (i : Nat) : Int := wstep l (waysTo l i) i (l.getD i 0)
theorem waysTo_map (l : List Nat) : ∀ n, waysTo l n = (List.range n).map (wv l)
  | 0 => rfl
  | n + 1 => by
    rw [waysTo, waysTo_map l n, List.range_succ, List.map_append]
    show (List.range n).map (wv l) ++ [wstep l ((List.range n).map (wv l)) n (l.getD n 0)] = (List.range n).map (wv l) ++ [wv l n]
    unfold wv
    rw [waysTo_map l n]
    rfl
theorem wv_eq (l : List Nat) (i : Nat) : wv l i = match prv l (l.getD i 0) i with
    | none => 1
    | some k => 1 + minI (((List.range i).map (wv l)).drop k) := by
  show wstep l (waysTo l i) i (l.getD i 0) = _
  rw [waysTo_map]
  rfl
theorem drop_range_mem {i k j : Nat} : j ∈ (List.range i).drop k ↔ k ≤ j ∧ j < i := by
  rw [List.range_eq_range', List.drop_range', List.mem_range']
  constructor
  · rintro ⟨n, h1, h2⟩; omega
  · rintro ⟨h1, h2⟩; exact ⟨j - k, by omega, by omega⟩
theorem snoc_cases {α : Type} (q : List α) : q = [] ∨ ∃ p c, q = p ++ [c] := by
  rcases List.eq_nil_or_concat q with h | ⟨p, c, h⟩
  · exact .inl h
  · exact .inr ⟨p, c, by rw [h, List.concat_eq_append]⟩
theorem getD_some {l : List Nat} {i : Nat} (h : i < l.length) : l[i]? = some (l.getD i 0) := by
  rw [List.getD_eq_getElem?_getD, List.getElem?_eq_getElem h]; rfl
/-- the least of the pieces whose first places end there -/
theorem wv_spec (l : List Nat) : ∀ i, i < l.length → (∃ q : List Nat, (q.length : Int) = wv l i ∧ adv l q 0 = some (i + 1)) ∧ ∀ q, adv l q 0 = some (i + 1) → wv l i ≤ q.length := by
  intro i
  induction i using Nat.strongRecOn with
  | ind i ih =>
    intro hi
    have hg := getD_some hi
    rw [wv_eq]
    cases e : prv l (l.getD i 0) i with
    | none =>
      have pn := prv_none e
      constructor
      · refine ⟨[l.getD i 0], rfl, ?_⟩
        show ((nxt l (l.getD i 0) 0).bind fun k => some (k + 1)) = _
        rw [nxt_is (Nat.zero_le _) hg fun j _ hj => pn j hj]; rfl
      · intro q hq
        rcases snoc_cases q with rfl | ⟨p, c, rfl⟩
        · cases hq
        · show (1 : Int) ≤ _
          simp only [List.length_append, List.length_cons, List.length_nil]; omega
    | some k =>
      obtain ⟨p1, p2, p3⟩ := prv_some e
      have ne : (((List.range i).map (wv l)).drop k) ≠ [] := by
        intro z
        have := congrArg List.length z
        simp at this
        omega
      constructor
      · have hm := minI_mem ne
        rw [← List.map_drop] at hm
        obtain ⟨j, hj, ej⟩ := List.mem_map.mp hm
        obtain ⟨j1, j2⟩ := drop_range_mem.mp hj
        obtain ⟨⟨q, hq1, hq2⟩, _⟩ := ih j j2 (by omega)
        refine ⟨q ++ [l.getD i 0], ?_, ?_⟩
        · show ((q ++ [l.getD i 0]).length : Int) = 1 + minI (((List.range i).map (wv l)).drop k)
          rw [← List.map_drop, ← ej, ← hq1]
          simp only [List.length_append, List.length_cons, List.length_nil]; omega
        · rw [adv_snoc, hq2]
          show (nxt l (l.getD i 0) (j + 1)).map (· + 1) = _
          rw [nxt_is (by omega) hg fun m a b => p3 m (by omega) b]; rfl
      · intro q hq
        rcases snoc_cases q with rfl | ⟨p, c, rfl⟩
        · cases hq
        · rw [adv_snoc] at hq
          cases es : adv l p 0 with
          | none => rw [es] at hq; cases hq
          | some s =>
            rw [es] at hq
            change (nxt l c s).map (· + 1) = some (i + 1) at hq
            obtain ⟨i', ei, ei2⟩ := Option.map_eq_some_iff.mp hq
            have : i' = i := by omega
            subst this
            obtain ⟨n1, n2, n3⟩ := (nxt_iff' hi).mp ei
            have hs : k < s := Nat.lt_of_not_le fun z => n3 k z p1 (by rw [p2, n2])
            have := (ih (s - 1) (by omega) (by omega)).2 p (by rw [es]; congr 1; omega)
            have hmem : wv l (s - 1) ∈ ((List.range i').map (wv l)).drop k := by
              rw [← List.map_drop]
              exact List.mem_map.mpr ⟨s - 1, drop_range_mem.mpr ⟨by omega, by omega⟩, rfl⟩
            have hle := minI_le hmem
            show 1 + minI _ ≤ _
            simp only [List.length_append, List.length_cons, List.length_nil]
            omega
where
  nxt_iff' {l : List Nat} {c s p : Nat} (hp : p < l.length) : nxt l c s = some p ↔ s ≤ p ∧ l.getD p 0 = c ∧ ∀ j, s ≤ j → j < p → l[j]? ≠ some c := by
    have hg := getD_some hp
    constructor
    · intro e
      obtain ⟨h1, h2, h3⟩ := nxt_some e
      exact ⟨h1, by rw [hg] at h2; exact Option.some.inj h2, h3⟩
    · rintro ⟨h1, h2, h3⟩
      exact nxt_is h1 (by rw [hg, h2]) h3
def wN (l : List Nat) (i : Nat) : Nat := (wv l i).toNat
theorem wN_ex {l : List Nat} {i : Nat} (h : i < l.length) : ∃ q : List Nat, q.length = wN l i ∧ adv l q 0 = some (i + 1) := by
  obtain ⟨⟨q, h1, h2⟩, _⟩ := wv_spec l i h
  exact ⟨q, by unfold wN; omega, h2⟩
end QM
namespace QM
open PySem PySem.Spec L2 QL QP
instance {r : S} {P : S → Prop} : Step (wAll [] [] r P) (P r) := ⟨id⟩
instance {i : Nat} {is : List Nat} {x : SV} {xs : List SV} {sl sl' : List (Option SV)} {tp : Option (Int × Int)} {P : S → Prop} [h : SetL sl i (some x) sl'] : Step (wAll (i :: is) (x :: xs) ⟨sl, tp⟩ P) (wAll is xs ⟨sl', tp⟩ P) := ⟨fun q => ⟨h.lt, by
  show wAll is xs ⟨sl.set i (some x), tp⟩ P
  rw [h.eq]; exact q⟩⟩
def wLk (r : S) (i : Nat) (k : D) (Q : Option D → Prop) : Prop := ∃ o, lkS r i k = some o ∧ Q o
section
variable {P : SV → S → Prop} {X : XPo} {r : S} {p : Po} {fk fx : S → Res D} {i : Nat} {sl : List (Option SV)} {tp : Option (Int × Int)} {kvs : List (D × D)} {Q : Option D → Prop} {a b : Int} {z : Str} {o : Option D}
theorem wLk_k {k : D} {c : Key} [h : Get sl i (some (.od kvs))] (hk : keyD k = some c) (q : Q (getK kvs c)) : wLk ⟨sl, tp⟩ i k Q := ⟨_, by
  unfold lkS
  dsimp only
  rw [h.eq]
  dsimp only
  rw [hk]
  rfl, q⟩
theorem wLk_t {k : D} {c : List Key} [h : Get sl i (some (.ot kvs))] (hk : keyT k = some c) (q : Q (getT kvs c)) : wLk ⟨sl, tp⟩ i k Q := ⟨_, by
  unfold lkS
  dsimp only
  rw [h.eq]
  dsimp only
  rw [hk]
  rfl, q⟩
instance [h : Get sl i (some (.od kvs))] : Step (wLk ⟨sl, tp⟩ i (.int a) Q) (Q (getK kvs (.inl a))) := ⟨wLk_k rfl⟩
instance [h : Get sl i (some (.od kvs))] : Step (wLk ⟨sl, tp⟩ i (.str z) Q) (Q (getK kvs (.inr z))) := ⟨wLk_k rfl⟩
instance [h : Get sl i (some (.ot kvs))] : Step (wLk ⟨sl, tp⟩ i (.tuple [.int a, .int b]) Q) (Q (getT kvs [.inl a, .inl b])) := ⟨wLk_t rfl⟩
instance {f : Bool → Bool} : Step (wE (fInS f i fk r) P X) (wE (fk r) (fun k r => wLk r i k fun o => P (.fz (.bool (f o.isSome))) r) X) := ⟨fun h => wE_bind (wE_mono h fun k r h => by
  obtain ⟨o, e, h⟩ := h
  rw [e]; exact h)⟩
def wSm' (o : Option D) (Q : D → Prop) : Prop := ∃ d, o = some d ∧ Q d
instance {d : D} {Q : D → Prop} : Step (wSm' (some d) Q) (Q d) := ⟨fun q => ⟨d, rfl, q⟩⟩
theorem isDS_k [h : Get sl i (some (.od kvs))] : isDS ⟨sl, tp⟩ i = true := by unfold isDS; dsimp only; rw [h.eq]
theorem isDS_t [h : Get sl i (some (.ot kvs))] : isDS ⟨sl, tp⟩ i = true := by unfold isDS; dsimp only; rw [h.eq]
theorem isDS_f [h : Get sl i (some (.fz (.dict kvs)))] [n : NoOb kvs] : isDS ⟨sl, tp⟩ i = true := by unfold isDS; dsimp only; rw [h.eq]; dsimp only; rw [n.h]; rfl
theorem w_getS (hd : isDS r i = true) (h : wE (fk r) (fun k r => wLk r i k fun o => wSm' o fun d => P (.fz d) r) X) : wE (fGetS i fk r) P X := by
  unfold fGetS
  rw [if_pos hd]
  refine wE_bind (wE_mono h fun k r h => ?_)
  obtain ⟨o, e, d, e2, h⟩ := h
  subst e2
  rw [e]; exact h
instance [h : Get sl i (some (.od kvs))] : Step (wE (fGetS i fk ⟨sl, tp⟩) P X) (wE (fk ⟨sl, tp⟩) (fun k r => wLk r i k fun o => wSm' o fun d => P (.fz d) r) X) := ⟨w_getS isDS_k⟩
instance [h : Get sl i (some (.ot kvs))] : Step (wE (fGetS i fk ⟨sl, tp⟩) P X) (wE (fk ⟨sl, tp⟩) (fun k r => wLk r i k fun o => wSm' o fun d => P (.fz d) r) X) := ⟨w_getS isDS_t⟩
theorem w_get1S (hd : isDS r i = true) (h : wE (fk r) (fun k r => wLk r i k fun o => P (.fz (o.getD .none)) r) X) : wE (fGet1S i fk r) P X := by
  unfold fGet1S
  rw [if_pos hd]
  refine wE_bind (wE_mono h fun k r h => ?_)
  obtain ⟨o, e, h⟩ := h
  rw [e]; exact h
instance [h : Get sl i (some (.od kvs))] : Step (wE (fGet1S i fk ⟨sl, tp⟩) P X) (wE (fk ⟨sl, tp⟩) (fun k r => wLk r i k fun o => P (.fz (o.getD .none)) r) X) := ⟨w_get1S isDS_k⟩
instance [h : Get sl i (some (.ot kvs))] : Step (wE (fGet1S i fk ⟨sl, tp⟩) P X) (wE (fk ⟨sl, tp⟩) (fun k r => wLk r i k fun o => P (.fz (o.getD .none)) r) X) := ⟨w_get1S isDS_t⟩
theorem w_get2S (hd : isDS r i = true) (h : wE (fk r) (fun k r => wE (fx r) (fun x r => wLk r i k fun o => P (.fz (o.getD x)) r) X) X) : wE (fGet2S i fk fx r) P X := by
  unfold fGet2S
  rw [if_pos hd]
  refine wE_bind (wE_mono h fun k r h => wE_bind (wE_mono h fun x r h => ?_))
  obtain ⟨o, e, h⟩ := h
  rw [e]; exact h
instance [h : Get sl i (some (.od kvs))] : Step (wE (fGet2S i fk fx ⟨sl, tp⟩) P X) (wE (fk ⟨sl, tp⟩) (fun k r => wE (fx r) (fun x r => wLk r i k fun o => P (.fz (o.getD x)) r) X) X) := ⟨w_get2S isDS_k⟩
instance [h : Get sl i (some (.ot kvs))] : Step (wE (fGet2S i fk fx ⟨sl, tp⟩) P X) (wE (fk ⟨sl, tp⟩) (fun k r => wE (fx r) (fun x r => wLk r i k fun o => P (.fz (o.getD x)) r) X) X) := ⟨w_get2S isDS_t⟩
end
end QM
namespace QM
open PySem PySem.Spec L2 QL QP
local macro_rules | `(tactic| decreasing_trivial_pre_omega) => `(tactic| first
  | apply QM.Step.go
  | refine ⟨rfl, ?_⟩
  | refine ⟨⟨rfl, rfl⟩, ?_⟩
  | refine ⟨_, rfl, ?_⟩
  | refine ⟨_, _, rfl, ?_⟩
  | refine ⟨_, _, _, rfl, ?_⟩
  | refine ⟨Nat.le_of_ble_eq_true rfl, ?_⟩
  | refine wAt_r rfl ?_
  | refine wB_t rfl ?_
  | refine wB_f rfl ?_)
theorem depth_ltrs (m : List Nat) : PyData.depthAll (ltrs m) = 0 := by
  induction m with
  | nil => rfl
  | cons c m ih =>
    show max 0 (PyData.depthAll (ltrs m)) = 0
    rw [ih]; rfl
/-- the table of the law, in turn j + 1: what was known, what is new -/
structure Tbl (l : List Nat) (j : Nat) (K : List (Nat × Nat)) (N : List Nat) (Dn : Nat → Nat → Prop) : Prop where
  kk : ∀ p t, (p, t) ∈ K ↔ p < l.length ∧ wN l p = t ∧ t ≤ j
  kn : (K.map (·.1)).Nodup
  nd : N.Nodup
  nn : ∀ p ∈ N, p < l.length ∧ wN l p = j + 1
  dn : ∀ s c p, Dn s c → nxt l c s = some p → wN l p ≤ j ∨ p ∈ N
abbrev kOf (j : Nat) (K : List (Nat × Nat)) (N : List Nat) : List (Nat × Nat) := K ++ N.map fun p => (p, j + 1)
theorem Tbl.val {l : List Nat} {j : Nat} {K : List (Nat × Nat)} {N : List Nat} {Dn : Nat → Nat → Prop} (h : Tbl l j K N Dn) : ∀ q ∈ kOf j K N, q.2 = wN l q.1 := by
  intro q hq
  rcases List.mem_append.mp hq with hq | hq
  · obtain ⟨a, b⟩ := q
    exact ((h.kk a b).mp hq).2.1.symm
  · obtain ⟨p, hp, rfl⟩ := List.mem_map.mp hq
    exact (h.nn p hp).2.symm
theorem Tbl.len {l : List Nat} {j : Nat} {K : List (Nat × Nat)} {N : List Nat} {Dn : Nat → Nat → Prop} (h : Tbl l j K N Dn) : N.length ≤ l.length := by
  have := sub_lenA (S := N) (ls := List.range l.length) h.nd fun p hp => List.mem_range.mpr (h.nn p hp).1
  rwa [List.length_range] at this
theorem Tbl.mono {l : List Nat} {j : Nat} {K : List (Nat × Nat)} {N : List Nat} {D1 D2 : Nat → Nat → Prop} (h : Tbl l j K N D1) (hd : ∀ s c p, D2 s c → nxt l c s = some p → D1 s c ∨ wN l p ≤ j ∨ p ∈ N) : Tbl l j K N D2 :=
  ⟨h.kk, h.kn, h.nd, h.nn, fun s c p h2 hp => by
    rcases hd s c p h2 hp with h3 | h3
    · exact h.dn s c p h3 hp
    · exact h3⟩
end QM
namespace QM
open PySem PySem.Spec L2 QL QP
local macro_rules | `(tactic| decreasing_trivial_pre_omega) => `(tactic| first
  | apply QM.Step.go
  | refine ⟨rfl, ?_⟩
  | refine ⟨⟨rfl, rfl⟩, ?_⟩
  | refine ⟨_, rfl, ?_⟩
  | refine ⟨_, _, rfl, ?_⟩
  | refine ⟨_, _, _, rfl, ?_⟩
  | refine ⟨Nat.le_of_ble_eq_true rfl, ?_⟩
  | refine wAt_r rfl ?_
  | refine wB_t rfl ?_
  | refine wB_f rfl ?_)
instance {FL : S → Res (List D)} {r : S} {P : SV → S → Prop} {X : XPo} : Step (wE (fListZip FL r) P X) (wE (FL r) (fun ds r => ∃ xs ys, ds = [.list xs, .list ys] ∧ P (.ol (zipL xs ys)) r) X) := ⟨fun h => wE_bind (wE_mono h fun ds r h => by
  obtain ⟨xs, ys, e, h⟩ := h
  subst e
  exact h)⟩
instance {a b : Int} {r : S} {P : SV → S → Prop} : Step (wO (dSumA [.tuple [.int a, .int b]]) r P) (P (.fz (.int (a + b))) r) := ⟨fun q => wO_of (z' := .fz (.int (a + b))) d_sumA2 q⟩
instance : OfS "reach" [114, 101, 97, 99, 104] := ⟨by decide +kernel⟩
end QM
namespace QM
open PySem PySem.Spec L2 QL QP
local macro_rules | `(tactic| decreasing_trivial_pre_omega) => `(tactic| first
  | apply QM.Step.go
  | refine ⟨rfl, ?_⟩
  | refine ⟨⟨rfl, rfl⟩, ?_⟩
  | refine ⟨_, rfl, ?_⟩
  | refine ⟨_, _, rfl, ?_⟩
  | refine ⟨_, _, _, rfl, ?_⟩
  | refine ⟨Nat.le_of_ble_eq_true rfl, ?_⟩
  | refine wAt_r rfl ?_
  | refine wB_t rfl ?_
  | refine wB_f rfl ?_)
/-- a text is short; what is no text is anything -/
def shortS (n : Nat) : D → Bool
  | .str s => decide (s.cps.toList.length ≤ n)
  | _ => true
end QM
namespace QM
open PySem PySem.Spec L2 QL QP
local macro_rules | `(tactic| decreasing_trivial_pre_omega) => `(tactic| first
  | apply QM.Step.go
  | refine ⟨rfl, ?_⟩
  | refine ⟨⟨rfl, rfl⟩, ?_⟩
  | refine ⟨_, rfl, ?_⟩
  | refine ⟨_, _, rfl, ?_⟩
  | refine ⟨_, _, _, rfl, ?_⟩
  | refine ⟨Nat.le_of_ble_eq_true rfl, ?_⟩
  | refine wAt_r rfl ?_
  | refine wB_t rfl ?_
  | refine wB_f rfl ?_)
structure LdInv (l : List Nat) (p a : Nat) (f : List Nat) : Prop where
  lt : a < l.length
  go : ∀ q, adv l q 0 = some (a + 1) → adv l (q ++ f) 0 = some (p + 1)
  ln : wN l a + f.length = wN l p
  ml : ∀ c ∈ f, c ∈ l
theorem LdInv.last {l : List Nat} {p a : Nat} {f : List Nat} (h : LdInv l p a f) (h1 : wN l a = 1) : (l.getD a 0 :: f).length = wN l p ∧ adv l (l.getD a 0 :: f) 0 = some (p + 1) := by
  obtain ⟨q, q1, q2⟩ := wN_ex h.lt
  rw [h1] at q1
  obtain ⟨c, rfl⟩ := List.length_eq_one_iff.mp q1
  have hn : nxt l c 0 = some a := by
    change ((nxt l c 0).bind fun k => some (k + 1)) = some (a + 1) at q2
    cases e : nxt l c 0 with
    | none => rw [e] at q2; cases q2
    | some k => rw [e] at q2; simp at q2; rw [q2]
  have hc : l.getD a 0 = c := by
    have := (nxt_some hn).2.1
    rw [getD_some h.lt] at this
    exact Option.some.inj this
  rw [hc]
  refine ⟨by have := h.ln; simp only [List.length_cons]; omega, h.go [c] q2⟩
def okV : D → Bool
  | .tuple [a, b] => shortS 1000 a && shortS 1000 b
  | _ => true
end QM
namespace QM
open PySem PySem.Spec L2 QL QP
local macro_rules | `(tactic| decreasing_trivial_pre_omega) => `(tactic| first
  | apply QM.Step.go
  | refine ⟨rfl, ?_⟩
  | refine ⟨⟨rfl, rfl⟩, ?_⟩
  | refine ⟨_, rfl, ?_⟩
  | refine ⟨_, _, rfl, ?_⟩
  | refine ⟨_, _, _, rfl, ?_⟩
  | refine ⟨Nat.le_of_ble_eq_true rfl, ?_⟩
  | refine ⟨szb' (by omega), ?_⟩
  | refine ⟨szb' (by simp only [List.length_append, List.length_take, List.length_drop, List.length_reverse, List.length_cons, List.length_nil]; omega), ?_⟩
  | refine wAt_r rfl ?_
  | refine wB_t rfl ?_
  | refine wB_f rfl ?_)
theorem cut_len {α : Type} (xs : List α) (lo hi : Option Int) : (cutL xs lo hi).length ≤ xs.length := by
  unfold cutL
  rw [List.length_take, List.length_drop]
  omega
/-- short, plain signs -/
def Sh (n : Nat) (m : List Nat) : Prop := m.length ≤ n ∧ ∀ c ∈ m, c < 200
theorem Sh.app {a b : Nat} {x y : List Nat} (h : Sh a x) (g : Sh b y) : Sh (a + b) (x ++ y) := ⟨by have := h.1; have := g.1; rw [List.length_append]; omega, fun c hc => by
  rcases List.mem_append.mp hc with hc | hc
  · exact h.2 c hc
  · exact g.2 c hc⟩
theorem Sh.take {a : Nat} {x : List Nat} (h : Sh a x) (n : Nat) : Sh a (x.take n) := ⟨by have := h.1; rw [List.length_take]; omega, fun c hc => h.2 c (List.mem_of_mem_take hc)⟩
theorem Sh.drop {a : Nat} {x : List Nat} (h : Sh a x) (n : Nat) : Sh a (x.drop n) := ⟨by have := h.1; rw [List.length_drop]; omega, fun c hc => h.2 c (List.mem_of_mem_drop hc)⟩
theorem Sh.rev {a : Nat} {x : List Nat} (h : Sh a x) : Sh a x.reverse := ⟨by have := h.1; rw [List.length_reverse]; omega, fun c hc => h.2 c (List.mem_reverse.mp hc)⟩
theorem Sh.cut {a : Nat} {x : List Nat} (h : Sh a x) (lo hi : Option Int) : Sh a (cutL x lo hi) := ⟨Nat.le_trans (cut_len x lo hi) h.1, fun c hc => h.2 c (by
  unfold cutL at hc
  exact List.mem_of_mem_drop (List.mem_of_mem_take hc))⟩
theorem Sh.up {a b : Nat} {x : List Nat} (h : Sh a x) (hb : a ≤ b) : Sh b x := ⟨Nat.le_trans h.1 hb, h.2⟩
theorem Sh.tn {a : Nat} {x : List Nat} (h : Sh a x) (ha : a ≤ 200) : tiny (.str (tx x)) = true := tiny_tx (by have := h.1; omega) fun c hc => by have := h.2 c hc; exact Nat.lt_trans this (by decide)
theorem Sh.ss {a : Nat} {x : List Nat} (h : Sh a x) (ha : a ≤ 200) : shortS 1000 (.str (tx x)) = true := decide_eq_true (by have := h.1; show (tx x).cps.toList.length ≤ 1000; simp [tx]; omega)
/-- rows of small things -/
theorem tinyAll : ∀ {ds : List D}, (∀ d ∈ ds, tiny d = true) → PyData.showableAll ds = true ∧ PyData.depthAll ds ≤ 40 ∧ PyData.leavesShortAll 40 ds = true ∧ PyData.weightAll ds ≤ ds.length * 1001
  | [], _ => ⟨rfl, Nat.zero_le _, rfl, by simp [PyData.weightAll]⟩
  | d :: ds, h => by
    obtain ⟨a1, a2, a3, a4⟩ := tinyAll fun e he => h e (List.mem_cons_of_mem _ he)
    obtain ⟨b, b2, b3⟩ := tiny_of (h d (List.mem_cons_self ..))
    unfold sml at b
    simp only [Bool.and_eq_true, decide_eq_true_eq] at b
    obtain ⟨⟨⟨c1, c2⟩, c3⟩, c4⟩ := b
    refine ⟨?_, ?_, ?_, ?_⟩
    · simp [PyData.showableAll, c1, a1]
    · simp only [PyData.depthAll]; omega
    · simp [PyData.leavesShortAll, c3, a3]
    · simp only [PyData.weightAll, List.length_cons]; omega
theorem sml_tup {ds : List D} (h : ∀ d ∈ ds, tiny d = true) (hl : ds.length ≤ 9) : sml (.tuple ds) = true := by
  obtain ⟨a1, a2, a3, a4⟩ := tinyAll h
  unfold sml
  simp only [Bool.and_eq_true, decide_eq_true_eq]
  refine ⟨⟨⟨by simpa [PyData.showable] using a1, by simp only [PyData.depth]; omega⟩, by simpa [PyData.leavesShort] using a3⟩, ?_⟩
  simp only [PyData.weight]; omega
theorem sml_lst {ds : List D} (h : ∀ d ∈ ds, tiny d = true) (hl : ds.length ≤ 9) : sml (.list ds) = true := by
  obtain ⟨a1, a2, a3, a4⟩ := tinyAll h
  unfold sml
  simp only [Bool.and_eq_true, decide_eq_true_eq]
  refine ⟨⟨⟨by simpa [PyData.showable] using a1, by simp only [PyData.depth]; omega⟩, by simpa [PyData.leavesShort] using a3⟩, ?_⟩
  simp only [PyData.weight]; omega
theorem ltrs_small : ∀ {m : List Nat}, (∀ c ∈ m, c < 200) → PyData.showableAll (ltrs m) = true ∧ PyData.leavesShortAll 40 (ltrs m) = true ∧ PyData.weightAll (ltrs m) = m.length * 2
  | [], _ => ⟨rfl, rfl, rfl⟩
  | c :: m, h => by
    obtain ⟨a1, a2, a3⟩ := ltrs_small fun d hd => h d (List.mem_cons_of_mem _ hd)
    have hc := h c (List.mem_cons_self ..)
    refine ⟨?_, ?_, ?_⟩
    · show (true && PyData.showableAll (ltrs m)) = true
      rw [a1]; rfl
    · show ((PyData.str (tx [c])).leavesShort 40 && PyData.leavesShortAll 40 (ltrs m)) = true
      rw [a2, Bool.and_true]
      have : c < 16 ^ 8 := Nat.lt_trans hc (by decide)
      simp only [PyData.leavesShort, List.all_eq_true, decide_eq_true_eq]
      intro d hd
      have : d = c := by simpa [tx] using hd
      subst this
      assumption
    · show PyData.weight (.str (tx [c])) + 1 + PyData.weightAll (ltrs m) = _
      rw [a3]
      simp [PyData.weight, tx]
      omega
theorem ltrs_tl {m : List Nat} (h : Sh 100 m) : tiny (.list (ltrs m)) = true := by
  obtain ⟨a1, a2, a3⟩ := ltrs_small h.2
  have := h.1
  unfold tiny sml
  simp only [Bool.and_eq_true, decide_eq_true_eq]
  have dp : PyData.depth (.list (ltrs m)) = 1 := by simp only [PyData.depth, depth_ltrs]
  have wt : PyData.weight (.list (ltrs m)) = m.length * 2 := by simp only [PyData.weight, a3]
  refine ⟨⟨⟨⟨⟨by simpa [PyData.showable] using a1, by omega⟩, by simpa [PyData.leavesShort] using a2⟩, by omega⟩, by omega⟩, by omega⟩
theorem ltrs_tt {m : List Nat} (h : Sh 100 m) : tiny (.tuple (ltrs m)) = true := by
  obtain ⟨a1, a2, a3⟩ := ltrs_small h.2
  have := h.1
  unfold tiny sml
  simp only [Bool.and_eq_true, decide_eq_true_eq]
  have dp : PyData.depth (.tuple (ltrs m)) = 1 := by simp only [PyData.depth, depth_ltrs]
  have wt : PyData.weight (.tuple (ltrs m)) = m.length * 2 := by simp only [PyData.weight, a3]
  refine ⟨⟨⟨⟨⟨by simpa [PyData.showable] using a1, by omega⟩, by simpa [PyData.leavesShort] using a2⟩, by omega⟩, by omega⟩, by omega⟩
/-- may be shown; of a pair each text is short -/
def fine (d : D) : Bool := sml d && okV d
theorem fine_pair {a b : D} (ha : tiny a = true) (hb : tiny b = true) (ga : shortS 1000 a = true) (gb : shortS 1000 b = true) : fine (.tuple [a, b]) = true := by
  unfold fine
  rw [sml_tup (fun d hd => by
    simp only [List.mem_cons, List.not_mem_nil, or_false] at hd
    rcases hd with rfl | rfl <;> assumption) (by simp)]
  show (true && (shortS 1000 a && shortS 1000 b)) = true
  rw [ga, gb]; rfl
instance : OfS "out" [111, 117, 116] := ⟨by decide +kernel⟩
instance : OfS "swap" [115, 119, 97, 112] := ⟨by decide +kernel⟩
instance : OfS "in" [105, 110] := ⟨by decide +kernel⟩
instance : OfS "behind" [98, 101, 104, 105, 110, 100] := ⟨by decide +kernel⟩
instance : OfS "strike" [115, 116, 114, 105, 107, 101] := ⟨by decide +kernel⟩
instance : OfS "0" [48] := ⟨by decide +kernel⟩
instance : OfS "has a" [104, 97, 115, 32, 97] := ⟨by decide +kernel⟩
instance : OfS "letters a" [108, 101, 116, 116, 101, 114, 115, 32, 97] := ⟨by decide +kernel⟩
instance : OfS "z" [122] := ⟨by decide +kernel⟩
theorem any_sp {t : Int × Int} (ok : TapeOk t = true) : wFT (F__law_any t []) (fun v t' => TapeOk t' = true ∧ ∃ d, v = .fz d ∧ fine d = true) (fun _ _ _ => False) := by
  refine wFT_go ?_
  unfold B__law_any
  repeat' decreasing_trivial_pre_omega
  refine ⟨⟨by decide, by decide +kernel⟩, ?_⟩
  repeat' decreasing_trivial_pre_omega
  refine wFT_use (one_all (Pb := fine) ok (by decide +kernel) (by simp) (by simp)) (fun v t1 ⟨o1, d, e, hd⟩ => ?_)
  subst e
  repeat' decreasing_trivial_pre_omega
  exact ⟨o1, d, rfl, hd⟩
section
variable {t : Int × Int} {l v w s : List Nat} {x3 x4 x5 x6 x7 x8 x9 : Option SV} {f : Nat}
abbrev Sb (l v w : List Nat) (x3 x4 x5 x6 x7 x8 x9 : Option SV) (t : Int × Int) : S := ⟨[some .tape, some (.fz (.tuple [.str (tx v), .str (tx w)])), some (.fz (.str (tx l))), x3, x4, x5, x6, x7, x8, x9, none], some t⟩
def bent_3 : S → RS := sAsg 7 (eLst (aCons (fD (eTup (aCons (fD (fOp dAdd (fD (fOp dAdd (fD (fSl (gV 3) (oNon) (oSom (gV 5)))) (gV 6))) (fD (fSl (gV 3) (oSom (gV 5)) (oNon))))) (aCons (fV 4) (aNil))))) (aCons (fD (eTup (aCons (fV 3) (aCons (fD (fOp dAdd (gV 4) (gV 6))) (aNil))))) (aCons (fD (eTup (aCons (fV 4) (aCons (fV 3) (aNil))))) (aCons (fD (eTup (aCons (fD (fOp1 dRev (gV 3))) (aCons (fV 4) (aNil))))) (aCons (fD (eTup (aCons (fV 3) (aCons (fD (fOp dAdd (fD (fSl (gV 4) (oNon) (oSom (fD (fOp1 dNeg (fC (.int 1))))))) (gV 6))) (aNil))))) (aNil)))))))
def bent_4 : S → RS := sAsg 7 (fOp dAdd (gV 7) (fD (eLst (aCons (fD (eTup (aCons (fV 3) (aNil)))) (aCons (fD (eLst (aCons (fV 3) (aCons (fV 4) (aNil))))) (aCons (fD (eTup (aCons (fV 3) (aCons (fV 4) (aCons (fC (.str "")) (aNil)))))) (aCons (fD (eTup (aCons (fD (fSl (gV 3) (oSom (fC (.int 1))) (oNon))) (aCons (fV 4) (aNil))))) (aCons (fD (eTup (aCons (fC .none) (aCons (fV 4) (aNil))))) (aCons (fD (eTup (aCons (fV 3) (aCons (fC .none) (aNil))))) (aCons (fD (eTup (aCons (fD (fCB dListA (aCons (gV 3) (aNil)))) (aCons (fV 4) (aNil))))) (aCons (fD (eTup (aCons (fD (fCB dTupA (aCons (gV 3) (aNil)))) (aCons (fV 4) (aNil))))) (aCons (fD (eTup (aCons (fV 3) (aCons (fD (fCB dListA (aCons (gV 4) (aNil)))) (aNil))))) (aCons (fV 1) (aCons (fV 1) (aCons (fD (fCallT 0 0 F__law_any (aNil))) (aNil))))))))))))))))
theorem b3 (hv : Sh 20 v) (hw : Sh 20 w) (hs : Sh 1 s) : wS (bent_3 (Sb l v w (some (.fz (.str (tx v)))) (some (.fz (.str (tx w)))) (some (.fz (.int (f : Nat)))) (some (.fz (.str (tx s)))) x7 x8 x9 t))
    (Pn fun r => ∃ ds, (∀ d ∈ ds, fine d = true) ∧ ds.length ≤ 5 ∧ r = Sb l v w (some (.fz (.str (tx v)))) (some (.fz (.str (tx w)))) (some (.fz (.int (f : Nat)))) (some (.fz (.str (tx s)))) (some (.ol ds)) x8 x9 t) := by
  have h2 := hv.1
  have h3 := hw.1
  have h4 := hs.1
  have c1 := cut_len w none (some (-1))
  have c3 := cut_len v none (some (f : Int))
  have c4 := cut_len v (some (f : Int)) none
  unfold bent_3
  repeat' decreasing_trivial_pre_omega
  refine ⟨_, ?_, ?_, rfl⟩
  · intro d hd
    simp only [List.mem_cons, List.not_mem_nil, or_false] at hd
    rcases hd with rfl | rfl | rfl | rfl | rfl
    · exact fine_pair ((((hv.cut _ _).app hs).app (hv.cut _ _)).tn (by decide)) (hw.tn (by decide)) ((((hv.cut _ _).app hs).app (hv.cut _ _)).ss (by decide)) (hw.ss (by decide))
    · exact fine_pair (hv.tn (by decide)) ((hw.app hs).tn (by decide)) (hv.ss (by decide)) ((hw.app hs).ss (by decide))
    · exact fine_pair (hw.tn (by decide)) (hv.tn (by decide)) (hw.ss (by decide)) (hv.ss (by decide))
    · exact fine_pair (hv.rev.tn (by decide)) (hw.tn (by decide)) (hv.rev.ss (by decide)) (hw.ss (by decide))
    · exact fine_pair (hv.tn (by decide)) (((hw.cut _ _).app hs).tn (by decide)) (hv.ss (by decide)) (((hw.cut _ _).app hs).ss (by decide))
  · exact Nat.le_refl 5
theorem b4 (ok : TapeOk t = true) (hv : Sh 20 v) (hw : Sh 20 w) {ds : List D} (hds : ∀ d ∈ ds, fine d = true) (hdl : ds.length ≤ 5) : wS (bent_4 (Sb l v w (some (.fz (.str (tx v)))) (some (.fz (.str (tx w)))) x5 x6 (some (.ol ds)) x8 x9 t))
    (Pn fun r => ∃ ds t', TapeOk t' = true ∧ (∀ d ∈ ds, fine d = true) ∧ ds.length ≤ 20 ∧ r = Sb l v w (some (.fz (.str (tx v)))) (some (.fz (.str (tx w)))) x5 x6 (some (.ol ds)) x8 x9 t') := by
  have h2 := hv.1
  have h3 := hw.1
  have c2 := cut_len v (some 1) none
  unfold bent_4
  repeat' decreasing_trivial_pre_omega
  refine wFT_use (any_sp ok) (fun x t1 ⟨o1, d, e, hd⟩ => ?_)
  subst e
  repeat' decreasing_trivial_pre_omega
  refine ⟨_, t1, o1, ?_, ?_, rfl⟩
  · have tv := hv.tn (by decide)
    have tw := hw.tn (by decide)
    have sv := hv.ss (by decide)
    have sw := hw.ss (by decide)
    have te : tiny (.str (tx [])) = true := tiny_tx (by decide) (by simp)
    have tn : tiny .none = true := by decide +kernel
    intro e he
    rcases List.mem_append.mp he with he | he
    · exact hds e he
    · simp only [List.mem_cons, List.not_mem_nil, or_false] at he
      rcases he with rfl | rfl | rfl | rfl | rfl | rfl | rfl | rfl | rfl | rfl | rfl | rfl
      · unfold fine
        rw [sml_tup (fun d hd => by simp only [List.mem_cons, List.not_mem_nil, or_false] at hd; subst hd; exact tv) (by simp)]
        rfl
      · unfold fine
        rw [sml_lst (fun d hd => by
          simp only [List.mem_cons, List.not_mem_nil, or_false] at hd
          rcases hd with rfl | rfl <;> assumption) (by simp)]
        rfl
      · unfold fine
        rw [sml_tup (fun d hd => by
          simp only [List.mem_cons, List.not_mem_nil, or_false] at hd
          rcases hd with rfl | rfl | rfl <;> assumption) (by simp)]
        rfl
      · exact fine_pair ((hv.cut _ _).tn (by decide)) tw ((hv.cut _ _).ss (by decide)) sw
      · exact fine_pair tn tw rfl sw
      · exact fine_pair tv tn sv rfl
      · exact fine_pair (ltrs_tl (hv.up (by decide))) tw rfl sw
      · exact fine_pair (ltrs_tt (hv.up (by decide))) tw rfl sw
      · exact fine_pair tv (ltrs_tl (hw.up (by decide))) sv rfl
      · exact fine_pair tv tw sv sw
      · exact fine_pair tv tw sv sw
      · exact hd
  · simp only [List.length_append, List.length_cons, List.length_nil]; omega
end
end QM
namespace QM
open PySem PySem.Spec L2 QL QP
def wOwn (x : SV) (r : S) (P : SV → S → Prop) : Prop := (∃ xs, (x = .ol xs ∨ (x = .fz (.list xs) ∧ flatAll xs = true)) ∧ P (.ol xs) r)
section
variable {i n m : Nat} {FD : List D → FR} {FL : S → Res (List D)} {FS : S → Res (List SV)} {T : S → Res Bool} {A B : S → RS} {r : S} {P : SV → S → Prop} {X : XPo} {p : Po} {sl : List (Option SV)} {tp : Option (Int × Int)} {ds xs : List D} {dss : List (List D)}
instance : Step (wE (fCallN n FD FL r) P X) (wE (FL r) (fun ds r => ds.length = n ∧ flatAll ds = true ∧ wF (FD ds) (fun v => wOwn v r P) (fun _ _ => False)) X) := ⟨fun h => wE_bind (wE_mono h fun ds r h => by
  obtain ⟨h1, h2, h3⟩ := h
  rw [if_pos ⟨h1, h2⟩]
  unfold outN
  cases e : FD ds with
  | bad => rw [e] at h3; exact h3
  | exc c f t => rw [e] at h3; exact h3.elim
  | ok v t =>
    rw [e] at h3
    obtain ⟨h3, xs, h4, h5⟩ := h3
    rcases h4 with h4 | ⟨h4, h6⟩
    · subst h4; exact h5
    · subst h4
      dsimp only
      rw [if_pos h6]
      exact h5)⟩
instance : Step (wOwn (.ol xs) r P) (P (.ol xs) r) := ⟨fun h => ⟨xs, .inl rfl, h⟩⟩
instance : Step (wOwn (.fz (.list xs)) r P) (flatAll xs = true ∧ P (.ol xs) r) := ⟨fun h => ⟨xs, .inr ⟨rfl, h.1⟩, h.2⟩⟩
def wOls (m : Nat) (xs : List SV) (P : List (List D) → Prop) : Prop := ∃ dss, olsS m xs = some dss ∧ P dss
def wNest (i n m : Nat) (T : S → Res Bool) (A B : S → RS) (p : Po) (dss : List (List D)) (r1 : S) : Prop := dss.length = n ∧ i < r1.sl.length ∧ n ≤ sizeLine ∧ wU r1.sl i (some (.fz (.list (dss.map .list)))) fun sl => wE (T ⟨sl, r1.tp⟩) (fun b r2 => wB b (wS (sSeq A sBad r2) p) (wU r1.sl i none fun sl => wS (B ⟨sl, r2.tp⟩) p)) p.ex
instance : Step (wS (sNest i n m FS T A B r) p) (wE (FS r) (fun xs r1 => wOls m xs fun dss => wNest i n m T A B p dss r1) p.ex) := ⟨fun h => wE_bindS (wE_mono h fun xs r1 h => by
  obtain ⟨dss, e, h1, h2, h3, h4, h5⟩ := h
  rw [e]
  dsimp only
  rw [if_pos ⟨h1, h2, h3⟩]
  refine wE_bindS (wE_mono h5 fun b r2 h => ?_)
  cases b with
  | true => exact h.1 rfl
  | false =>
    obtain ⟨_, h⟩ := h.2 rfl
    exact h)⟩
instance : Step (wNest i n m T A B p dss ⟨sl, tp⟩) (dss.length = n ∧ n ≤ 1000000 ∧ wU sl i (some (.fz (.list (dss.map .list)))) fun sl2 => wE (T ⟨sl2, tp⟩) (fun b r2 => wB b (wS (sSeq A sBad r2) p) (wU sl i none fun sl => wS (B ⟨sl, r2.tp⟩) p)) p.ex) := ⟨fun h => by
  obtain ⟨h1, h2, h3, h4⟩ := h
  exact ⟨h1, h3, by unfold sizeLine; omega, h3, h4⟩⟩
instance {P : List (List D) → Prop} : Step (wOls m [] P) (P []) := ⟨fun h => ⟨[], rfl, h⟩⟩
instance {x : List D} {r : List SV} {P : List (List D) → Prop} : Step (wOls m (.ol x :: r) P) (x.length + m ≤ 1000000 ∧ wOls m r fun dss => P (x :: dss)) := ⟨fun ⟨h1, dss, e, h⟩ => ⟨x :: dss, by
  unfold olsS
  rw [if_pos (by unfold sizeLine; omega), e]
  rfl, h⟩⟩
end
end QM
namespace QM
open PySem PySem.Spec L2 QL QP
def Lt (n m : Nat) (d : D) : Prop := d.showable = true ∧ d.depth ≤ n ∧ PyData.leavesShort 40 d = true ∧ d.weight ≤ m
theorem lt_all {n m : Nat} : ∀ {ds : List D}, (∀ d ∈ ds, Lt n m d) → PyData.showableAll ds = true ∧ PyData.depthAll ds ≤ n ∧ PyData.leavesShortAll 40 ds = true ∧ PyData.weightAll ds ≤ ds.length * (m + 2)
  | [], _ => ⟨rfl, Nat.zero_le _, rfl, by simp [PyData.weightAll]⟩
  | d :: ds, h => by
    obtain ⟨a1, a2, a3, a4⟩ := lt_all fun e he => h e (List.mem_cons_of_mem _ he)
    obtain ⟨c1, c2, c3, c4⟩ := h d (List.mem_cons_self ..)
    refine ⟨?_, ?_, ?_, ?_⟩
    · simp [PyData.showableAll, c1, a1]
    · simp only [PyData.depthAll]; omega
    · simp [PyData.leavesShortAll, c3, a3]
    · simp only [PyData.weightAll, List.length_cons, Nat.add_mul]; omega
theorem lt_list {n m k : Nat} {ds : List D} (h : ∀ d ∈ ds, Lt n m d) (hl : ds.length ≤ k) : Lt (n + 1) (k * (m + 2) + 4) (.list ds) := by
  obtain ⟨a1, a2, a3, a4⟩ := lt_all h
  have := Nat.mul_le_mul_right (m + 2) hl
  exact ⟨by simpa [PyData.showable] using a1, by simp only [PyData.depth]; omega, by simpa [PyData.leavesShort] using a3, by simp only [PyData.weight]; omega⟩
theorem lt_tup {n m k : Nat} {ds : List D} (h : ∀ d ∈ ds, Lt n m d) (hl : ds.length ≤ k) : Lt (n + 1) (k * (m + 2) + 4) (.tuple ds) := by
  obtain ⟨a1, a2, a3, a4⟩ := lt_all h
  have := Nat.mul_le_mul_right (m + 2) hl
  exact ⟨by simpa [PyData.showable] using a1, by simp only [PyData.depth]; omega, by simpa [PyData.leavesShort] using a3, by simp only [PyData.weight]; omega⟩
theorem Lt.up {n m n' m' : Nat} {d : D} (h : Lt n m d) (hn : n ≤ n') (hm : m ≤ m') : Lt n' m' d := ⟨h.1, Nat.le_trans h.2.1 hn, h.2.2.1, Nat.le_trans h.2.2.2 hm⟩
theorem Lt.show {n m : Nat} {d : D} (h : Lt n m d) (hn : n ≤ 45) (hm : m ≤ 30000) : showA d = true := by
  obtain ⟨a1, a2, a3, a4⟩ := h
  unfold showA
  simp only [Bool.and_eq_true, decide_eq_true_eq]
  have := PyData.shown_le 40 (by decide) d a3
  have z : sizeLine = 16777216 := rfl
  exact ⟨⟨a1, by omega⟩, by omega⟩
theorem lt_tiny {d : D} (h : tiny d = true) : Lt 40 1000 d := by
  obtain ⟨x, x2, x3⟩ := tiny_of h
  unfold sml at x
  simp only [Bool.and_eq_true, decide_eq_true_eq] at x
  exact ⟨x.1.1.1, x2, x.1.2, x3⟩
end QM
namespace QM
open PySem PySem.Spec L2 QL QP
local macro_rules | `(tactic| decreasing_trivial_pre_omega) => `(tactic| first
  | apply QM.Step.go
  | refine ⟨rfl, ?_⟩
  | refine ⟨⟨rfl, rfl⟩, ?_⟩
  | refine ⟨_, rfl, ?_⟩
  | refine ⟨_, _, rfl, ?_⟩
  | refine ⟨_, _, _, rfl, ?_⟩
  | refine ⟨Nat.le_of_ble_eq_true rfl, ?_⟩
  | refine wAt_r rfl ?_
  | refine wB_t rfl ?_
  | refine wB_f rfl ?_)
def hdL : List (List Nat) := [[104, 97, 115], [110, 111, 116], [97, 110, 100], [111, 114], [110, 111, 114], [72, 97, 115], [97], [111, 117, 116], [115, 119, 97, 112], [105, 110], [98, 101, 104, 105, 110, 100], [115, 116, 114, 105, 107, 101]]
/-- the first of a tuple -/
def hdB : D → Bool
  | .str s => decide (s.cps.toList ∈ hdL)
  | .none => true
  | .int i => decide (i = 0)
  | .tuple _ => true
  | .list [] => true
  | .list [.str s] => decide (s.cps.toList = [104, 97, 115])
  | .dict [] => true
  | _ => false
def hd1 : List D → Bool
  | [] => true
  | h :: _ => hdB h
mutual
def wl : D → Bool
  | .tuple ds => hd1 ds && wls ds
  | .str s => decide (s.length ≤ 1000)
  | .none => true
  | .bool _ => true
  | .int _ => true
  | .list _ => true
  | .dict _ => true
def wls : List D → Bool
  | [] => true
  | d :: ds => wl d && wls ds
end
theorem wls_all : ∀ {ds : List D}, wls ds = true → ∀ d ∈ ds, wl d = true
  | d :: ds, h, e, he => by
    simp only [wls, Bool.and_eq_true] at h
    rcases List.mem_cons.mp he with rfl | he
    · exact h.1
    · exact wls_all h.2 e he
theorem wls_of : ∀ {ds : List D}, (∀ d ∈ ds, wl d = true) → wls ds = true
  | [], _ => rfl
  | d :: ds, h => by
    simp only [wls, Bool.and_eq_true]
    exact ⟨h d (List.mem_cons_self ..), wls_of fun e he => h e (List.mem_cons_of_mem _ he)⟩
theorem wl_tup {h : D} {r : List D} (hh : hdB h = true) (hw : wl h = true) (hr : ∀ d ∈ r, wl d = true) : wl (.tuple (h :: r)) = true := by
  show (hdB h && wls (h :: r)) = true
  rw [hh, wls_of fun d hd => (List.mem_cons.mp hd).elim (fun z => by rw [z]; exact hw) (hr d)]; rfl
def isH (m : List Nat) : D → Bool
  | .str s => decide (s.cps.toList = m)
  | _ => false
def txB : D → Bool
  | .str s => decide (Tx s.cps.toList)
  | _ => false
def isS : Nat → D → Bool
  | k + 1, .tuple [h, x] => (isH [104, 97, 115] h && txB x) || (isH [110, 111, 116] h && isS k x)
  | k + 1, .tuple [h, x, y] => (isH [97, 110, 100] h || isH [111, 114] h) && (isS k x && isS k y)
  | _, _ => false
theorem isH_tx (m q : List Nat) : isH m (.str (tx q)) = decide (q = m) := by unfold isH; exact decide_eq_decide.mpr (by rw [tx_cps])
theorem txB_tx (q : List Nat) : txB (.str (tx q)) = decide (Tx q) := by unfold txB; exact decide_eq_decide.mpr (by rw [tx_cps])
theorem any_ao (q : List Nat) : ([PyData.str (tx [97, 110, 100]), PyData.str (tx [111, 114])].any fun y => PyData.eqv y (PyData.str (tx q))) = (decide (q = [97, 110, 100]) || decide (q = [111, 114])) := by
  simp only [List.any_cons, List.any_nil, Bool.or_false, eqv_txs]
  rw [show decide ([97, 110, 100] = q) = decide (q = [97, 110, 100]) from decide_eq_decide.mpr eq_comm, show decide ([111, 114] = q) = decide (q = [111, 114]) from decide_eq_decide.mpr eq_comm]
theorem sh_str : ∀ l ∈ hdL, ((PyData.str (tx l)).shown).cps.toList = 39 :: (l ++ [39]) := by decide +kernel
theorem sh_tup (ts : List Str) : ((tupleText ts).cps.toList).head? = some 40 := by
  unfold tupleText
  have e : Str.ofString "(" = tx [40] := by decide +kernel
  rw [e]
  show (((tx [40]).cps ++ _) ++ _).toList.head? = _
  simp [tx]
theorem sh_no {d : D} (h : hdB d = true) (hn : NotS d) : ((d.shown).cps.toList).head? ≠ some 39 := by
  cases d with
  | str s => exact hn.elim
  | none => decide +kernel
  | bool b => cases h
  | int i =>
    have : i = 0 := by simpa [hdB] using h
    subst this
    decide +kernel
  | tuple ds =>
    have e : ((PyData.tuple ds).shown).cps.toList.head? = some 40 := sh_tup _
    rw [e]; decide
  | dict kvs =>
    cases kvs with
    | nil => decide +kernel
    | cons a r => cases h
  | list ds =>
    match ds, h with
    | [], _ => decide +kernel
    | [.str s], h =>
      have : s.cps.toList = [104, 97, 115] := by simpa [hdB] using h
      rw [Str.tx s, this]
      decide +kernel
theorem sh_is {d : D} {m : List Nat} (hd : hdB d = true) (hm : m ∈ hdL) : decide (d.shown = (PyData.str (tx m)).shown) = isH m d := by
  have e2 := sh_str m hm
  have inj : ∀ a b : Str, a = b ↔ a.cps.toList = b.cps.toList := fun a b => ⟨fun h => by rw [h], fun h => by rw [Str.tx a, Str.tx b, h]⟩
  by_cases hs : NotS d
  · have e1 := sh_no hd hs
    have e3 : isH m d = false := by
      cases d with
      | str s => exact hs.elim
      | _ => rfl
    rw [e3]
    refine decide_eq_false fun z => e1 ?_
    rw [z, e2]; rfl
  · cases d with
    | str s =>
      have hl : s.cps.toList ∈ hdL := by simpa [hdB] using hd
      rw [Str.tx s, isH_tx]
      have e1 := sh_str _ hl
      refine decide_eq_decide.mpr ?_
      rw [inj, e1, e2]
      constructor
      · intro h
        exact List.append_cancel_right (List.cons.inj h).2
      · intro h; rw [h]
    | _ => exact absurd trivial hs
/-- nothing against nothing: whatever is inside -/
theorem dEq_nilT {f : Bool → Bool} {a : D} {as : List D} : dEqF f (.tuple (a :: as)) (.tuple []) = some (.fz (.bool (f false))) := by
  rw [d_eq]
  split
  · rfl
  · rw [if_pos (by simp [unEq])]
theorem dEq_nilL {f : Bool → Bool} {as : List D} : dEqF f (.list as) (.list []) = some (.fz (.bool (f as.isEmpty))) := by
  rw [d_eq]
  split
  · rw [eqv_nil]
  · rename_i h
    cases as with
    | nil => exact absurd ⟨by decide, by decide⟩ h
    | cons a as => rw [if_pos (by simp [unEq])]; rfl
instance {f : Bool → Bool} {a : D} {as : List D} {r : S} {P : SV → S → Prop} : Step (wO (dEqF f (.tuple (a :: as)) (.tuple [])) r P) (P (.fz (.bool (f false))) r) := ⟨fun q => wO_of (z' := .fz (.bool (f false))) dEq_nilT q⟩
instance {f : Bool → Bool} {as : List D} {r : S} {P : SV → S → Prop} : Step (wO (dEqF f (.list as) (.list [])) r P) (P (.fz (.bool (f as.isEmpty))) r) := ⟨fun q => wO_of (z' := .fz (.bool (f as.isEmpty))) dEq_nilL q⟩
theorem is_text_any {d : D} (h : wl d = true) : Ret (F_is_text [d]) (.fz (.bool (txB d))) := by
  cases d with
  | str s =>
    have : s.length ≤ 1000 := by simpa [wl] using h
    have e : s.cps.toList.length ≤ 1000000 := by
      have : s.cps.size ≤ 1000 := this
      rw [Array.length_toList]; omega
    rw [Str.tx s, txB_tx]
    exact is_text_R e
  | _ => exact is_text_no trivial
theorem isS_many {k : Nat} {a b c e : D} {r : List D} : isS k (.tuple (a :: b :: c :: e :: r)) = false := by cases k <;> rfl
theorem isay_R : ∀ (k : Nat) (d : D), wl d = true → ∀ n, k < n → Ret (R_is_saying_in n [d, .int (k : Nat)]) (.fz (.bool (isS k d))) := by
  intro k
  induction k with
  | zero =>
    intro d hd n hn
    obtain ⟨m, rfl⟩ : ∃ m, n = m + 1 := ⟨n - 1, by omega⟩
    show Ret (bodyF 2 (B_is_saying_in (R_is_saying_in m)) [d, .int ((0 : Nat) : Int)]) _
    refine Ret.go ?_
    unfold B_is_saying_in
    cases d <;>
    · repeat' decreasing_trivial_pre_omega
      rfl
  | succ k ih =>
    intro d hd n hn
    obtain ⟨m, rfl⟩ : ∃ m, n = m + 1 := ⟨n - 1, by omega⟩
    have hk1 : ((k + 1 : Nat) : Int) - 1 = ((k : Nat) : Int) := by omega
    show Ret (bodyF 2 (B_is_saying_in (R_is_saying_in m)) [d, .int ((k + 1 : Nat) : Int)]) _
    refine Ret.go ?_
    unfold B_is_saying_in
    cases d with
    | tuple ds =>
      simp only [wl, Bool.and_eq_true] at hd
      have hw := wls_all hd.2
      match ds, hw with
      | [], _ =>
        repeat' decreasing_trivial_pre_omega
        rfl
      | [h], _ =>
        repeat' decreasing_trivial_pre_omega
        rfl
      | [h, x], hw =>
        have hx := hw x (by simp)
        cases h with
        | str s =>
          rw [Str.tx s]
          generalize s.cps.toList = q
          have e : isS (k + 1) (.tuple [.str (tx q), x]) = ((decide (q = [104, 97, 115]) && txB x) || (decide (q = [110, 111, 116]) && isS k x)) := by
            show ((isH _ _ && txB x) || (isH _ _ && isS k x)) = _
            rw [isH_tx, isH_tx]
          rw [e]
          repeat' decreasing_trivial_pre_omega
          refine wB_d (fun h1 => ?_) (fun h1 => ?_)
          · subst h1
            repeat' decreasing_trivial_pre_omega
            refine wF_ret (is_text_any hx) ?_
            repeat' decreasing_trivial_pre_omega
            simp
          · repeat' decreasing_trivial_pre_omega
            refine wB_d (fun h2 => ?_) (fun h2 => ?_)
            · subst h2
              repeat' decreasing_trivial_pre_omega
              rw [hk1]
              refine wF_ret (ih x hx m (by omega)) ?_
              repeat' decreasing_trivial_pre_omega
              simp
            · rw [decide_eq_false h1, decide_eq_false h2]
              repeat' decreasing_trivial_pre_omega
              rw [any_ao]
              cases (decide (q = [97, 110, 100]) || decide (q = [111, 114])) <;>
              · repeat' decreasing_trivial_pre_omega
                rfl
        | _ =>
          repeat' decreasing_trivial_pre_omega
          rfl
      | [h, x, y], hw =>
        have hx := hw x (by simp)
        have hy := hw y (by simp)
        cases h with
        | str s =>
          rw [Str.tx s]
          generalize s.cps.toList = q
          have e : isS (k + 1) (.tuple [.str (tx q), x, y]) = ((decide (q = [97, 110, 100]) || decide (q = [111, 114])) && (isS k x && isS k y)) := by
            show ((isH _ _ || isH _ _) && _) = _
            rw [isH_tx, isH_tx]
          rw [e]
          repeat' decreasing_trivial_pre_omega
          refine wB_d (fun h1 => ?_) (fun h1 => ?_)
          · subst h1
            repeat' decreasing_trivial_pre_omega
            rfl
          · repeat' decreasing_trivial_pre_omega
            refine wB_d (fun h2 => ?_) (fun h2 => ?_)
            · subst h2
              repeat' decreasing_trivial_pre_omega
              rfl
            · repeat' decreasing_trivial_pre_omega
              rw [any_ao]
              cases (decide (q = [97, 110, 100]) || decide (q = [111, 114])) with
              | false =>
                repeat' decreasing_trivial_pre_omega
                rfl
              | true =>
                repeat' decreasing_trivial_pre_omega
                rw [hk1]
                refine wF_ret (ih x hx m (by omega)) ?_
                repeat' decreasing_trivial_pre_omega
                cases isS k x with
                | false =>
                  repeat' decreasing_trivial_pre_omega
                  rfl
                | true =>
                  repeat' decreasing_trivial_pre_omega
                  rw [hk1]
                  refine wF_ret (ih y hy m (by omega)) ?_
                  repeat' decreasing_trivial_pre_omega
                  rfl
        | _ =>
          repeat' decreasing_trivial_pre_omega
          rfl
      | a :: b :: c :: e :: r, hw =>
        rw [isS_many]
        have hl : ((a :: b :: c :: e :: r).length : Int) = (r.length : Int) + 4 := by simp only [List.length_cons]; omega
        cases a with
        | str s =>
          rw [Str.tx s]
          generalize s.cps.toList = q
          repeat' decreasing_trivial_pre_omega
          refine wB_d (fun h1 => ?_) (fun h1 => ?_)
          · subst h1
            repeat' decreasing_trivial_pre_omega
            rfl
          · repeat' decreasing_trivial_pre_omega
            refine wB_d (fun h2 => ?_) (fun h2 => ?_)
            · subst h2
              repeat' decreasing_trivial_pre_omega
              rfl
            · repeat' decreasing_trivial_pre_omega
              rw [any_ao]
              cases (decide (q = [97, 110, 100]) || decide (q = [111, 114])) with
              | false =>
                repeat' decreasing_trivial_pre_omega
                rfl
              | true =>
                repeat' decreasing_trivial_pre_omega
                rfl
        | _ =>
          repeat' decreasing_trivial_pre_omega
          rfl
    | _ =>
      repeat' decreasing_trivial_pre_omega
      rfl
end QM
namespace QM
open PySem PySem.Spec L2 QL QP
local macro_rules | `(tactic| decreasing_trivial_pre_omega) => `(tactic| first
  | apply QM.Step.go
  | refine ⟨rfl, ?_⟩
  | refine ⟨⟨rfl, rfl⟩, ?_⟩
  | refine ⟨_, rfl, ?_⟩
  | refine ⟨_, _, rfl, ?_⟩
  | refine ⟨_, _, _, rfl, ?_⟩
  | refine ⟨Nat.le_of_ble_eq_true rfl, ?_⟩
  | refine wAt_r rfl ?_
  | refine wB_t rfl ?_
  | refine wB_f rfl ?_)
theorem sub_all {n m : Nat} : ∀ {ds : List D}, PyData.showableAll ds = true → PyData.depthAll ds ≤ n → PyData.leavesShortAll 40 ds = true → PyData.weightAll ds ≤ m → ∀ d ∈ ds, Lt n m d
  | d :: ds, h1, h2, h3, h4, e, he => by
    simp only [PyData.showableAll, PyData.leavesShortAll, Bool.and_eq_true] at h1 h3
    simp only [PyData.depthAll, PyData.weightAll] at h2 h4
    rcases List.mem_cons.mp he with rfl | he
    · exact ⟨h1.1, by omega, h3.1, by omega⟩
    · exact sub_all h1.2 (by omega) h3.2 (by omega) e he
theorem lt_sub {n m : Nat} {ds : List D} (h : Lt n m (.tuple ds)) : ∀ d ∈ ds, Lt n m d := by
  obtain ⟨h1, h2, h3, h4⟩ := h
  simp only [PyData.showable, PyData.depth, PyData.leavesShort, PyData.weight] at h1 h2 h3 h4
  exact sub_all h1 (by omega) h3 (by omega)
theorem isH_eq {m : List Nat} {d : D} (h : isH m d = true) : d = .str (tx m) := by
  cases d with
  | str s =>
    have : s.cps.toList = m := by simpa [isH] using h
    rw [Str.tx s, this]
  | _ => cases h
theorem any3 {h : D} (hh : hdB h = true) : ([PyData.str (PyData.str (tx [110, 111, 116])).shown, PyData.str (PyData.str (tx [97, 110, 100])).shown, PyData.str (PyData.str (tx [111, 114])).shown].any fun y => PyData.eqv y (PyData.str h.shown)) = (isH [110, 111, 116] h || (isH [97, 110, 100] h || isH [111, 114] h)) := by
  simp only [List.any_cons, List.any_nil, Bool.or_false, eqv_str]
  rw [show decide ((PyData.str (tx [110, 111, 116])).shown = h.shown) = isH [110, 111, 116] h from by rw [← sh_is hh (by decide)]; exact decide_eq_decide.mpr eq_comm,
    show decide ((PyData.str (tx [97, 110, 100])).shown = h.shown) = isH [97, 110, 100] h from by rw [← sh_is hh (by decide)]; exact decide_eq_decide.mpr eq_comm,
    show decide ((PyData.str (tx [111, 114])).shown = h.shown) = isH [111, 114] h from by rw [← sh_is hh (by decide)]; exact decide_eq_decide.mpr eq_comm]
theorem isS_head {k : Nat} {h : D} {r : List D} (h1 : isH [104, 97, 115] h = false) (h2 : isH [110, 111, 116] h = false) (h3 : isH [97, 110, 100] h = false) (h4 : isH [111, 114] h = false) : isS k (.tuple (h :: r)) = false := by
  cases k with
  | zero => rfl
  | succ k =>
    match r with
    | [] => rfl
    | [x] => show ((isH _ _ && _) || (isH _ _ && _)) = _; rw [h1, h2]; rfl
    | [x, y] => show ((isH _ _ || isH _ _) && _) = _; rw [h3, h4]; rfl
    | x :: y :: z :: r => rfl
theorem shw {l : List Nat} (h : l ∈ hdL) : showA (.str (tx l)) = true := by
  revert l
  decide +kernel
def notZ : D → Option D
  | .str s => if s.cps.toList.all fun c => decide (97 ≤ c ∧ c ≤ 122) then none else some (.str s)
  | _ => none
theorem notZ_all (q : List Nat) : ((ltrs q).filterMap notZ).isEmpty = decide (Tx q) := by
  induction q with
  | nil => rfl
  | cons c q ih =>
    have e : notZ (.str (tx [c])) = if decide (97 ≤ c ∧ c ≤ 122) = true then none else some (.str (tx [c])) := by
      show (if ((tx [c]).cps.toList.all fun c => decide (97 ≤ c ∧ c ≤ 122)) = true then none else _) = _
      rw [tx_cps]
      simp
    show ((PyData.str (tx [c]) :: ltrs q).filterMap notZ).isEmpty = _
    rw [List.filterMap_cons, e]
    by_cases h : 97 ≤ c ∧ c ≤ 122
    · rw [if_pos (decide_eq_true h)]
      dsimp only
      rw [ih]
      refine decide_eq_decide.mpr ⟨fun z d hd => ?_, fun z d hd => z d (List.mem_cons_of_mem _ hd)⟩
      rcases List.mem_cons.mp hd with rfl | hd
      · exact h
      · exact z d hd
    · rw [if_neg (by simpa using h)]
      dsimp only
      rw [List.isEmpty_cons]
      exact (decide_eq_false fun z => h (z c (List.mem_cons_self ..))).symm
theorem lis_R {M : Nat} (hM : M ≤ 30000) : ∀ (k : Nat) (d : D), wl d = true → Lt 45 M d → ∀ n, k < n → Ret (R__law_is_saying n [d, .int (k : Nat)]) (.fz (.bool (isS k d))) := by
  intro k
  induction k with
  | zero =>
    intro d hd hlt n hn
    obtain ⟨m, rfl⟩ : ∃ m, n = m + 1 := ⟨n - 1, by omega⟩
    show Ret (bodyF 4 (B__law_is_saying (R__law_is_saying m)) [d, .int ((0 : Nat) : Int)]) _
    refine Ret.go ?_
    unfold B__law_is_saying
    cases d <;>
    · repeat' decreasing_trivial_pre_omega
      rfl
  | succ k ih =>
    intro d hd hlt n hn
    obtain ⟨m, rfl⟩ : ∃ m, n = m + 1 := ⟨n - 1, by omega⟩
    have hk1 : ((k + 1 : Nat) : Int) - 1 = ((k : Nat) : Int) := by omega
    show Ret (bodyF 4 (B__law_is_saying (R__law_is_saying m)) [d, .int ((k + 1 : Nat) : Int)]) _
    refine Ret.go ?_
    unfold B__law_is_saying
    cases d with
    | tuple ds =>
      cases ds with
      | nil =>
        repeat' decreasing_trivial_pre_omega
        rfl
      | cons h r =>
        have hlt' := lt_sub hlt
        have sh := (hlt' h (by simp)).show (by decide) hM
        simp only [wl, Bool.and_eq_true] at hd
        have hh : hdB h = true := hd.1
        have hw := wls_all hd.2
        repeat' decreasing_trivial_pre_omega
        refine ⟨sh, ?_⟩
        repeat' decreasing_trivial_pre_omega
        refine ⟨shw (by decide), ?_⟩
        repeat' decreasing_trivial_pre_omega
        rw [eqv_str, sh_is hh (by decide)]
        cases e1 : isH [104, 97, 115] h with
        | true =>
          have := isH_eq e1
          subst this
          repeat' decreasing_trivial_pre_omega
          match r, hw with
          | [], _ =>
            repeat' decreasing_trivial_pre_omega
            rfl
          | x :: y :: [], _ =>
            repeat' decreasing_trivial_pre_omega
            rfl
          | x :: y :: z :: r, _ =>
            rw [isS_many]
            repeat' decreasing_trivial_pre_omega
            rfl
          | [x], hw =>
            have hx := hw x (by simp)
            have e : isS (k + 1) (.tuple [.str (tx [104, 97, 115]), x]) = txB x := by
              show ((isH _ _ && txB x) || (isH _ _ && isS k x)) = _
              rw [e1, isH_tx]; simp
            rw [e]
            cases x with
            | str s =>
              have hs : s.length ≤ 1000 := by simpa [wl] using hx
              have hq : s.cps.toList.length ≤ 1000 := by
                have : s.cps.size ≤ 1000 := hs
                rw [Array.length_toList]; omega
              rw [Str.tx s, txB_tx]
              generalize s.cps.toList = q at *
              repeat' decreasing_trivial_pre_omega
              refine ⟨szb' (by omega), ?_⟩
              repeat' decreasing_trivial_pre_omega
              refine lc_map notZ (szb' (by rw [ltrs_len]; omega)) (fun d hd => ?_) ?_
              · obtain ⟨c, hc, rfl⟩ := List.mem_map.mp hd
                have ez : notZ (.str (tx [c])) = if decide (97 ≤ c ∧ c ≤ 122) = true then none else some (.str (tx [c])) := by
                  show (if ((tx [c]).cps.toList.all fun c => decide (97 ≤ c ∧ c ≤ 122)) = true then none else _) = _
                  rw [tx_cps]
                  simp
                unfold _law_is_saying_t1 _law_is_saying_e2
                repeat' decreasing_trivial_pre_omega
                rw [lt_one]
                refine wB_d (fun h1 => ?_) (fun h1 => ?_)
                · repeat' decreasing_trivial_pre_omega
                  exact ⟨by rw [ez, if_neg (by simp; omega)], rfl⟩
                · repeat' decreasing_trivial_pre_omega
                  rw [lt_one]
                  refine wB_d (fun h2 => ?_) (fun h2 => ?_)
                  · repeat' decreasing_trivial_pre_omega
                    exact ⟨by rw [ez, if_neg (by simp; omega)], rfl⟩
                  · repeat' decreasing_trivial_pre_omega
                    exact ⟨by rw [ez, if_pos (decide_eq_true (by omega))], rfl⟩
              · repeat' decreasing_trivial_pre_omega
                rw [notZ_all]
                rfl
            | _ =>
              repeat' decreasing_trivial_pre_omega
              rfl
        | false =>
          repeat' decreasing_trivial_pre_omega
          refine ⟨sh, ?_⟩
          repeat' decreasing_trivial_pre_omega
          refine ⟨shw (by decide), ?_⟩
          repeat' decreasing_trivial_pre_omega
          refine ⟨shw (by decide), ?_⟩
          repeat' decreasing_trivial_pre_omega
          refine ⟨shw (by decide), ?_⟩
          repeat' decreasing_trivial_pre_omega
          rw [any3 hh]
          cases e2 : isH [110, 111, 116] h with
          | true =>
            have := isH_eq e2
            subst this
            repeat' decreasing_trivial_pre_omega
            match r, hw, hlt' with
            | [], _, _ =>
              repeat' decreasing_trivial_pre_omega
              rfl
            | x :: y :: [], _, _ =>
              repeat' decreasing_trivial_pre_omega
              rfl
            | x :: y :: z :: r, _, _ =>
              rw [isS_many]
              repeat' decreasing_trivial_pre_omega
              rfl
            | [x], hw, hlt' =>
              have hx := hw x (by simp)
              have e : isS (k + 1) (.tuple [.str (tx [110, 111, 116]), x]) = isS k x := by
                show ((isH _ _ && txB x) || (isH _ _ && isS k x)) = _
                rw [e1, e2]; simp
              rw [e]
              repeat' decreasing_trivial_pre_omega
              unfold _law_is_saying_t3 _law_is_saying_e4
              repeat' decreasing_trivial_pre_omega
              rw [hk1]
              refine wF_ret (ih x hx (hlt' x (by simp)) m (by omega)) ?_
              cases isS k x with
              | false =>
                repeat' decreasing_trivial_pre_omega
                rfl
              | true =>
                repeat' decreasing_trivial_pre_omega
                rfl
          | false =>
            cases e34 : (isH [97, 110, 100] h || isH [111, 114] h) with
            | false =>
              have e3 : isH [97, 110, 100] h = false := by revert e34; cases isH [97, 110, 100] h <;> simp
              have e4 : isH [111, 114] h = false := by revert e34; cases isH [111, 114] h <;> simp
              rw [isS_head e1 e2 e3 e4]
              repeat' decreasing_trivial_pre_omega
              rfl
            | true =>
              have hs : ∃ q, q ≠ [110, 111, 116] ∧ h = .str (tx q) := by
                simp only [Bool.or_eq_true] at e34
                rcases e34 with z | z
                · exact ⟨_, by decide, isH_eq z⟩
                · exact ⟨_, by decide, isH_eq z⟩
              obtain ⟨q, hq, rfl⟩ := hs
              repeat' decreasing_trivial_pre_omega
              refine wB_f (decide_eq_false hq) ?_
              repeat' decreasing_trivial_pre_omega
              match r, hw, hlt' with
              | [], _, _ =>
                repeat' decreasing_trivial_pre_omega
                rfl
              | [x], _, _ =>
                have e : isS (k + 1) (.tuple [.str (tx q), x]) = false := by
                  show ((isH _ _ && txB x) || (isH _ _ && isS k x)) = _
                  rw [e1, e2]; rfl
                rw [e]
                repeat' decreasing_trivial_pre_omega
                rfl
              | x :: y :: z :: r, _, _ =>
                rw [isS_many]
                repeat' decreasing_trivial_pre_omega
                rfl
              | [x, y], hw, hlt' =>
                have hx := hw x (by simp)
                have hy := hw y (by simp)
                have e : isS (k + 1) (.tuple [.str (tx q), x, y]) = (isS k x && isS k y) := by
                  show ((isH _ _ || isH _ _) && _) = _
                  rw [e34]; rfl
                rw [e]
                repeat' decreasing_trivial_pre_omega
                unfold _law_is_saying_t3 _law_is_saying_e4
                repeat' decreasing_trivial_pre_omega
                rw [hk1]
                refine wF_ret (ih x hx (hlt' x (by simp)) m (by omega)) ?_
                cases isS k x <;>
                · repeat' decreasing_trivial_pre_omega
                  rw [hk1]
                  refine wF_ret (ih y hy (hlt' y (by simp)) m (by omega)) ?_
                  cases isS k y <;>
                  · repeat' decreasing_trivial_pre_omega
                    rfl
    | _ =>
      repeat' decreasing_trivial_pre_omega
      rfl
end QM
namespace QM
open PySem PySem.Spec L2 QL QP
local macro_rules | `(tactic| decreasing_trivial_pre_omega) => `(tactic| first
  | apply QM.Step.go
  | refine ⟨rfl, ?_⟩
  | refine ⟨⟨rfl, rfl⟩, ?_⟩
  | refine ⟨_, rfl, ?_⟩
  | refine ⟨_, _, rfl, ?_⟩
  | refine ⟨_, _, _, rfl, ?_⟩
  | refine ⟨Nat.le_of_ble_eq_true rfl, ?_⟩
  | refine wAt_r rfl ?_
  | refine wB_t rfl ?_
  | refine wB_f rfl ?_)
def Sy.ok2 : Sy → Prop
  | .has p => Tx p ∧ p.length ≤ 2
  | .no s => s.ok2
  | .an s t => s.ok2 ∧ t.ok2
  | .or s t => s.ok2 ∧ t.ok2
theorem Sy.ok2_ok : ∀ {s : Sy}, s.ok2 → s.ok
  | .has p, h => ⟨h.1, by have := h.2; omega⟩
  | .no s, h => Sy.ok2_ok (s := s) h
  | .an s t, h => ⟨Sy.ok2_ok h.1, Sy.ok2_ok h.2⟩
  | .or s t, h => ⟨Sy.ok2_ok h.1, Sy.ok2_ok h.2⟩
theorem drawn2_sp {ls : List Nat} (h0 : ls ≠ []) (h1 : ls.length ≤ 1000) (hx : Tx ls) : ∀ (n k : Nat) (t : Int × Int), TapeOk t = true → 1 ≤ k → k ≤ n →
    wFT (R__law_drawn_saying n t [.str (tx ls), .int (k : Nat)]) (fun v t' => TapeOk t' = true ∧ ∃ s : Sy, v = .fz s.d ∧ s.ok2 ∧ s.deep ≤ k) (fun _ _ _ => False) := by
  intro n
  induction n with
  | zero => exact fun k t _ a b => absurd (Nat.le_trans a b) (by decide)
  | succ n ih =>
    intro k t ok hk1 hk
    show wFT (bodyT 4 (B__law_drawn_saying (R__law_drawn_saying n)) t _) _ _
    refine wFT_go ?_
    unfold B__law_drawn_saying
    have leaf : ∀ (t' : Int × Int) (w : SV), TapeOk t' = true → wFT (F__law_drawn_text t' [.str (tx ls), .int 2]) (fun v t' => TapeOk t' = true ∧ ∃ l : List Nat, v = .fz (.str (tx l)) ∧ l.length ≤ 2 ∧ ∀ c ∈ l, c ∈ ls) (fun _ _ _ => False) := fun t' w o => drawn_text_sp (most := 2) o h0 h1 (by decide)
    repeat' decreasing_trivial_pre_omega
    refine wB_d (fun hk2 => ?_) (fun hk2 => ?_)
    · have e1 : ((k : Nat) : Int) - 1 = ((k - 1 : Nat) : Int) := by omega
      repeat' decreasing_trivial_pre_omega
      refine wFT_use (pick_sp ok (by decide) (by decide)) (fun v t1 ⟨o1, f, e, hf⟩ => ?_)
      subst e
      repeat' decreasing_trivial_pre_omega
      refine wB_d (fun hf2 => ?_) (fun hf2 => ?_)
      · repeat' decreasing_trivial_pre_omega
        refine wFT_use (leaf _ (.fz .none) o1) (fun v t2 ⟨o2, l, e, h2, h3⟩ => ?_)
        subst e
        repeat' decreasing_trivial_pre_omega
        exact ⟨o2, .has l, rfl, ⟨fun c hc => hx c (h3 c hc), by omega⟩, by simp only [Sy.deep]; omega⟩
      · repeat' decreasing_trivial_pre_omega
        refine wB_d (fun hf3 => ?_) (fun hf3 => ?_)
        · repeat' decreasing_trivial_pre_omega
          rw [e1]
          refine wFT_use (ih (k - 1) _ o1 (by omega) (by omega)) (fun v t2 ⟨o2, s, e, h2, h3⟩ => ?_)
          subst e
          repeat' decreasing_trivial_pre_omega
          exact ⟨o2, .no s, rfl, h2, by simp only [Sy.deep]; omega⟩
        · repeat' decreasing_trivial_pre_omega
          refine wB_d (fun hf4 => ?_) (fun hf4 => ?_)
          · repeat' decreasing_trivial_pre_omega
            rw [e1]
            refine wFT_use (ih (k - 1) _ o1 (by omega) (by omega)) (fun v t2 ⟨o2, s, e, h2, h3⟩ => ?_)
            subst e
            repeat' decreasing_trivial_pre_omega
            rw [e1]
            refine wFT_use (ih (k - 1) _ o2 (by omega) (by omega)) (fun v t3 ⟨o3, s2, e, h4, h5⟩ => ?_)
            subst e
            repeat' decreasing_trivial_pre_omega
            exact ⟨o3, .an s s2, rfl, ⟨h2, h4⟩, by simp only [Sy.deep]; omega⟩
          · repeat' decreasing_trivial_pre_omega
            rw [e1]
            refine wFT_use (ih (k - 1) _ o1 (by omega) (by omega)) (fun v t2 ⟨o2, s, e, h2, h3⟩ => ?_)
            subst e
            repeat' decreasing_trivial_pre_omega
            rw [e1]
            refine wFT_use (ih (k - 1) _ o2 (by omega) (by omega)) (fun v t3 ⟨o3, s2, e, h4, h5⟩ => ?_)
            subst e
            repeat' decreasing_trivial_pre_omega
            exact ⟨o3, .or s s2, rfl, ⟨h2, h4⟩, by simp only [Sy.deep]; omega⟩
    · repeat' decreasing_trivial_pre_omega
      refine wFT_use (leaf _ (.fz .none) ok) (fun v t2 ⟨o2, l, e, h2, h3⟩ => ?_)
      subst e
      repeat' decreasing_trivial_pre_omega
      exact ⟨o2, .has l, rfl, ⟨fun c hc => hx c (h3 c hc), by omega⟩, by simp only [Sy.deep]; omega⟩
theorem dAdd_T {x y : List D} (h : x.length + y.length ≤ sizeLine) : ∃ z, dAdd (.tuple x) (.tuple y) = some z ∧ ovS z = .fz (.tuple (x ++ y)) := by
  unfold dAdd
  dsimp only
  rw [if_pos h]
  by_cases h1 : x.length = 0
  · rw [if_pos h1]
    rw [List.length_eq_zero_iff.mp h1]
    exact ⟨_, rfl, rfl⟩
  · rw [if_neg h1]
    by_cases h2 : y.length = 0
    · rw [if_pos h2]
      rw [List.length_eq_zero_iff.mp h2, List.append_nil]
      exact ⟨_, rfl, rfl⟩
    · rw [if_neg h2]
      exact ⟨_, rfl, rfl⟩
instance {x y : List D} {r : S} {P : SV → S → Prop} : Step (wO (dAdd (.tuple x) (.tuple y)) r P) (x.length + y.length ≤ 1000000 ∧ P (.fz (.tuple (x ++ y))) r) := ⟨fun ⟨h, q⟩ => by
  obtain ⟨z, e1, e2⟩ := dAdd_T (x := x) (y := y) (by rw [sizeLine_eq]; omega)
  exact ⟨z, e1, by rw [e2]; exact q⟩⟩
theorem lt_tx {q : List Nat} (h : Tx q) : Lt 0 q.length (.str (tx q)) := by
  refine ⟨rfl, by simp [PyData.depth], ?_, by simp [PyData.weight, tx]⟩
  show (tx q).cps.toList.all _ = true
  simp only [List.all_eq_true, decide_eq_true_eq]
  intro c hc
  have := (h c (by simpa [tx] using hc)).2
  have e : (16 : Nat) ^ 8 = 4294967296 := by decide
  omega
theorem lt_t2 {n a b : Nat} {x y : D} (hx : Lt n a x) (hy : Lt n b y) : Lt (n + 1) (a + b + 2) (.tuple [x, y]) := by
  obtain ⟨a1, a2, a3, a4⟩ := hx
  obtain ⟨b1, b2, b3, b4⟩ := hy
  refine ⟨by simp [PyData.showable, PyData.showableAll, a1, b1], by simp only [PyData.depth, PyData.depthAll]; omega, by simp [PyData.leavesShort, PyData.leavesShortAll, a3, b3], by simp only [PyData.weight, PyData.weightAll]; omega⟩
theorem lt_t3 {n a b c : Nat} {x y z : D} (hx : Lt n a x) (hy : Lt n b y) (hz : Lt n c z) : Lt (n + 1) (a + b + c + 3) (.tuple [x, y, z]) := by
  obtain ⟨a1, a2, a3, a4⟩ := hx
  obtain ⟨b1, b2, b3, b4⟩ := hy
  obtain ⟨c1, c2, c3, c4⟩ := hz
  refine ⟨by simp [PyData.showable, PyData.showableAll, a1, b1, c1], by simp only [PyData.depth, PyData.depthAll]; omega, by simp [PyData.leavesShort, PyData.leavesShortAll, a3, b3, c3], by simp only [PyData.weight, PyData.weightAll]; omega⟩
theorem lt_tl {n m : Nat} {ds : List D} (h : Lt n m (.tuple ds)) : Lt n m (.list ds) := by
  obtain ⟨h1, h2, h3, h4⟩ := h
  simp only [PyData.showable, PyData.depth, PyData.leavesShort, PyData.weight] at h1 h2 h3 h4
  exact ⟨by simpa [PyData.showable] using h1, by simp only [PyData.depth]; omega, by simpa [PyData.leavesShort] using h3, by simp only [PyData.weight]; omega⟩
theorem sy_lt : ∀ (s : Sy), s.ok2 → Lt s.deep (12 * 2 ^ s.deep - 6) s.d
  | .has p, h => (lt_t2 (lt_tx (q := [104, 97, 115]) (by decide)) ((lt_tx h.1).up (Nat.le_refl _) h.2)).up (Nat.le_refl _) (show 3 + 2 + 2 ≤ 12 * 2 ^ 1 - 6 by decide)
  | .no s, h => by
    have := sy_lt s h
    have p : 0 < 2 ^ s.deep := Nat.pow_pos (by decide)
    refine (lt_t2 ((lt_tx (q := [110, 111, 116]) (by decide)).up (Nat.zero_le _) (Nat.le_refl _)) this).up (Nat.le_refl _) ?_
    show 3 + (12 * 2 ^ s.deep - 6) + 2 ≤ 12 * 2 ^ (s.deep + 1) - 6
    rw [Nat.pow_succ]
    omega
  | .an s t, h => by
    have a := sy_lt s h.1
    have b := sy_lt t h.2
    have p : 0 < 2 ^ max s.deep t.deep := Nat.pow_pos (by decide)
    have l1 : 2 ^ s.deep ≤ 2 ^ max s.deep t.deep := Nat.pow_le_pow_right (by decide) (by omega)
    have l2 : 2 ^ t.deep ≤ 2 ^ max s.deep t.deep := Nat.pow_le_pow_right (by decide) (by omega)
    refine (lt_t3 ((lt_tx (q := [97, 110, 100]) (by decide)).up (Nat.zero_le _) (Nat.le_refl _)) (a.up (by omega) (Nat.le_refl _)) (b.up (by omega) (Nat.le_refl _)) (n := max s.deep t.deep)).up (Nat.le_refl _) ?_
    show 3 + (12 * 2 ^ s.deep - 6) + (12 * 2 ^ t.deep - 6) + 3 ≤ 12 * 2 ^ (max s.deep t.deep + 1) - 6
    rw [Nat.pow_succ]
    omega
  | .or s t, h => by
    have a := sy_lt s h.1
    have b := sy_lt t h.2
    have p : 0 < 2 ^ max s.deep t.deep := Nat.pow_pos (by decide)
    have l1 : 2 ^ s.deep ≤ 2 ^ max s.deep t.deep := Nat.pow_le_pow_right (by decide) (by omega)
    have l2 : 2 ^ t.deep ≤ 2 ^ max s.deep t.deep := Nat.pow_le_pow_right (by decide) (by omega)
    refine (lt_t3 ((lt_tx (q := [111, 114]) (by decide)).up (Nat.zero_le _) (show 2 ≤ 3 by decide)) (a.up (by omega) (Nat.le_refl _)) (b.up (by omega) (Nat.le_refl _)) (n := max s.deep t.deep)).up (Nat.le_refl _) ?_
    show 3 + (12 * 2 ^ s.deep - 6) + (12 * 2 ^ t.deep - 6) + 3 ≤ 12 * 2 ^ (max s.deep t.deep + 1) - 6
    rw [Nat.pow_succ]
    omega
theorem sy_lt3 {s : Sy} (h : s.ok2) (hd : s.deep ≤ 3) : Lt 3 90 s.d := by
  have l : 2 ^ s.deep ≤ 2 ^ 3 := Nat.pow_le_pow_right (by decide) hd
  exact (sy_lt s h).up hd (by have e : (2 : Nat) ^ 3 = 8 := by decide
                              omega)
theorem wl_tx {q : List Nat} (h : q.length ≤ 1000) : wl (.str (tx q)) = true := by
  unfold wl
  rw [tx_len]
  exact decide_eq_true h
theorem hd_tx {q : List Nat} (h : q ∈ hdL) : hdB (.str (tx q)) = true := by
  unfold hdB
  exact decide_eq_true (by rw [tx_cps]; exact h)
theorem sy_wl : ∀ (s : Sy), s.ok2 → wl s.d = true
  | .has p, h => wl_tup (hd_tx (by decide)) (wl_tx (by decide)) fun d hd => by
    rw [List.mem_singleton.mp hd]
    exact wl_tx (by have := h.2; omega)
  | .no s, h => wl_tup (hd_tx (by decide)) (wl_tx (by decide)) fun d hd => by
    rw [List.mem_singleton.mp hd]
    exact sy_wl s h
  | .an s t, h => wl_tup (hd_tx (by decide)) (wl_tx (by decide)) fun d hd => by
    simp only [List.mem_cons, List.not_mem_nil, or_false] at hd
    rcases hd with rfl | rfl
    · exact sy_wl s h.1
    · exact sy_wl t h.2
  | .or s t, h => wl_tup (hd_tx (by decide)) (wl_tx (by decide)) fun d hd => by
    simp only [List.mem_cons, List.not_mem_nil, or_false] at hd
    rcases hd with rfl | rfl
    · exact sy_wl s h.1
    · exact sy_wl t h.2
/-- a saying is a tuple with a word ahead -/
theorem sy_tup {s : Sy} (h : s.ok2) (hd : s.deep ≤ 3) : ∃ (w : List Nat) (r : List D), s.d = .tuple (.str (tx w) :: r) ∧ w ∈ hdL ∧ w.length ≤ 3 ∧ Tx w ∧ 1 ≤ r.length ∧ r.length ≤ 2 ∧ ∀ d ∈ r, wl d = true ∧ Lt 3 90 d := by
  have a := sy_lt3 h hd
  have b := sy_wl s h
  have key : ∀ (w : List Nat) (r : List D), s.d = .tuple (.str (tx w) :: r) → ∀ d ∈ r, wl d = true ∧ Lt 3 90 d := fun w r e d hd => by
    rw [e] at a b
    refine ⟨wls_all (by simp only [wl, Bool.and_eq_true] at b; exact b.2) d (List.mem_cons_of_mem _ hd), lt_sub a d (List.mem_cons_of_mem _ hd)⟩
  cases s with
  | has p => exact ⟨_, _, rfl, by decide, by decide, by decide, by simp, by simp, key _ _ rfl⟩
  | no s => exact ⟨_, _, rfl, by decide, by decide, by decide, by simp, by simp, key _ _ rfl⟩
  | an s t => exact ⟨_, _, rfl, by decide, by decide, by decide, by simp, by simp, key _ _ rfl⟩
  | or s t => exact ⟨_, _, rfl, by decide, by decide, by decide, by simp, by simp, key _ _ rfl⟩
/-- a thing: may be judged and shown -/
def Tg (d : D) : Prop := wl d = true ∧ Lt 40 1000 d
theorem tg_c {d : D} (h : (tiny d && wl d) = true) : Tg d := by
  simp only [Bool.and_eq_true] at h
  exact ⟨h.2, lt_tiny h.1⟩
theorem any_T {t : Int × Int} (ok : TapeOk t = true) : wFT (F__law_any t []) (fun v t' => TapeOk t' = true ∧ ∃ d, v = .fz d ∧ Tg d) (fun _ _ _ => False) := by
  refine wFT_go ?_
  unfold B__law_any
  repeat' decreasing_trivial_pre_omega
  refine ⟨⟨by decide, by decide +kernel⟩, ?_⟩
  repeat' decreasing_trivial_pre_omega
  refine wFT_use (one_all (Pb := fun d => tiny d && wl d) ok (by decide +kernel) (by simp) (by simp)) (fun v t1 ⟨o1, d, e, hd⟩ => ?_)
  subst e
  repeat' decreasing_trivial_pre_omega
  exact ⟨o1, d, rfl, tg_c hd⟩
def bs_1 (Fr : Int × Int → List D → FR) : S → RS := sAsg 2 (fCallT 0 1 F__law_pick (aCons (fC (.int 8)) (aNil)))
def bs_2 (Fr : Int × Int → List D → FR) : S → RS := sIf (tAndF (tV (fD (fOp dLt (gV 2) (fC (.int 3))))) (tV (fD (fOp dNe (fD (fOp dIx (gV 1) (fC (.int 0)))) (fC (.str "has")))))) (sSeq (sAsg 3 (fOp dAdd (fC (.int 1)) (fD (fCallT 0 1 F__law_pick (aCons (fD (fOp dSub (fD (fCB dLen (aCons (gV 1) (aNil)))) (fC (.int 1)))) (aNil))))))   (sRet (fOp dAdd (fD (fOp dAdd (fD (fSl (gV 1) (oNon) (oSom (gV 3)))) (fD (eTup (aCons (fD (fCallT 0 1 Fr (aCons (fD (fOp dIx (gV 1) (gV 3))) (aNil)))) (aNil)))))) (fD (fSl (gV 1) (oSom (fD (fOp dAdd (gV 3) (fC (.int 1))))) (oNon)))))) (sNext)
def bs_3 (Fr : Int × Int → List D → FR) : S → RS := sAsg 4 (eLst (aCons (fC .none) (aCons (fD (fCB dListA (aCons (gV 1) (aNil)))) (aCons (fD (fOp dAdd (gV 1) (fD (eTup (aCons (fD (eTup (aCons (fC (.str "has")) (aCons (fC (.str "a")) (aNil))))) (aNil)))))) (aCons (fD (fSl (gV 1) (oNon) (oSom (fC (.int 1))))) (aCons (fD (eTup (aNil))) (aCons (fD (eTup (aCons (fC (.str "has")) (aCons (fC (.str "A")) (aNil))))) (aCons (fD (eTup (aCons (fC (.str "has")) (aCons (fD (fOp dAdd (fC (.str "a")) (fD (fCallT 0 1 F__law_one_of (aCons (fD (eLst (aCons (fC (.str " ")) (aCons (fC (.str "1")) (aCons (fC (.str "-")) (aCons (fC (.str "_")) (aCons (fC (.str "{")) (aCons (fC (.str "~")) (aCons (fC (.str "\n")) (aCons (fC (.str "\t")) (aCons (fC (.str "!")) (aNil)))))))))))) (aNil)))))) (aNil))))) (aCons (fD (eTup (aCons (fC (.str "has")) (aCons (fC .none) (aNil))))) (aCons (fD (eTup (aCons (fC (.str "has")) (aCons (fD (eLst (aCons (fC (.str "a")) (aNil)))) (aNil))))) (aCons (fD (eTup (aCons (fC (.str "has")) (aNil)))) (aCons (fD (eTup (aCons (fC (.str "has")) (aCons (fC (.str "a")) (aCons (fC (.str "b")) (aNil)))))) (aCons (fD (eTup (aCons (fC (.str "nor")) (aCons (fV 1) (aNil))))) (aNil))))))))))))))
def bs_4 (Fr : Int × Int → List D → FR) : S → RS := sAsg 4 (fOp dAdd (gV 4) (fD (eLst (aCons (fD (eTup (aCons (fC (.str "not")) (aCons (fV 1) (aCons (fV 1) (aNil)))))) (aCons (fD (eTup (aCons (fC (.str "and")) (aCons (fV 1) (aNil))))) (aCons (fD (eTup (aCons (fC (.str "or")) (aCons (fV 1) (aCons (fC (.str "a")) (aNil)))))) (aCons (fD (eTup (aCons (fV 1) (aCons (fC (.str "and")) (aCons (fV 1) (aNil)))))) (aCons (fD (eTup (aCons (fC (.str "Has")) (aCons (fC (.str "a")) (aNil))))) (aCons (fD (eTup (aCons (fC .none) (aCons (fC (.str "a")) (aNil))))) (aCons (fD (eTup (aCons (fD (eLst (aCons (fC (.str "has")) (aNil)))) (aCons (fC (.str "a")) (aNil))))) (aCons (fD (eTup (aCons (fD (eLst (aNil))) (aCons (fC (.str "a")) (aNil))))) (aCons (fD (eTup (aCons (fD (eDK)) (aCons (fV 1) (aNil))))) (aCons (fD (fCallT 0 0 F__law_any (aNil))) (aNil))))))))))))))
def bs_5 (Fr : Int × Int → List D → FR) : S → RS := sRet (eIfF (tV (fD (fOp dLt (gV 2) (fC (.int 6))))) (fCallT 0 1 F__law_one_of (aCons (fV 4) (aNil))) (eD (fV 1)))
theorem bs_eq (Fr : Int × Int → List D → FR) : B__law_bent_saying Fr = sSeq (bs_1 Fr) (sSeq (bs_2 Fr) (sSeq (bs_3 Fr) (sSeq (bs_4 Fr) (bs_5 Fr)))) := rfl
instance : OfS " " [32] := ⟨by decide +kernel⟩
instance : OfS "_" [95] := ⟨by decide +kernel⟩
instance : OfS "{" [123] := ⟨by decide +kernel⟩
instance : OfS "~" [126] := ⟨by decide +kernel⟩
instance : OfS "\n" [10] := ⟨by decide +kernel⟩
instance : OfS "\t" [9] := ⟨by decide +kernel⟩
instance : OfS "!" [33] := ⟨by decide +kernel⟩
instance : OfS "nor" [110, 111, 114] := ⟨by decide +kernel⟩
instance : OfS "Has" [72, 97, 115] := ⟨by decide +kernel⟩
theorem tg_s {s : Sy} (h : s.ok2) (hd : s.deep ≤ 3) : Tg s.d := ⟨sy_wl s h, (sy_lt3 h hd).up (by decide) (by decide)⟩
section
variable {Fr : Int × Int → List D → FR} {t : Int × Int} {s : Sy} {f : Nat} {x3 x4 : Option SV}
abbrev Bs (d : D) (f : Nat) (x3 x4 : Option SV) (t : Int × Int) : S := ⟨[some .tape, some (.fz d), some (.fz (.int (f : Nat))), x3, x4], some t⟩
theorem lt_emp : Lt 3 0 (.dict []) := ⟨rfl, by decide, by decide, by decide⟩
theorem cut1 {a : D} {l : List D} : cutL (a :: l) none (some 1) = [a] := by
  exact cut_up (a :: l) 1
theorem tg_h2 {c : Nat} (h : tiny (.str (tx [97, c])) = true) : Lt 40 1000 (.tuple [.str (tx [104, 97, 115]), .str (tx [97, c])]) := by
  obtain ⟨a1, a2, a3, a4⟩ := lt_tiny h
  have z : Lt 0 2 (.str (tx [97, c])) := ⟨a1, by simp [PyData.depth], a3, by simp [PyData.weight, tx]⟩
  exact (lt_t2 (lt_tx (q := [104, 97, 115]) (by decide)) z).up (by decide) (by decide)
theorem bs3 (ok : TapeOk t = true) (h : s.ok2) (hd3 : s.deep ≤ 3) : wS (bs_3 Fr (Bs s.d f x3 x4 t)) (Pn fun r => ∃ ds t', TapeOk t' = true ∧ (∀ d ∈ ds, Tg d) ∧ ds.length ≤ 20 ∧ r = Bs s.d f x3 (some (.ol ds)) t') := by
  have ts := tg_s h hd3
  obtain ⟨w, r, es, hw1, hw2, hw3, hr1, hr2, hr⟩ := sy_tup h hd3
  rw [es] at ts ⊢
  have hW : Tg (.str (tx w)) := ⟨wl_tx (by omega), (lt_tx hw3).up (by decide) (by omega)⟩
  unfold bs_3
  repeat' decreasing_trivial_pre_omega
  refine ⟨by simp; omega, ?_⟩
  repeat' decreasing_trivial_pre_omega
  refine wFT_use (one_all (Pb := fun d => match d with | .str z => decide (z.cps.toList.length = 1) && tiny (.str (tx (97 :: z.cps.toList))) | _ => false) ok (by decide +kernel) (by simp) (by simp)) (fun v t1 ⟨o1, d, e, hd⟩ => ?_)
  subst e
  have hd2 : ∃ c, d = .str (tx [c]) ∧ tiny (.str (tx [97, c])) = true := by
    cases d with
    | str z =>
      simp only [Bool.and_eq_true, decide_eq_true_eq] at hd
      obtain ⟨c, hc⟩ := List.length_eq_one_iff.mp hd.1
      refine ⟨c, by rw [Str.tx z, hc], ?_⟩
      rw [← hc]; exact hd.2
    | _ => cases hd
  obtain ⟨c, rfl, hc⟩ := hd2
  repeat' decreasing_trivial_pre_omega
  refine ⟨_, t1, o1, ?_, ?_, rfl⟩
  · intro d hd
    rw [cut1] at hd
    simp only [List.mem_cons, List.not_mem_nil, or_false] at hd
    have tH : Tg (.str (tx [104, 97, 115])) := tg_c (by decide +kernel)
    have tA : Tg (.str (tx [97])) := tg_c (by decide +kernel)
    rcases hd with rfl | rfl | rfl | rfl | rfl | rfl | rfl | rfl | rfl | rfl | rfl | rfl
    · exact tg_c (by decide +kernel)
    · exact ⟨rfl, lt_tl ts.2⟩
    · refine ⟨wl_tup (hd_tx hw1) hW.1 fun d hd => ?_, (lt_tup (n := 3) (m := 90) (k := 4) (fun d hd => ?_) (by simp; omega)).up (by decide) (by decide)⟩
      · rcases List.mem_append.mp hd with hd | hd
        · exact (hr d hd).1
        · rw [List.mem_singleton.mp hd]; decide +kernel
      · rcases List.mem_cons.mp hd with rfl | hd
        · exact (lt_tx hw3).up (by decide) (by omega)
        · rcases List.mem_append.mp hd with hd | hd
          · exact (hr d hd).2
          · rw [List.mem_singleton.mp hd]
            exact (lt_t2 (lt_tx (q := [104, 97, 115]) (by decide)) ((lt_tx (q := [97]) (by decide)).up (Nat.le_refl _) (show 1 ≤ 3 by decide))).up (by decide) (by decide)
    · exact ⟨wl_tup (hd_tx hw1) hW.1 fun d hd => (by cases hd), (lt_tup (n := 0) (m := 3) (k := 1) (fun d hd => by rw [List.mem_singleton.mp hd]; exact (lt_tx hw3).up (Nat.le_refl _) hw2) (by simp)).up (by decide) (by decide)⟩
    · exact tg_c (by decide +kernel)
    · exact tg_c (by decide +kernel)
    · exact ⟨wl_tup (by decide +kernel) tH.1 fun d hd => by rw [List.mem_singleton.mp hd]; exact wl_tx (by simp), tg_h2 hc⟩
    · exact tg_c (by decide +kernel)
    · exact tg_c (by decide +kernel)
    · exact tg_c (by decide +kernel)
    · exact tg_c (by decide +kernel)
    · refine ⟨wl_tup (by decide +kernel) (by decide +kernel) fun d hd => by rw [List.mem_singleton.mp hd]; exact ts.1, ?_⟩
      rw [← es]
      exact (lt_t2 (n := 3) ((lt_tx (q := [110, 111, 114]) (by decide)).up (by decide) (Nat.le_refl _)) (sy_lt3 h hd3)).up (by decide) (by decide)
  · simp
theorem bs4 {ds : List D} (ok : TapeOk t = true) (h : s.ok2) (hd : s.deep ≤ 3) (h4 : ∀ d ∈ ds, Tg d) (hl : ds.length ≤ 20) : wS (bs_4 Fr (Bs s.d f x3 (some (.ol ds)) t)) (Pn fun r => ∃ ds t', TapeOk t' = true ∧ (∀ d ∈ ds, Tg d) ∧ ds.length ≤ 40 ∧ ds ≠ [] ∧ r = Bs s.d f x3 (some (.ol ds)) t') := by
  have ts := tg_s h hd
  have l3 := sy_lt3 h hd
  unfold bs_4
  repeat' decreasing_trivial_pre_omega
  refine wFT_use (any_T ok) (fun v t1 ⟨o1, d, e, hd⟩ => ?_)
  subst e
  repeat' decreasing_trivial_pre_omega
  refine ⟨szl' (by simp; omega), ?_⟩
  repeat' decreasing_trivial_pre_omega
  refine ⟨_, t1, o1, ?_, ?_, ?_, rfl⟩
  · intro e he
    have tA : Tg (.str (tx [97])) := tg_c (by decide +kernel)
    have wn : Lt 3 3 (.str (tx [110, 111, 116])) := (lt_tx (q := [110, 111, 116]) (by decide)).up (by decide) (Nat.le_refl _)
    have wa : Lt 3 3 (.str (tx [97, 110, 100])) := (lt_tx (q := [97, 110, 100]) (by decide)).up (by decide) (Nat.le_refl _)
    have wo : Lt 3 2 (.str (tx [111, 114])) := (lt_tx (q := [111, 114]) (by decide)).up (by decide) (Nat.le_refl _)
    have l1 : Lt 3 1 (.str (tx [97])) := (lt_tx (q := [97]) (by decide)).up (by decide) (Nat.le_refl _)
    rcases List.mem_append.mp he with he | he
    · exact h4 e he
    · simp only [List.mem_cons, List.not_mem_nil, or_false] at he
      rcases he with rfl | rfl | rfl | rfl | rfl | rfl | rfl | rfl | rfl | rfl
      · exact ⟨wl_tup (by decide +kernel) (by decide +kernel) fun d hd => by
          simp only [List.mem_cons, List.not_mem_nil, or_false] at hd
          rcases hd with rfl | rfl <;> exact ts.1, (lt_t3 wn l3 l3).up (by decide) (by decide)⟩
      · exact ⟨wl_tup (by decide +kernel) (by decide +kernel) fun d hd => by rw [List.mem_singleton.mp hd]; exact ts.1, (lt_t2 wa l3).up (by decide) (by decide)⟩
      · exact ⟨wl_tup (by decide +kernel) (by decide +kernel) fun d hd => by
          simp only [List.mem_cons, List.not_mem_nil, or_false] at hd
          rcases hd with rfl | rfl
          · exact ts.1
          · exact tA.1, (lt_t3 wo l3 l1).up (by decide) (by decide)⟩
      · exact ⟨wl_tup (by cases s <;> rfl) ts.1 fun d hd => by
          simp only [List.mem_cons, List.not_mem_nil, or_false] at hd
          rcases hd with rfl | rfl
          · decide +kernel
          · exact ts.1, (lt_t3 l3 wa l3).up (by decide) (by decide)⟩
      · exact tg_c (by decide +kernel)
      · exact tg_c (by decide +kernel)
      · exact tg_c (by decide +kernel)
      · exact tg_c (by decide +kernel)
      · exact ⟨wl_tup (by decide +kernel) (by decide +kernel) fun d hd => by rw [List.mem_singleton.mp hd]; exact ts.1, (lt_t2 (n := 3) (a := 0) lt_emp l3).up (by decide) (by decide)⟩
      · exact hd
  · simp; omega
  · simp
theorem bs5 (ok : TapeOk t = true) {ds : List D} (h : s.ok2) (hd : s.deep ≤ 3) (h4 : ∀ d ∈ ds, Tg d) (hl : ds.length ≤ 40) (h0 : ds ≠ []) : wS (bs_5 Fr (Bs s.d f x3 (some (.ol ds)) t)) ⟨fun _ => False, fun x r => x.out = true ∧ ∃ t, r.tp = some t ∧ TapeOk t = true ∧ ∃ d, x = .fz d ∧ Tg d, fun _ => False, fun _ => False, fun _ _ _ => False⟩ := by
  unfold bs_5
  repeat' decreasing_trivial_pre_omega
  refine wB_d (fun h1 => ?_) (fun h1 => ?_)
  · repeat' decreasing_trivial_pre_omega
    refine wFT_use (one_of_sp ok h0 (by omega)) (fun v t1 ⟨o1, d, hd, e⟩ => ?_)
    subst e
    repeat' decreasing_trivial_pre_omega
    exact ⟨o1, d, rfl, h4 d hd⟩
  · repeat' decreasing_trivial_pre_omega
    exact ⟨ok, _, rfl, tg_s h hd⟩
theorem bs_rest {p : Po} (hp : ∀ x r, (x.out = true ∧ ∃ t, r.tp = some t ∧ TapeOk t = true ∧ ∃ d, x = .fz d ∧ Tg d) → p.rt x r) (ok : TapeOk t = true) (h : s.ok2) (hd : s.deep ≤ 3) : wS (bs_3 Fr (Bs s.d f x3 x4 t)) (p.wn fun r => wS (sSeq (bs_4 Fr) (bs_5 Fr) r) p) := by
  refine wS_mono (bs3 ok h hd) ?_ ?_ ?_ ?_ ?_
  · rintro r ⟨ds, t1, o1, h4, h5, rfl⟩
    show wS (sSeq (bs_4 Fr) (bs_5 Fr) _) p
    refine seqP (bs4 o1 h hd h4 h5) fun r h3 => ?_
    obtain ⟨ds2, t2, o2, h6, h7, h8, rfl⟩ := h3
    refine wS_mono (bs5 o2 h hd h6 h7 h8) ?_ ?_ ?_ ?_ ?_
    · exact fun _ h => h.elim
    · exact fun v r h => hp v r h
    · exact fun _ h => h.elim
    · exact fun _ h => h.elim
    · exact fun _ _ _ h => h.elim
  · exact fun _ _ h => h.elim
  · exact fun _ h => h.elim
  · exact fun _ h => h.elim
  · exact fun _ _ _ h => h.elim
end
theorem bentS_sp : ∀ (k : Nat) (s : Sy) (t : Int × Int), s.ok2 → s.deep ≤ k → k ≤ 3 → TapeOk t = true → ∀ n, k ≤ n → wFT (R__law_bent_saying n t [s.d]) (fun v t' => TapeOk t' = true ∧ ∃ d, v = .fz d ∧ wl d = true ∧ Lt (40 + k) (1000 + 300 * k) d) (fun _ _ _ => False) := by
  intro k
  induction k with
  | zero => exact fun s t _ h => absurd (Nat.le_trans s.pos h) (by decide)
  | succ k ih =>
    intro s t h hd h3 ok n hn
    obtain ⟨m, rfl⟩ : ∃ m, n = m + 1 := ⟨n - 1, by omega⟩
    show wFT (bodyT 5 (B__law_bent_saying (R__law_bent_saying m)) t [s.d]) _ _
    refine wFT_go ?_
    rw [bs_eq]
    refine seqP (q := fun r => ∃ f t', TapeOk t' = true ∧ r = Bs s.d f none none t') ?_ fun r hr => ?_
    · unfold bs_1
      repeat' decreasing_trivial_pre_omega
      refine wFT_use (pick_sp ok (by decide) (by decide)) (fun v t1 ⟨o1, f, e, hf⟩ => ?_)
      subst e
      repeat' decreasing_trivial_pre_omega
      exact ⟨f, t1, o1, rfl⟩
    obtain ⟨f, t1, o1, rfl⟩ := hr
    have rest := fun (p : Po) (hp : ∀ x r, (x.out = true ∧ ∃ t, r.tp = some t ∧ TapeOk t = true ∧ ∃ d, x = .fz d ∧ Tg d) → p.rt x r) => bs_rest (Fr := R__law_bent_saying m) (f := f) (x3 := none) (x4 := none) hp o1 h (by omega : s.deep ≤ 3)
    have fin : ∀ (x : SV) (r : S), (x.out = true ∧ ∃ t, r.tp = some t ∧ TapeOk t = true ∧ ∃ d, x = .fz d ∧ Tg d) → x.out = true ∧ ∃ t, r.tp = some t ∧ TapeOk t = true ∧ ∃ d, x = .fz d ∧ wl d = true ∧ Lt (40 + (k + 1)) (1000 + 300 * (k + 1)) d := by
      rintro x r ⟨a, t, b, c, d, e, g⟩
      exact ⟨a, t, b, c, d, e, g.1, g.2.up (by omega) (by omega)⟩
    have ts := tg_s h (by omega : s.deep ≤ 3)
    have l3 := sy_lt3 h (by omega : s.deep ≤ 3)
    cases s with
    | has p =>
      refine wS_go ?_
      unfold bs_2
      simp only [Sy.d]
      repeat' decreasing_trivial_pre_omega
      refine wB_d (fun h1 => ?_) (fun h1 => ?_)
      · repeat' decreasing_trivial_pre_omega
        exact rest _ fin
      · repeat' decreasing_trivial_pre_omega
        exact rest _ fin
    | no s' =>
      have hs' : s'.ok2 := h
      have hd' : s'.deep ≤ k := by simp only [Sy.deep] at hd; omega
      refine wS_go ?_
      unfold bs_2
      simp only [Sy.d]
      repeat' decreasing_trivial_pre_omega
      refine wB_d (fun h1 => ?_) (fun h1 => ?_)
      · repeat' decreasing_trivial_pre_omega
        refine wFT_use (pick_sp o1 (by simp only [List.length_cons, List.length_nil]; omega) (by simp only [List.length_cons, List.length_nil]; omega)) (fun v t2 ⟨o2, g, e, hg⟩ => ?_)
        subst e
        have hg0 : g = 0 := by simp at hg; omega
        subst hg0
        repeat' decreasing_trivial_pre_omega
        refine wFT_use (ih s' t2 hs' hd' (by omega) o2 m (by omega)) (fun v t3 ⟨o3, d, e, hw, hl⟩ => ?_)
        subst e
        repeat' decreasing_trivial_pre_omega
        refine ⟨o3, .tuple [.str (tx [110, 111, 116]), d], ?_, ?_, ?_⟩
        · rw [show (1 : Int) + ((0 : Nat) : Int) = ((1 : Nat) : Int) from rfl, cut_up, show ((1 : Nat) : Int) + 1 = ((2 : Nat) : Int) from rfl, cut_fr]
          rfl
        · exact wl_tup (by decide +kernel) (by decide +kernel) fun e he => by rw [List.mem_singleton.mp he]; exact hw
        · exact (lt_t2 ((lt_tx (q := [110, 111, 116]) (by decide)).up (Nat.zero_le _) (Nat.le_refl _)) hl).up (by omega) (by simp only [List.length_cons, List.length_nil]; omega)
      · repeat' decreasing_trivial_pre_omega
        exact rest _ fin
    | an s1 s2 =>
      have hs1 : s1.ok2 := h.1
      have hs2 : s2.ok2 := h.2
      have hd1 : s1.deep ≤ k := by simp only [Sy.deep] at hd; omega
      have hd2 : s2.deep ≤ k := by simp only [Sy.deep] at hd; omega
      have m1 := (sy_lt3 hs1 (by omega)).up (show 3 ≤ 40 + k by omega) (Nat.le_refl 90)
      have m2 := (sy_lt3 hs2 (by omega)).up (show 3 ≤ 40 + k by omega) (Nat.le_refl 90)
      have mw := (lt_tx (q := [97, 110, 100]) (by decide)).up (Nat.zero_le (40 + k)) (show _ ≤ 3 by decide)
      refine wS_go ?_
      unfold bs_2
      simp only [Sy.d]
      repeat' decreasing_trivial_pre_omega
      refine wB_d (fun h1 => ?_) (fun h1 => ?_)
      · repeat' decreasing_trivial_pre_omega
        refine wFT_use (pick_sp o1 (by simp only [List.length_cons, List.length_nil]; omega) (by simp only [List.length_cons, List.length_nil]; omega)) (fun v t2 ⟨o2, g, e, hg⟩ => ?_)
        subst e
        have hg0 : g = 0 ∨ g = 1 := by simp at hg; omega
        rcases hg0 with rfl | rfl
        · repeat' decreasing_trivial_pre_omega
          refine wFT_use (ih s1 t2 hs1 hd1 (by omega) o2 m (by omega)) (fun v t3 ⟨o3, d, e, hw, hl⟩ => ?_)
          subst e
          repeat' decreasing_trivial_pre_omega
          refine ⟨o3, .tuple [.str (tx [97, 110, 100]), d, s2.d], ?_, ?_, ?_⟩
          · rw [show (1 : Int) + ((0 : Nat) : Int) = ((1 : Nat) : Int) from rfl, cut_up, show ((1 : Nat) : Int) + 1 = ((2 : Nat) : Int) from rfl, cut_fr]
            rfl
          · exact wl_tup (by decide +kernel) (by decide +kernel) fun e he => by
              simp only [List.mem_cons, List.not_mem_nil, or_false] at he
              rcases he with rfl | rfl
              · exact hw
              · exact sy_wl _ hs2
          · exact (lt_t3 mw hl m2).up (by omega) (by omega)
        · repeat' decreasing_trivial_pre_omega
          refine wFT_use (ih s2 t2 hs2 hd2 (by omega) o2 m (by omega)) (fun v t3 ⟨o3, d, e, hw, hl⟩ => ?_)
          subst e
          repeat' decreasing_trivial_pre_omega
          refine ⟨o3, .tuple [.str (tx [97, 110, 100]), s1.d, d], ?_, ?_, ?_⟩
          · rw [show (1 : Int) + ((1 : Nat) : Int) = ((2 : Nat) : Int) from rfl, cut_up, show ((2 : Nat) : Int) + 1 = ((3 : Nat) : Int) from rfl, cut_fr]
            rfl
          · exact wl_tup (by decide +kernel) (by decide +kernel) fun e he => by
              simp only [List.mem_cons, List.not_mem_nil, or_false] at he
              rcases he with rfl | rfl
              · exact sy_wl _ hs1
              · exact hw
          · exact (lt_t3 mw m1 hl).up (by omega) (by omega)
      · repeat' decreasing_trivial_pre_omega
        exact rest _ fin
    | or s1 s2 =>
      have hs1 : s1.ok2 := h.1
      have hs2 : s2.ok2 := h.2
      have hd1 : s1.deep ≤ k := by simp only [Sy.deep] at hd; omega
      have hd2 : s2.deep ≤ k := by simp only [Sy.deep] at hd; omega
      have m1 := (sy_lt3 hs1 (by omega)).up (show 3 ≤ 40 + k by omega) (Nat.le_refl 90)
      have m2 := (sy_lt3 hs2 (by omega)).up (show 3 ≤ 40 + k by omega) (Nat.le_refl 90)
      have mw := (lt_tx (q := [111, 114]) (by decide)).up (Nat.zero_le (40 + k)) (show _ ≤ 3 by decide)
      refine wS_go ?_
      unfold bs_2
      simp only [Sy.d]
      repeat' decreasing_trivial_pre_omega
      refine wB_d (fun h1 => ?_) (fun h1 => ?_)
      · repeat' decreasing_trivial_pre_omega
        refine wFT_use (pick_sp o1 (by simp only [List.length_cons, List.length_nil]; omega) (by simp only [List.length_cons, List.length_nil]; omega)) (fun v t2 ⟨o2, g, e, hg⟩ => ?_)
        subst e
        have hg0 : g = 0 ∨ g = 1 := by simp at hg; omega
        rcases hg0 with rfl | rfl
        · repeat' decreasing_trivial_pre_omega
          refine wFT_use (ih s1 t2 hs1 hd1 (by omega) o2 m (by omega)) (fun v t3 ⟨o3, d, e, hw, hl⟩ => ?_)
          subst e
          repeat' decreasing_trivial_pre_omega
          refine ⟨o3, .tuple [.str (tx [111, 114]), d, s2.d], ?_, ?_, ?_⟩
          · rw [show (1 : Int) + ((0 : Nat) : Int) = ((1 : Nat) : Int) from rfl, cut_up, show ((1 : Nat) : Int) + 1 = ((2 : Nat) : Int) from rfl, cut_fr]
            rfl
          · exact wl_tup (by decide +kernel) (by decide +kernel) fun e he => by
              simp only [List.mem_cons, List.not_mem_nil, or_false] at he
              rcases he with rfl | rfl
              · exact hw
              · exact sy_wl _ hs2
          · exact (lt_t3 mw hl m2).up (by omega) (by omega)
        · repeat' decreasing_trivial_pre_omega
          refine wFT_use (ih s2 t2 hs2 hd2 (by omega) o2 m (by omega)) (fun v t3 ⟨o3, d, e, hw, hl⟩ => ?_)
          subst e
          repeat' decreasing_trivial_pre_omega
          refine ⟨o3, .tuple [.str (tx [111, 114]), s1.d, d], ?_, ?_, ?_⟩
          · rw [show (1 : Int) + ((1 : Nat) : Int) = ((2 : Nat) : Int) from rfl, cut_up, show ((2 : Nat) : Int) + 1 = ((3 : Nat) : Int) from rfl, cut_fr]
            rfl
          · exact wl_tup (by decide +kernel) (by decide +kernel) fun e he => by
              simp only [List.mem_cons, List.not_mem_nil, or_false] at he
              rcases he with rfl | rfl
              · exact sy_wl _ hs1
              · exact hw
          · exact (lt_t3 mw m1 hl).up (by omega) (by omega)
      · repeat' decreasing_trivial_pre_omega
        exact rest _ fin
end QM
namespace QM
open PySem PySem.Spec L2 QL QP
end QM
namespace QM
open PySem PySem.Spec L2 QL QP
local macro_rules | `(tactic| decreasing_trivial_pre_omega) => `(tactic| first
  | apply QM.Step.go
  | refine ⟨rfl, ?_⟩
  | refine ⟨⟨rfl, rfl⟩, ?_⟩
  | refine ⟨_, rfl, ?_⟩
  | refine ⟨_, _, rfl, ?_⟩
  | refine ⟨_, _, _, rfl, ?_⟩
  | refine ⟨Nat.le_of_ble_eq_true rfl, ?_⟩
  | refine wAt_r rfl ?_
  | refine wB_t rfl ?_
  | refine wB_f rfl ?_)
theorem cut_mid {α : Type} {xs : List α} {a b : Nat} (h : a ≤ b) (hb : b ≤ xs.length) : cutL xs (some (a : Int)) (some (b : Int)) = (xs.take b).drop a := by
  rw [cut_nat, Nat.min_eq_left hb, Nat.min_eq_left (Nat.le_trans h hb), List.drop_take]
end QM
namespace QM
open PySem PySem.Spec L2 QL QP
def sg : Sy → List Nat
  | .has p => if p = [] then [104, 97, 115] else [104, 97, 115, 32] ++ p
  | .no s => [110, 111, 116, 32] ++ ([40] ++ sg s ++ [41])
  | .an s t => ([40] ++ sg s ++ [41]) ++ [32, 97, 110, 100, 32] ++ ([40] ++ sg t ++ [41])
  | .or s t => ([40] ++ sg s ++ [41]) ++ [32, 111, 114, 32] ++ ([40] ++ sg t ++ [41])
theorem sg_len : ∀ (s : Sy), s.ok2 → (sg s).length + 9 ≤ 15 * 2 ^ s.deep
  | .has p, h => by
    have := h.2
    show (if p = [] then _ else _ : List Nat).length + 9 ≤ 15 * 2 ^ 1
    split
    · decide
    · simp only [List.length_append, List.length_cons, List.length_nil]; omega
  | .no s, h => by
    have ih := sg_len s h
    simp only [sg, Sy.deep, List.length_append, List.length_cons, List.length_nil, Nat.pow_succ]
    omega
  | .an s t, h => by
    have i1 := sg_len s h.1
    have i2 := sg_len t h.2
    have p1 : 2 ^ s.deep ≤ 2 ^ max s.deep t.deep := Nat.pow_le_pow_right (by decide) (by omega)
    have p2 : 2 ^ t.deep ≤ 2 ^ max s.deep t.deep := Nat.pow_le_pow_right (by decide) (by omega)
    simp only [sg, Sy.deep, List.length_append, List.length_cons, List.length_nil, Nat.pow_succ]
    omega
  | .or s t, h => by
    have i1 := sg_len s h.1
    have i2 := sg_len t h.2
    have p1 : 2 ^ s.deep ≤ 2 ^ max s.deep t.deep := Nat.pow_le_pow_right (by decide) (by omega)
    have p2 : 2 ^ t.deep ≤ 2 ^ max s.deep t.deep := Nat.pow_le_pow_right (by decide) (by omega)
    simp only [sg, Sy.deep, List.length_append, List.length_cons, List.length_nil, Nat.pow_succ]
    omega
theorem sg_k {s : Sy} {k : Nat} (h : s.ok2) (hd : s.deep ≤ k) (hk : k ≤ 12) : (sg s).length ≤ 61440 := by
  have a := sg_len s h
  have p : 2 ^ s.deep ≤ 2 ^ 12 := Nat.pow_le_pow_right (by decide) (by omega)
  have : (2 : Nat) ^ 12 = 4096 := by decide
  omega
/-- where what is open at d is closed -/
def cl : List Nat → Int → Nat → Int
  | [], _, _ => -1
  | c :: r, d, i => if c = 40 then cl r (d + 1) (i + 1) else if c = 41 then (if d - 1 = 0 then (i : Int) else cl r (d - 1) (i + 1)) else cl r d (i + 1)
theorem cl_o {r : List Nat} {d : Int} {i : Nat} : cl (40 :: r) d i = cl r (d + 1) (i + 1) := by rw [cl]; rfl
theorem cl_c {r : List Nat} {d : Int} {i : Nat} (h : d ≠ 1) : cl (41 :: r) d i = cl r (d - 1) (i + 1) := by
  rw [cl, if_neg (by decide), if_pos rfl, if_neg (by omega)]
theorem cl_e {r : List Nat} {i : Nat} : cl (41 :: r) 1 i = i := by
  rw [cl, if_neg (by decide), if_pos rfl, if_pos (by omega)]
theorem cl_w : ∀ {w : List Nat} {r : List Nat} {d : Int} {i : Nat}, (∀ c ∈ w, c ≠ 40 ∧ c ≠ 41) → cl (w ++ r) d i = cl r d (i + w.length)
  | [], r, d, i, _ => rfl
  | c :: w, r, d, i, h => by
    have hc := h c (List.mem_cons_self ..)
    rw [List.cons_append, cl, if_neg hc.1, if_neg hc.2, cl_w fun x hx => h x (List.mem_cons_of_mem _ hx), List.length_cons]
    congr 1; omega
theorem cl_sg : ∀ {s : Sy}, s.ok2 → ∀ {r : List Nat} {d : Int} {i : Nat}, 1 ≤ d → cl (sg s ++ r) d i = cl r d (i + (sg s).length)
  | .has p, h, r, d, i, hd => by
    refine cl_w fun c hc => ?_
    have hp : ∀ c ∈ p, 97 ≤ c := fun c hc => (h.1 c hc).1
    have : c ∈ [104, 97, 115, 32] ∨ c ∈ p := by
      simp only [sg] at hc
      split at hc
      · left; simp only [List.mem_cons, List.not_mem_nil, or_false] at hc ⊢; omega
      · exact List.mem_append.mp hc
    rcases this with z | z
    · simp only [List.mem_cons, List.not_mem_nil, or_false] at z; omega
    · have := hp c z; omega
  | .no s, h, r, d, i, hd => by
    simp only [sg, List.append_assoc]
    rw [cl_w (by decide), List.singleton_append, cl_o, cl_sg (s := s) h (by omega), List.singleton_append, cl_c (by omega)]
    simp only [List.length_append, List.length_cons, List.length_nil]
    congr 1 <;> omega
  | .an s t, h, r, d, i, hd => by
    simp only [sg, List.append_assoc]
    rw [List.singleton_append, cl_o, cl_sg (s := s) h.1 (by omega), List.singleton_append, cl_c (by omega), cl_w (by decide), List.singleton_append, cl_o, cl_sg (s := t) h.2 (by omega), List.singleton_append, cl_c (by omega)]
    simp only [List.length_append, List.length_cons, List.length_nil]
    congr 1 <;> omega
  | .or s t, h, r, d, i, hd => by
    simp only [sg, List.append_assoc]
    rw [List.singleton_append, cl_o, cl_sg (s := s) h.1 (by omega), List.singleton_append, cl_c (by omega), cl_w (by decide), List.singleton_append, cl_o, cl_sg (s := t) h.2 (by omega), List.singleton_append, cl_c (by omega)]
    simp only [List.length_append, List.length_cons, List.length_nil]
    congr 1 <;> omega
/-- a part in its brackets closes where it ends -/
theorem cl_part {s : Sy} (h : s.ok2) {r : List Nat} {i : Nat} : cl ([40] ++ sg s ++ [41] ++ r) 0 i = ((i + (sg s).length + 1 : Nat) : Int) := by
  rw [List.append_assoc, List.append_assoc, List.singleton_append, cl_o, cl_sg h (by omega), List.singleton_append, show (0 : Int) + 1 = 1 by rfl, cl_e]
  congr 1; omega
theorem cut_in {A B C : List Nat} {a b : Nat} (ha : a = A.length) (hb : b = (A ++ B).length) : cutL (A ++ B ++ C) (some (a : Int)) (some (b : Int)) = B := by
  subst ha hb
  rw [cut_mid (by simp) (by simp)]
  rw [List.take_left' rfl, List.drop_left' rfl]
theorem cut_m1 {A B : List Nat} {c : Nat} {a : Nat} (ha : a = A.length) : cutL (A ++ B ++ [c]) (some (a : Int)) (some (-1)) = B := by
  have e : cutL (A ++ B ++ [c]) (some (a : Int)) (some (-1)) = cutL (A ++ B ++ [c]) (some (a : Int)) (some (((A ++ B).length : Nat) : Int)) := by
    unfold cutL
    have : HT.sIx (A ++ B ++ [c]).length (A ++ B ++ [c]).length (some (-1)) = HT.sIx (A ++ B ++ [c]).length (A ++ B ++ [c]).length (some (((A ++ B).length : Nat) : Int)) := by
      rw [HT.sIx_nat]
      unfold HT.sIx
      show (if (-1 : Int) < 0 then _ else _ : Nat) = _
      rw [if_pos (by decide : (-1 : Int) < 0)]
      simp only [List.length_append, List.length_cons, List.length_nil]
      rw [Nat.min_def, if_pos (by omega)]
      omega
    rw [this]
  rw [e]
  exact cut_in ha rfl
end QM
namespace S5
open PySem PySem.Spec L2 QL QP QM
local macro_rules | `(tactic| decreasing_trivial_pre_omega) => `(tactic| first
  | apply QM.Step.go
  | refine ⟨rfl, ?_⟩
  | refine ⟨⟨rfl, rfl⟩, ?_⟩
  | refine ⟨_, rfl, ?_⟩
  | refine ⟨_, _, rfl, ?_⟩
  | refine ⟨_, _, _, rfl, ?_⟩
  | refine ⟨Nat.le_of_ble_eq_true rfl, ?_⟩
  | refine wAt_r rfl ?_
  | refine wB_t rfl ?_
  | refine wB_f rfl ?_)
theorem sy_lt5 {s : Sy} (h : s.ok2) (hd : s.deep ≤ 5) : Lt 5 378 s.d := by
  have p : 2 ^ s.deep ≤ 2 ^ 5 := Nat.pow_le_pow_right (by decide) hd
  exact (sy_lt s h).up hd (by have : (2 : Nat) ^ 5 = 32 := by decide
                              omega)
def ltOk (n m : Nat) (d : D) : Bool := d.showable && (decide (d.depth ≤ n) && (PyData.leavesShort 40 d && decide (d.weight ≤ m)))
theorem lt_ok {n m : Nat} {d : D} (h : ltOk n m d = true) : Lt n m d := by
  unfold ltOk at h
  simp only [Bool.and_eq_true, decide_eq_true_eq] at h
  exact ⟨h.1, h.2.1, h.2.2.1, h.2.2.2⟩
theorem sy_tup {s : Sy} (h : s.ok2) (hd : s.deep ≤ 5) : ∃ (w : List Nat) (r : List D), s.d = .tuple (.str (tx w) :: r) ∧ w ∈ hdL ∧ w.length ≤ 3 ∧ Tx w ∧ 1 ≤ r.length ∧ r.length ≤ 2 ∧ ∀ d ∈ r, wl d = true ∧ Lt 5 378 d := by
  have a := sy_lt5 h hd
  have b := sy_wl s h
  have key : ∀ (w : List Nat) (r : List D), s.d = .tuple (.str (tx w) :: r) → ∀ d ∈ r, wl d = true ∧ Lt 5 378 d := fun w r e d hd => by
    rw [e] at a b
    refine ⟨wls_all (by simp only [wl, Bool.and_eq_true] at b; exact b.2) d (List.mem_cons_of_mem _ hd), lt_sub a d (List.mem_cons_of_mem _ hd)⟩
  cases s with
  | has p => exact ⟨_, _, rfl, by decide, by decide, by decide, by simp, by simp, key _ _ rfl⟩
  | no s => exact ⟨_, _, rfl, by decide, by decide, by decide, by simp, by simp, key _ _ rfl⟩
  | an s t => exact ⟨_, _, rfl, by decide, by decide, by decide, by simp, by simp, key _ _ rfl⟩
  | or s t => exact ⟨_, _, rfl, by decide, by decide, by decide, by simp, by simp, key _ _ rfl⟩
/-- a thing: may be judged and shown -/
def Tg (d : D) : Prop := wl d = true ∧ Lt 10 2000 d
theorem tg_c {d : D} (h : (ltOk 10 2000 d && wl d) = true) : Tg d := by
  simp only [Bool.and_eq_true] at h
  exact ⟨h.2, lt_ok h.1⟩
theorem any_T {t : Int × Int} (ok : TapeOk t = true) : wFT (F__law_any t []) (fun v t' => TapeOk t' = true ∧ ∃ d, v = .fz d ∧ Tg d) (fun _ _ _ => False) := by
  refine wFT_go ?_
  unfold B__law_any
  repeat' decreasing_trivial_pre_omega
  refine ⟨⟨by decide, by decide +kernel⟩, ?_⟩
  repeat' decreasing_trivial_pre_omega
  refine wFT_use (one_all (Pb := fun d => ltOk 10 2000 d && wl d) ok (by decide +kernel) (by simp) (by simp)) (fun v t1 ⟨o1, d, e, hd⟩ => ?_)
  subst e
  repeat' decreasing_trivial_pre_omega
  exact ⟨o1, d, rfl, tg_c hd⟩
theorem tg_s {s : Sy} (h : s.ok2) (hd : s.deep ≤ 5) : Tg s.d := ⟨sy_wl s h, (sy_lt5 h hd).up (by decide) (by decide)⟩
section
variable {Fr : Int × Int → List D → FR} {t : Int × Int} {s : Sy} {f : Nat} {x3 x4 : Option SV}
theorem lt_emp : Lt 5 0 (.dict []) := ⟨rfl, by decide, by decide, by decide⟩
theorem cut1 {a : D} {l : List D} : cutL (a :: l) none (some 1) = [a] := by
  exact cut_up (a :: l) 1
theorem tg_h2 {c : Nat} (h : tiny (.str (tx [97, c])) = true) : Lt 10 2000 (.tuple [.str (tx [104, 97, 115]), .str (tx [97, c])]) := by
  obtain ⟨a1, a2, a3, a4⟩ := lt_tiny h
  have z : Lt 0 2 (.str (tx [97, c])) := ⟨a1, by simp [PyData.depth], a3, by simp [PyData.weight, tx]⟩
  exact (lt_t2 (lt_tx (q := [104, 97, 115]) (by decide)) z).up (by decide) (by decide)
theorem bs3 (ok : TapeOk t = true) (h : s.ok2) (hd3 : s.deep ≤ 5) : wS (bs_3 Fr (Bs s.d f x3 x4 t)) (Pn fun r => ∃ ds t', TapeOk t' = true ∧ (∀ d ∈ ds, Tg d) ∧ ds.length ≤ 20 ∧ r = Bs s.d f x3 (some (.ol ds)) t') := by
  have ts := tg_s h hd3
  obtain ⟨w, r, es, hw1, hw2, hw3, hr1, hr2, hr⟩ := sy_tup h hd3
  rw [es] at ts ⊢
  have hW : Tg (.str (tx w)) := ⟨wl_tx (by omega), (lt_tx hw3).up (by decide) (by omega)⟩
  unfold bs_3
  repeat' decreasing_trivial_pre_omega
  refine ⟨by simp; omega, ?_⟩
  repeat' decreasing_trivial_pre_omega
  refine wFT_use (one_all (Pb := fun d => match d with | .str z => decide (z.cps.toList.length = 1) && tiny (.str (tx (97 :: z.cps.toList))) | _ => false) ok (by decide +kernel) (by simp) (by simp)) (fun v t1 ⟨o1, d, e, hd⟩ => ?_)
  subst e
  have hd2 : ∃ c, d = .str (tx [c]) ∧ tiny (.str (tx [97, c])) = true := by
    cases d with
    | str z =>
      simp only [Bool.and_eq_true, decide_eq_true_eq] at hd
      obtain ⟨c, hc⟩ := List.length_eq_one_iff.mp hd.1
      refine ⟨c, by rw [Str.tx z, hc], ?_⟩
      rw [← hc]; exact hd.2
    | _ => cases hd
  obtain ⟨c, rfl, hc⟩ := hd2
  repeat' decreasing_trivial_pre_omega
  refine ⟨_, t1, o1, ?_, ?_, rfl⟩
  · intro d hd
    rw [cut1] at hd
    simp only [List.mem_cons, List.not_mem_nil, or_false] at hd
    have tH : Tg (.str (tx [104, 97, 115])) := tg_c (by decide +kernel)
    have tA : Tg (.str (tx [97])) := tg_c (by decide +kernel)
    rcases hd with rfl | rfl | rfl | rfl | rfl | rfl | rfl | rfl | rfl | rfl | rfl | rfl
    · exact tg_c (by decide +kernel)
    · exact ⟨rfl, lt_tl ts.2⟩
    · refine ⟨wl_tup (hd_tx hw1) hW.1 fun d hd => ?_, (lt_tup (n := 5) (m := 378) (k := 4) (fun d hd => ?_) (by simp; omega)).up (by decide) (by decide)⟩
      · rcases List.mem_append.mp hd with hd | hd
        · exact (hr d hd).1
        · rw [List.mem_singleton.mp hd]; decide +kernel
      · rcases List.mem_cons.mp hd with rfl | hd
        · exact (lt_tx hw3).up (by decide) (by omega)
        · rcases List.mem_append.mp hd with hd | hd
          · exact (hr d hd).2
          · rw [List.mem_singleton.mp hd]
            exact (lt_t2 (lt_tx (q := [104, 97, 115]) (by decide)) ((lt_tx (q := [97]) (by decide)).up (Nat.le_refl _) (show 1 ≤ 3 by decide))).up (by decide) (by decide)
    · exact ⟨wl_tup (hd_tx hw1) hW.1 fun d hd => (by cases hd), (lt_tup (n := 0) (m := 3) (k := 1) (fun d hd => by rw [List.mem_singleton.mp hd]; exact (lt_tx hw3).up (Nat.le_refl _) hw2) (by simp)).up (by decide) (by decide)⟩
    · exact tg_c (by decide +kernel)
    · exact tg_c (by decide +kernel)
    · exact ⟨wl_tup (by decide +kernel) tH.1 fun d hd => by rw [List.mem_singleton.mp hd]; exact wl_tx (by simp), tg_h2 hc⟩
    · exact tg_c (by decide +kernel)
    · exact tg_c (by decide +kernel)
    · exact tg_c (by decide +kernel)
    · exact tg_c (by decide +kernel)
    · refine ⟨wl_tup (by decide +kernel) (by decide +kernel) fun d hd => by rw [List.mem_singleton.mp hd]; exact ts.1, ?_⟩
      rw [← es]
      exact (lt_t2 (n := 5) ((lt_tx (q := [110, 111, 114]) (by decide)).up (by decide) (Nat.le_refl _)) (sy_lt5 h hd3)).up (by decide) (by decide)
  · simp
theorem bs4 {ds : List D} (ok : TapeOk t = true) (h : s.ok2) (hd : s.deep ≤ 5) (h4 : ∀ d ∈ ds, Tg d) (hl : ds.length ≤ 20) : wS (bs_4 Fr (Bs s.d f x3 (some (.ol ds)) t)) (Pn fun r => ∃ ds t', TapeOk t' = true ∧ (∀ d ∈ ds, Tg d) ∧ ds.length ≤ 40 ∧ ds ≠ [] ∧ r = Bs s.d f x3 (some (.ol ds)) t') := by
  have ts := tg_s h hd
  have l3 := sy_lt5 h hd
  unfold bs_4
  repeat' decreasing_trivial_pre_omega
  refine wFT_use (any_T ok) (fun v t1 ⟨o1, d, e, hd⟩ => ?_)
  subst e
  repeat' decreasing_trivial_pre_omega
  refine ⟨szl' (by simp; omega), ?_⟩
  repeat' decreasing_trivial_pre_omega
  refine ⟨_, t1, o1, ?_, ?_, ?_, rfl⟩
  · intro e he
    have tA : Tg (.str (tx [97])) := tg_c (by decide +kernel)
    have wn : Lt 5 3 (.str (tx [110, 111, 116])) := (lt_tx (q := [110, 111, 116]) (by decide)).up (by decide) (Nat.le_refl _)
    have wa : Lt 5 3 (.str (tx [97, 110, 100])) := (lt_tx (q := [97, 110, 100]) (by decide)).up (by decide) (Nat.le_refl _)
    have wo : Lt 5 2 (.str (tx [111, 114])) := (lt_tx (q := [111, 114]) (by decide)).up (by decide) (Nat.le_refl _)
    have l1 : Lt 5 1 (.str (tx [97])) := (lt_tx (q := [97]) (by decide)).up (by decide) (Nat.le_refl _)
    rcases List.mem_append.mp he with he | he
    · exact h4 e he
    · simp only [List.mem_cons, List.not_mem_nil, or_false] at he
      rcases he with rfl | rfl | rfl | rfl | rfl | rfl | rfl | rfl | rfl | rfl
      · exact ⟨wl_tup (by decide +kernel) (by decide +kernel) fun d hd => by
          simp only [List.mem_cons, List.not_mem_nil, or_false] at hd
          rcases hd with rfl | rfl <;> exact ts.1, (lt_t3 wn l3 l3).up (by decide) (by decide)⟩
      · exact ⟨wl_tup (by decide +kernel) (by decide +kernel) fun d hd => by rw [List.mem_singleton.mp hd]; exact ts.1, (lt_t2 wa l3).up (by decide) (by decide)⟩
      · exact ⟨wl_tup (by decide +kernel) (by decide +kernel) fun d hd => by
          simp only [List.mem_cons, List.not_mem_nil, or_false] at hd
          rcases hd with rfl | rfl
          · exact ts.1
          · exact tA.1, (lt_t3 wo l3 l1).up (by decide) (by decide)⟩
      · exact ⟨wl_tup (by cases s <;> rfl) ts.1 fun d hd => by
          simp only [List.mem_cons, List.not_mem_nil, or_false] at hd
          rcases hd with rfl | rfl
          · decide +kernel
          · exact ts.1, (lt_t3 l3 wa l3).up (by decide) (by decide)⟩
      · exact tg_c (by decide +kernel)
      · exact tg_c (by decide +kernel)
      · exact tg_c (by decide +kernel)
      · exact tg_c (by decide +kernel)
      · exact ⟨wl_tup (by decide +kernel) (by decide +kernel) fun d hd => by rw [List.mem_singleton.mp hd]; exact ts.1, (lt_t2 (n := 5) (a := 0) lt_emp l3).up (by decide) (by decide)⟩
      · exact hd
  · simp; omega
  · simp
theorem bs5 (ok : TapeOk t = true) {ds : List D} (h : s.ok2) (hd : s.deep ≤ 5) (h4 : ∀ d ∈ ds, Tg d) (hl : ds.length ≤ 40) (h0 : ds ≠ []) : wS (bs_5 Fr (Bs s.d f x3 (some (.ol ds)) t)) ⟨fun _ => False, fun x r => x.out = true ∧ ∃ t, r.tp = some t ∧ TapeOk t = true ∧ ∃ d, x = .fz d ∧ Tg d, fun _ => False, fun _ => False, fun _ _ _ => False⟩ := by
  unfold bs_5
  repeat' decreasing_trivial_pre_omega
  refine wB_d (fun h1 => ?_) (fun h1 => ?_)
  · repeat' decreasing_trivial_pre_omega
    refine wFT_use (one_of_sp ok h0 (by omega)) (fun v t1 ⟨o1, d, hd, e⟩ => ?_)
    subst e
    repeat' decreasing_trivial_pre_omega
    exact ⟨o1, d, rfl, h4 d hd⟩
  · repeat' decreasing_trivial_pre_omega
    exact ⟨ok, _, rfl, tg_s h hd⟩
theorem bs_rest {p : Po} (hp : ∀ x r, (x.out = true ∧ ∃ t, r.tp = some t ∧ TapeOk t = true ∧ ∃ d, x = .fz d ∧ Tg d) → p.rt x r) (ok : TapeOk t = true) (h : s.ok2) (hd : s.deep ≤ 5) : wS (bs_3 Fr (Bs s.d f x3 x4 t)) (p.wn fun r => wS (sSeq (bs_4 Fr) (bs_5 Fr) r) p) := by
  refine wS_mono (bs3 ok h hd) ?_ ?_ ?_ ?_ ?_
  · rintro r ⟨ds, t1, o1, h4, h5, rfl⟩
    show wS (sSeq (bs_4 Fr) (bs_5 Fr) _) p
    refine seqP (bs4 o1 h hd h4 h5) fun r h3 => ?_
    obtain ⟨ds2, t2, o2, h6, h7, h8, rfl⟩ := h3
    refine wS_mono (bs5 o2 h hd h6 h7 h8) ?_ ?_ ?_ ?_ ?_
    · exact fun _ h => h.elim
    · exact fun v r h => hp v r h
    · exact fun _ h => h.elim
    · exact fun _ h => h.elim
    · exact fun _ _ _ h => h.elim
  · exact fun _ _ h => h.elim
  · exact fun _ h => h.elim
  · exact fun _ h => h.elim
  · exact fun _ _ _ h => h.elim
end
theorem bentS_sp : ∀ (k : Nat) (s : Sy) (t : Int × Int), s.ok2 → s.deep ≤ k → k ≤ 5 → TapeOk t = true → ∀ n, k ≤ n → wFT (R__law_bent_saying n t [s.d]) (fun v t' => TapeOk t' = true ∧ ∃ d, v = .fz d ∧ wl d = true ∧ Lt (10 + k) (2000 + 500 * k) d) (fun _ _ _ => False) := by
  intro k
  induction k with
  | zero => exact fun s t _ h => absurd (Nat.le_trans s.pos h) (by decide)
  | succ k ih =>
    intro s t h hd h3 ok n hn
    obtain ⟨m, rfl⟩ : ∃ m, n = m + 1 := ⟨n - 1, by omega⟩
    show wFT (bodyT 5 (B__law_bent_saying (R__law_bent_saying m)) t [s.d]) _ _
    refine wFT_go ?_
    rw [bs_eq]
    refine seqP (q := fun r => ∃ f t', TapeOk t' = true ∧ r = Bs s.d f none none t') ?_ fun r hr => ?_
    · unfold bs_1
      repeat' decreasing_trivial_pre_omega
      refine wFT_use (pick_sp ok (by decide) (by decide)) (fun v t1 ⟨o1, f, e, hf⟩ => ?_)
      subst e
      repeat' decreasing_trivial_pre_omega
      exact ⟨f, t1, o1, rfl⟩
    obtain ⟨f, t1, o1, rfl⟩ := hr
    have rest := fun (p : Po) (hp : ∀ x r, (x.out = true ∧ ∃ t, r.tp = some t ∧ TapeOk t = true ∧ ∃ d, x = .fz d ∧ Tg d) → p.rt x r) => bs_rest (Fr := R__law_bent_saying m) (f := f) (x3 := none) (x4 := none) hp o1 h (by omega : s.deep ≤ 5)
    have fin : ∀ (x : SV) (r : S), (x.out = true ∧ ∃ t, r.tp = some t ∧ TapeOk t = true ∧ ∃ d, x = .fz d ∧ Tg d) → x.out = true ∧ ∃ t, r.tp = some t ∧ TapeOk t = true ∧ ∃ d, x = .fz d ∧ wl d = true ∧ Lt (10 + (k + 1)) (2000 + 500 * (k + 1)) d := by
      rintro x r ⟨a, t, b, c, d, e, g⟩
      exact ⟨a, t, b, c, d, e, g.1, g.2.up (by omega) (by omega)⟩
    have ts := tg_s h (by omega : s.deep ≤ 5)
    have l3 := sy_lt5 h (by omega : s.deep ≤ 5)
    cases s with
    | has p =>
      refine wS_go ?_
      unfold bs_2
      simp only [Sy.d]
      repeat' decreasing_trivial_pre_omega
      refine wB_d (fun h1 => ?_) (fun h1 => ?_)
      · repeat' decreasing_trivial_pre_omega
        exact rest _ fin
      · repeat' decreasing_trivial_pre_omega
        exact rest _ fin
    | no s' =>
      have hs' : s'.ok2 := h
      have hd' : s'.deep ≤ k := by simp only [Sy.deep] at hd; omega
      refine wS_go ?_
      unfold bs_2
      simp only [Sy.d]
      repeat' decreasing_trivial_pre_omega
      refine wB_d (fun h1 => ?_) (fun h1 => ?_)
      · repeat' decreasing_trivial_pre_omega
        refine wFT_use (pick_sp o1 (by simp only [List.length_cons, List.length_nil]; omega) (by simp only [List.length_cons, List.length_nil]; omega)) (fun v t2 ⟨o2, g, e, hg⟩ => ?_)
        subst e
        have hg0 : g = 0 := by simp at hg; omega
        subst hg0
        repeat' decreasing_trivial_pre_omega
        refine wFT_use (ih s' t2 hs' hd' (by omega) o2 m (by omega)) (fun v t3 ⟨o3, d, e, hw, hl⟩ => ?_)
        subst e
        repeat' decreasing_trivial_pre_omega
        refine ⟨o3, .tuple [.str (tx [110, 111, 116]), d], ?_, ?_, ?_⟩
        · rw [show (1 : Int) + ((0 : Nat) : Int) = ((1 : Nat) : Int) from rfl, cut_up, show ((1 : Nat) : Int) + 1 = ((2 : Nat) : Int) from rfl, cut_fr]
          rfl
        · exact wl_tup (by decide +kernel) (by decide +kernel) fun e he => by rw [List.mem_singleton.mp he]; exact hw
        · exact (lt_t2 ((lt_tx (q := [110, 111, 116]) (by decide)).up (Nat.zero_le _) (Nat.le_refl _)) hl).up (by omega) (by simp only [List.length_cons, List.length_nil]; omega)
      · repeat' decreasing_trivial_pre_omega
        exact rest _ fin
    | an s1 s2 =>
      have hs1 : s1.ok2 := h.1
      have hs2 : s2.ok2 := h.2
      have hd1 : s1.deep ≤ k := by simp only [Sy.deep] at hd; omega
      have hd2 : s2.deep ≤ k := by simp only [Sy.deep] at hd; omega
      have m1 := (sy_lt5 hs1 (by omega)).up (show 5 ≤ 10 + k by omega) (Nat.le_refl 378)
      have m2 := (sy_lt5 hs2 (by omega)).up (show 5 ≤ 10 + k by omega) (Nat.le_refl 378)
      have mw := (lt_tx (q := [97, 110, 100]) (by decide)).up (Nat.zero_le (10 + k)) (show _ ≤ 3 by decide)
      refine wS_go ?_
      unfold bs_2
      simp only [Sy.d]
      repeat' decreasing_trivial_pre_omega
      refine wB_d (fun h1 => ?_) (fun h1 => ?_)
      · repeat' decreasing_trivial_pre_omega
        refine wFT_use (pick_sp o1 (by simp only [List.length_cons, List.length_nil]; omega) (by simp only [List.length_cons, List.length_nil]; omega)) (fun v t2 ⟨o2, g, e, hg⟩ => ?_)
        subst e
        have hg0 : g = 0 ∨ g = 1 := by simp at hg; omega
        rcases hg0 with rfl | rfl
        · repeat' decreasing_trivial_pre_omega
          refine wFT_use (ih s1 t2 hs1 hd1 (by omega) o2 m (by omega)) (fun v t3 ⟨o3, d, e, hw, hl⟩ => ?_)
          subst e
          repeat' decreasing_trivial_pre_omega
          refine ⟨o3, .tuple [.str (tx [97, 110, 100]), d, s2.d], ?_, ?_, ?_⟩
          · rw [show (1 : Int) + ((0 : Nat) : Int) = ((1 : Nat) : Int) from rfl, cut_up, show ((1 : Nat) : Int) + 1 = ((2 : Nat) : Int) from rfl, cut_fr]
            rfl
          · exact wl_tup (by decide +kernel) (by decide +kernel) fun e he => by
              simp only [List.mem_cons, List.not_mem_nil, or_false] at he
              rcases he with rfl | rfl
              · exact hw
              · exact sy_wl _ hs2
          · exact (lt_t3 mw hl m2).up (by omega) (by omega)
        · repeat' decreasing_trivial_pre_omega
          refine wFT_use (ih s2 t2 hs2 hd2 (by omega) o2 m (by omega)) (fun v t3 ⟨o3, d, e, hw, hl⟩ => ?_)
          subst e
          repeat' decreasing_trivial_pre_omega
          refine ⟨o3, .tuple [.str (tx [97, 110, 100]), s1.d, d], ?_, ?_, ?_⟩
          · rw [show (1 : Int) + ((1 : Nat) : Int) = ((2 : Nat) : Int) from rfl, cut_up, show ((2 : Nat) : Int) + 1 = ((3 : Nat) : Int) from rfl, cut_fr]
            rfl
          · exact wl_tup (by decide +kernel) (by decide +kernel) fun e he => by
              simp only [List.mem_cons, List.not_mem_nil, or_false] at he
              rcases he with rfl | rfl
              · exact sy_wl _ hs1
              · exact hw
          · exact (lt_t3 mw m1 hl).up (by omega) (by omega)
      · repeat' decreasing_trivial_pre_omega
        exact rest _ fin
    | or s1 s2 =>
      have hs1 : s1.ok2 := h.1
      have hs2 : s2.ok2 := h.2
      have hd1 : s1.deep ≤ k := by simp only [Sy.deep] at hd; omega
      have hd2 : s2.deep ≤ k := by simp only [Sy.deep] at hd; omega
      have m1 := (sy_lt5 hs1 (by omega)).up (show 5 ≤ 10 + k by omega) (Nat.le_refl 378)
      have m2 := (sy_lt5 hs2 (by omega)).up (show 5 ≤ 10 + k by omega) (Nat.le_refl 378)
      have mw := (lt_tx (q := [111, 114]) (by decide)).up (Nat.zero_le (10 + k)) (show _ ≤ 3 by decide)
      refine wS_go ?_
      unfold bs_2
      simp only [Sy.d]
      repeat' decreasing_trivial_pre_omega
      refine wB_d (fun h1 => ?_) (fun h1 => ?_)
      · repeat' decreasing_trivial_pre_omega
        refine wFT_use (pick_sp o1 (by simp only [List.length_cons, List.length_nil]; omega) (by simp only [List.length_cons, List.length_nil]; omega)) (fun v t2 ⟨o2, g, e, hg⟩ => ?_)
        subst e
        have hg0 : g = 0 ∨ g = 1 := by simp at hg; omega
        rcases hg0 with rfl | rfl
        · repeat' decreasing_trivial_pre_omega
          refine wFT_use (ih s1 t2 hs1 hd1 (by omega) o2 m (by omega)) (fun v t3 ⟨o3, d, e, hw, hl⟩ => ?_)
          subst e
          repeat' decreasing_trivial_pre_omega
          refine ⟨o3, .tuple [.str (tx [111, 114]), d, s2.d], ?_, ?_, ?_⟩
          · rw [show (1 : Int) + ((0 : Nat) : Int) = ((1 : Nat) : Int) from rfl, cut_up, show ((1 : Nat) : Int) + 1 = ((2 : Nat) : Int) from rfl, cut_fr]
            rfl
          · exact wl_tup (by decide +kernel) (by decide +kernel) fun e he => by
              simp only [List.mem_cons, List.not_mem_nil, or_false] at he
              rcases he with rfl | rfl
              · exact hw
              · exact sy_wl _ hs2
          · exact (lt_t3 mw hl m2).up (by omega) (by omega)
        · repeat' decreasing_trivial_pre_omega
          refine wFT_use (ih s2 t2 hs2 hd2 (by omega) o2 m (by omega)) (fun v t3 ⟨o3, d, e, hw, hl⟩ => ?_)
          subst e
          repeat' decreasing_trivial_pre_omega
          refine ⟨o3, .tuple [.str (tx [111, 114]), s1.d, d], ?_, ?_, ?_⟩
          · rw [show (1 : Int) + ((1 : Nat) : Int) = ((2 : Nat) : Int) from rfl, cut_up, show ((2 : Nat) : Int) + 1 = ((3 : Nat) : Int) from rfl, cut_fr]
            rfl
          · exact wl_tup (by decide +kernel) (by decide +kernel) fun e he => by
              simp only [List.mem_cons, List.not_mem_nil, or_false] at he
              rcases he with rfl | rfl
              · exact sy_wl _ hs1
              · exact hw
          · exact (lt_t3 mw m1 hl).up (by omega) (by omega)
      · repeat' decreasing_trivial_pre_omega
        exact rest _ fin
end S5
namespace QM
open PySem PySem.Spec L2 QL QP
def wDc (d : D) (Q : List (D × D) → Prop) : Prop := ∃ kvs, d = .dict kvs ∧ isOb kvs = false ∧ Q kvs
instance {kvs : List (D × D)} {Q : List (D × D) → Prop} [n : NoOb kvs] : Step (wDc (.dict kvs) Q) (Q kvs) := ⟨fun q => ⟨_, rfl, n.h, q⟩⟩
section
variable {P : SV → S → Prop} {X : XPo} {r : S} {p : Po} {fk fx : S → Res D} {i : Nat} {sl : List (Option SV)} {tp : Option (Int × Int)} {kvs : List (D × D)} {Q : Option D → Prop} {a b : Int} {z : Str} {o : Option D}
instance {P : List D → S → Prop} : Step (wE (fDk i r) P X) (wE (fV i r) (fun d r => wDc d fun kvs => P (kysD kvs) r) X) := ⟨fun h => by
  unfold fDk
  refine wE_bind (wE_mono h fun d r h => ?_)
  obtain ⟨kvs, e, n, h⟩ := h
  subst e
  simp only [n, cond_false]
  exact h⟩
instance {G : D → S → Option S} {B : S → RS} : Step (wS (sForK i G B r) p) (wE (fDk i r) (fun ds r => wS (forF G B ds r) { p with ex := XN }) p.ex) := ⟨fun h => by
  unfold sForK
  refine wE_bindS (wE_mono h fun ds r h => ?_)
  generalize forF G B ds r = R at h ⊢
  cases R <;> first | exact h | exact h.elim⟩
instance [h : Get sl i (some (.fz (.dict kvs)))] [NoOb kvs] : Step (wE (fGetS i fk ⟨sl, tp⟩) P X) (wE (fk ⟨sl, tp⟩) (fun k r => wLk r i k fun o => wSm' o fun d => P (.fz d) r) X) := ⟨w_getS isDS_f⟩
instance [h : Get sl i (some (.fz (.dict kvs)))] [NoOb kvs] : Step (wE (fGet1S i fk ⟨sl, tp⟩) P X) (wE (fk ⟨sl, tp⟩) (fun k r => wLk r i k fun o => P (.fz (o.getD .none)) r) X) := ⟨w_get1S isDS_f⟩
instance [h : Get sl i (some (.fz (.dict kvs)))] [NoOb kvs] : Step (wE (fGet2S i fk fx ⟨sl, tp⟩) P X) (wE (fk ⟨sl, tp⟩) (fun k r => wE (fx r) (fun x r => wLk r i k fun o => P (.fz (o.getD x)) r) X) X) := ⟨w_get2S isDS_f⟩
end
end QM
namespace QM
open PySem PySem.Spec L2 QL QP
section
variable {P : SV → S → Prop} {PL : List D → S → Prop} {X : XPo} {r : S} {p : Po} {fa fb fo : S → Res D} {FL : S → Res (List D)} {i n : Nat} {c f m : Str} {q : D → Bool} {fs fs' : List (D × D)} {d e v : D} {F : List D → FR} {B : S → RS} {sl : List (Option SV)} {tp : Option (Int × Int)}
class ShF (fs : List (D × D)) : Prop where
  h : fs.length < 1000
instance : ShF [] := ⟨by simp⟩
instance {a : D × D} : ShF [a] := ⟨by simp⟩
instance {a b : D × D} : ShF [a, b] := ⟨by simp⟩
class NeS (x f : Str) : Prop where
  h : x ≠ f
instance : NeS "least" "k" := ⟨by decide +kernel⟩
instance : NeS "k" "least" := ⟨by decide +kernel⟩
class PutF (f : Str) (d : D) (fs : List (D × D)) (fs' : outParam (List (D × D))) : Prop where
  h : putFD f d fs = fs'
instance : PutF f d [] [(.str f, d)] := ⟨rfl⟩
instance {x : Str} {e : D} {r r' : List (D × D)} [n : NeS x f] [h : PutF f d r r'] : PutF f d ((.str x, e) :: r) ((.str x, e) :: r') := ⟨by rw [putFD, if_neg n.h, h.h]⟩
def wOb (c : Str) (x : SV) (Q : List (D × D) → Prop) : Prop := ∃ fs, x = .ob c fs ∧ fs.length < 1000 ∧ Q fs
instance {Q : List (D × D) → Prop} [h : ShF fs] : Step (wOb c (.ob c fs) Q) (Q fs) := ⟨fun q => ⟨fs, rfl, h.h, q⟩⟩
def wPf (f : Str) (d : D) (fs : List (D × D)) (Q : List (D × D) → Prop) : Prop := Q (putFD f d fs)
instance {Q : List (D × D) → Prop} [h : PutF f d fs fs'] : Step (wPf f d fs Q) (Q fs') := ⟨fun q => by unfold wPf; rw [h.h]; exact q⟩
instance : Step (wS (sFst c i f fa r) p) (wE (fa r) (fun d r => wL r.sl i fun x => wOb c x fun fs => wPf f d fs fun fs => wU r.sl i (some (.ob c fs)) fun sl => wRS sl r.tp p.nx) p.ex) := ⟨fun h => by
  unfold sFst
  refine wE_bindS (wE_mono h fun d r h => ?_)
  obtain ⟨x, e, fs, e2, hl, hi, h⟩ := h
  subst e2
  rw [e]
  dsimp only
  rw [if_pos ⟨rfl, hl⟩]
  exact h⟩
def wMt (c m : Str) (d : D) (Q : Prop) : Prop := ∃ fs, fldsOf c d = some fs ∧ lookF m fs = none ∧ Q
instance : Step (wE (aMeth c m fo FL r) PL X) (wE (fo r) (fun d r => wMt c m d (wE (FL r) (fun ds r => PL (d :: ds) r) X)) X) := ⟨fun h => by
  unfold aMeth
  refine wE_bind (wE_mono h fun d r h => ?_)
  obtain ⟨fs, e, l, h⟩ := h
  rw [e]
  dsimp only
  rw [l]
  exact wE_bind h⟩
def wOwO (c : Str) (q : D → Bool) (d e : D) (Q : Prop) : Prop := (fldsOf c d).isSome = true ∧ q e = true ∧ Q
instance : Step (wE (aOwn c q fa fb r) PL X) (wE (fa r) (fun d r => wE (fb r) (fun e r => wOwO c q d e (PL [d, e] r)) X) X) := ⟨fun h => by
  unfold aOwn
  refine wE_bind (wE_mono h fun d r h => wE_bind (wE_mono h fun e r h => ?_))
  obtain ⟨h1, h2, h⟩ := h
  rw [h1, h2]
  exact h⟩
end
def Kd (k : Nat) (u : List Nat) : D := obD "Kind" [(.str "least", .str (tx u)), (.str "k", .int k)]
section
variable {P : SV → S → Prop} {r : S} {k j : Nat} {u v : List Nat} {t : Int} {Q : Prop}
theorem kd_f : fldsOf "Kind" (Kd k u) = some [(.str "least", .str (tx u)), (.str "k", .int k)] := by
  unfold Kd fldsOf
  simp
instance : Step (wO (dFld "Kind" "k" (Kd k u)) r P) (P (.fz (.int k)) r) := ⟨fun q => ⟨.fz (.int k), by
  unfold dFld
  rw [kd_f]
  dsimp only
  rw [lookF, if_neg (by decide +kernel), lookF, if_pos rfl]
  rfl, q⟩⟩
instance : Step (wO (dFld "Kind" "least" (Kd k u)) r P) (P (.fz (.str (tx u))) r) := ⟨fun q => ⟨.fz (.str (tx u)), by
  unfold dFld
  rw [kd_f]
  dsimp only
  rw [lookF, if_pos rfl]
  rfl, q⟩⟩
instance : Step (wO (dIsC "Kind" (Kd k u)) r P) (P (.fz (.bool true)) r) := ⟨fun q => ⟨.fz (.bool true), by
  unfold dIsC
  rw [kd_f]
  rfl, q⟩⟩
instance : Step (wMt "Kind" "within" (Kd k u) Q) Q := ⟨fun q => ⟨_, kd_f, by
  rw [lookF, if_neg (by decide +kernel), lookF, if_neg (by decide +kernel)]
  rfl, q⟩⟩
instance : Step (wMt "Kind" "idle_behind" (Kd k u) Q) Q := ⟨fun q => ⟨_, kd_f, by
  rw [lookF, if_neg (by decide +kernel), lookF, if_neg (by decide +kernel)]
  rfl, q⟩⟩
instance : Step (wOwO "Kind" (qOb "Kind") (Kd k u) (Kd j v) Q) Q := ⟨fun q => ⟨by rw [kd_f]; rfl, by unfold qOb; rw [kd_f]; rfl, q⟩⟩
instance : Step (wOwO "Kind" qInt (Kd k u) (.int t) Q) Q := ⟨fun q => ⟨by rw [kd_f]; rfl, rfl, q⟩⟩
end
end QM
namespace QM
open PySem PySem.Spec L2 QL QP
def wNg (x : SV) (Q : Bool → Prop) : Prop := ∃ b, x = .fz (.bool b) ∧ Q b
section
variable {P : SV → S → Prop} {X : XPo} {r : S} {k j : Nat} {u v : List Nat} {t : Int} {Q : Prop} {QB : Bool → Prop} {G : S → Res SV} {b : Bool}
instance : Step (wE (fNeg G r) P X) (wE (G r) (fun x r => wNg x fun b => P (.fz (.bool (!b))) r) X) := ⟨fun h => by
  unfold fNeg
  refine wE_bind (wE_mono h fun x r h => ?_)
  obtain ⟨b, rfl, h⟩ := h
  exact h⟩
instance : Step (wNg (.fz (.bool b)) QB) (QB b) := ⟨fun h => ⟨b, rfl, h⟩⟩
instance : Step (wOwO "Kind" (qAny "Kind") (Kd k u) (Kd j v) Q) Q := ⟨fun q => ⟨by rw [kd_f]; rfl, by unfold qAny; rw [kd_f]; rfl, q⟩⟩
end
section
variable {P : SV → S → Prop} {X : XPo} {r : S} {fa : S → Res D}
instance : Step (wE (eDictL fa r) P X) (wE (fa r) (fun d r => ∃ ds ps cs, d = .list ds ∧ prsKV ds = some ps ∧ keysDT ps = some cs ∧ P (.ot (mergeDT [] cs)) r) X) := ⟨fun h => by
  unfold eDictL
  refine wE_bind (wE_mono h fun d r h => ?_)
  obtain ⟨ds, ps, cs, rfl, e1, e2, h⟩ := h
  dsimp only
  rw [e1]
  dsimp only
  rw [e2]
  exact h⟩
end
section
variable {vs vs1 : List Nat} {G G1 : D → S → Option S} {T T1 : S → Res Bool} {I I1 : S → Res (List D)} {F : S → Res D} {r r3 r0 : S} {P : SV → S → Prop} {X : XPo} {ds es : List D}
def wLc2 (vs vs1 : List Nat) (G : D → S → Option S) (T : S → Res Bool) (I1 : S → Res (List D)) (G1 : D → S → Option S) (T1 : S → Res Bool) (F : S → Res D) (ds : List D) (r : S) (P : SV → S → Prop) : Prop :=
  ∃ acc r', lc2F vs vs1 G T I1 G1 T1 F ds [] ⟨wipeS vs r.sl, r.tp⟩ = .ok acc r' ∧ P (.ol acc) ⟨restS vs r.sl r'.sl, r'.tp⟩
instance : Step (wE (fLc2 vs vs1 I G T I1 G1 T1 F r) P X) (wE (I r) (fun ds r => wLc2 vs vs1 G T I1 G1 T1 F ds r P) X) := ⟨fun h => wE_bind (wE_mono h fun ds r h => by
  obtain ⟨acc, r', e, h⟩ := h
  show wE (match lc2F vs vs1 G T I1 G1 T1 F ds [] { r with sl := wipeS vs r.sl } with
    | .ok acc r' => Res.ok (SV.ol acc) { r' with sl := restS vs r.sl r'.sl }
    | _ => Res.bad) P X
  rw [show ({ r with sl := wipeS vs r.sl } : S) = ⟨wipeS vs r.sl, r.tp⟩ from rfl, e]
  exact h)⟩
end
end QM
namespace QM
open PySem PySem.Spec L2 QL QP
local macro_rules | `(tactic| decreasing_trivial_pre_omega) => `(tactic| first
  | apply QM.Step.go
  | refine ⟨rfl, ?_⟩
  | refine ⟨⟨rfl, rfl⟩, ?_⟩
  | refine ⟨_, rfl, ?_⟩
  | refine ⟨_, _, rfl, ?_⟩
  | refine ⟨_, _, _, rfl, ?_⟩
  | refine ⟨Nat.le_of_ble_eq_true rfl, ?_⟩
  | refine ⟨szb' (by omega), ?_⟩
  | refine ⟨szb' (by simp only [List.length_append, List.length_cons, List.length_nil]; omega), ?_⟩
  | refine wAt_r rfl ?_
  | refine wB_t rfl ?_
  | refine wB_f rfl ?_)
instance : OfS "has " [104, 97, 115, 32] := ⟨by decide +kernel⟩
instance : OfS "not " [110, 111, 116, 32] := ⟨by decide +kernel⟩
instance : OfS "(" [40] := ⟨by decide +kernel⟩
instance : OfS ")" [41] := ⟨by decide +kernel⟩
instance {a b : List Nat} {r : S} {P : SV → S → Prop} : Step (wO (dStarts (.str (tx a)) [.str (tx b)]) r P) (P (.fz (.bool (preN a b))) r) := ⟨fun q => wO_of (z' := .fz (.bool (preN a b))) (by unfold dStarts; dsimp only; rw [tx_cps, tx_cps]) q⟩
theorem signs_R : ∀ (n : Nat) (s : Sy), s.ok2 → s.deep ≤ n → n ≤ 12 → Ret (R_signs_of n [s.d]) (.fz (.str (tx (sg s))))
  | 0, s, _, h, _ => by cases s <;> simp [Sy.deep] at h
  | n + 1, .has p, ok, h, hn => by
    show Ret (bodyF 3 (B_signs_of (R_signs_of n)) _) _
    generalize R_signs_of n = F
    refine Ret.go ?_
    unfold B_signs_of Sy.d
    have := ok.2
    simp only [sg]
    by_cases h0 : p = []
    · subst h0
      repeat' decreasing_trivial_pre_omega
      rfl
    · rw [if_neg h0]
      repeat' decreasing_trivial_pre_omega
      refine wB_f (decide_eq_false h0) ?_
      repeat' decreasing_trivial_pre_omega
      all_goals rfl
  | n + 1, .no s, ok, h, hn => by
    have ok : s.ok2 := ok
    have hs : s.deep ≤ n := by simp only [Sy.deep] at h; omega
    have ih := signs_R n s ok hs (by omega)
    have hl := sg_k ok hs (by omega)
    show Ret (bodyF 3 (B_signs_of (R_signs_of n)) _) _
    generalize R_signs_of n = F at ih ⊢
    refine Ret.go ?_
    unfold B_signs_of Sy.d signs_of_e1
    simp only [sg]
    repeat' decreasing_trivial_pre_omega
    refine wF_ret ih ?_
    repeat' decreasing_trivial_pre_omega
    all_goals (first | rfl | simp [List.append_assoc])
  | n + 1, .an s t, ok, h, hn => by
    have hs : s.deep ≤ n := by simp only [Sy.deep] at h; omega
    have ht : t.deep ≤ n := by simp only [Sy.deep] at h; omega
    have ih := signs_R n s ok.1 hs (by omega)
    have iht := signs_R n t ok.2 ht (by omega)
    have hl := sg_k ok.1 hs (by omega)
    have hlt := sg_k ok.2 ht (by omega)
    show Ret (bodyF 3 (B_signs_of (R_signs_of n)) _) _
    generalize R_signs_of n = F at ih iht ⊢
    refine Ret.go ?_
    unfold B_signs_of Sy.d signs_of_e1
    simp only [sg]
    repeat' decreasing_trivial_pre_omega
    refine wF_ret ih ?_
    repeat' decreasing_trivial_pre_omega
    refine wF_ret iht ?_
    repeat' decreasing_trivial_pre_omega
    all_goals (first | rfl | simp [List.append_assoc])
  | n + 1, .or s t, ok, h, hn => by
    have hs : s.deep ≤ n := by simp only [Sy.deep] at h; omega
    have ht : t.deep ≤ n := by simp only [Sy.deep] at h; omega
    have ih := signs_R n s ok.1 hs (by omega)
    have iht := signs_R n t ok.2 ht (by omega)
    have hl := sg_k ok.1 hs (by omega)
    have hlt := sg_k ok.2 ht (by omega)
    show Ret (bodyF 3 (B_signs_of (R_signs_of n)) _) _
    generalize R_signs_of n = F at ih iht ⊢
    refine Ret.go ?_
    unfold B_signs_of Sy.d signs_of_e1
    simp only [sg]
    repeat' decreasing_trivial_pre_omega
    refine wF_ret ih ?_
    repeat' decreasing_trivial_pre_omega
    refine wF_ret iht ?_
    repeat' decreasing_trivial_pre_omega
    all_goals (first | rfl | simp [List.append_assoc])
theorem join1 {s a : List Nat} : Txt.join (tx s) [tx a] = tx a := by
  show Builtin.Str.glued (tx s) _ = _
  rw [StrLaws.glued_eq_join]
  rfl
theorem join2 {s a b : List Nat} : Txt.join (tx s) [tx a, tx b] = tx (a ++ s ++ b) := by
  show Builtin.Str.glued (tx s) _ = _
  rw [StrLaws.glued_eq_join]
  show tx a ++ tx s ++ tx b = _
  rw [tx_add, tx_add]
theorem lsigns_R : ∀ (n : Nat) (s : Sy), s.ok2 → s.deep ≤ n → n ≤ 12 → Ret (R__law_signs n [s.d]) (.fz (.str (tx (sg s))))
  | 0, s, _, h, _ => by cases s <;> simp [Sy.deep] at h
  | n + 1, .has p, ok, h, hn => by
    show Ret (bodyF 3 (B__law_signs (R__law_signs n)) _) _
    generalize R__law_signs n = F
    refine Ret.go ?_
    unfold B__law_signs Sy.d _law_signs_t1 _law_signs_e2
    have := ok.2
    simp only [sg]
    by_cases h0 : p = []
    · subst h0
      repeat' decreasing_trivial_pre_omega
      show SV.fz (PyData.str (Txt.join (tx [32]) [tx [104, 97, 115]])) = _
      rw [join1]; rfl
    · rw [if_neg h0]
      repeat' decreasing_trivial_pre_omega
      refine wB_f (decide_eq_false h0) ?_
      repeat' decreasing_trivial_pre_omega
      refine ⟨?_, ?_⟩
      · show ([tx [104, 97, 115], tx p].map (·.length)).sum + [tx [104, 97, 115], tx p].length * (tx [32]).length ≤ 1000000
        simp only [List.map_cons, List.map_nil, List.sum_cons, List.sum_nil, QL.tx_len, List.length_cons, List.length_nil]
        omega
      · repeat' decreasing_trivial_pre_omega
        show SV.fz (PyData.str (Txt.join (tx [32]) [tx [104, 97, 115], tx p])) = _
        rw [join2]; rfl
  | n + 1, .no s, ok, h, hn => by
    have ok : s.ok2 := ok
    have hs : s.deep ≤ n := by simp only [Sy.deep] at h; omega
    have ih := lsigns_R n s ok hs (by omega)
    have hl := sg_k ok hs (by omega)
    show Ret (bodyF 3 (B__law_signs (R__law_signs n)) _) _
    generalize R__law_signs n = F at ih ⊢
    refine Ret.go ?_
    unfold B__law_signs Sy.d _law_signs_e3
    simp only [sg]
    repeat' decreasing_trivial_pre_omega
    refine wF_ret ih ?_
    repeat' decreasing_trivial_pre_omega
    all_goals (first | rfl | simp [List.append_assoc])
  | n + 1, .an s t, ok, h, hn => by
    have hs : s.deep ≤ n := by simp only [Sy.deep] at h; omega
    have ht : t.deep ≤ n := by simp only [Sy.deep] at h; omega
    have ih := lsigns_R n s ok.1 hs (by omega)
    have iht := lsigns_R n t ok.2 ht (by omega)
    have hl := sg_k ok.1 hs (by omega)
    have hlt := sg_k ok.2 ht (by omega)
    show Ret (bodyF 3 (B__law_signs (R__law_signs n)) _) _
    generalize R__law_signs n = F at ih iht ⊢
    refine Ret.go ?_
    unfold B__law_signs Sy.d _law_signs_e3
    simp only [sg]
    repeat' decreasing_trivial_pre_omega
    refine wF_ret ih ?_
    repeat' decreasing_trivial_pre_omega
    refine wF_ret iht ?_
    repeat' decreasing_trivial_pre_omega
    refine ⟨?_, ?_⟩
    · show ([tx ([40] ++ sg s ++ [41]), tx ([40] ++ sg t ++ [41])].map (·.length)).sum + [tx ([40] ++ sg s ++ [41]), tx ([40] ++ sg t ++ [41])].length * (tx ([32] ++ [97, 110, 100] ++ [32])).length ≤ 1000000
      simp only [List.map_cons, List.map_nil, List.sum_cons, List.sum_nil, QL.tx_len, List.length_cons, List.length_nil, List.length_append]
      omega
    · refine ⟨rfl, ?_⟩
      show SV.fz (PyData.str (Txt.join (tx ([32] ++ [97, 110, 100] ++ [32])) [tx ([40] ++ sg s ++ [41]), tx ([40] ++ sg t ++ [41])])) = _
      rw [join2]; rfl
  | n + 1, .or s t, ok, h, hn => by
    have hs : s.deep ≤ n := by simp only [Sy.deep] at h; omega
    have ht : t.deep ≤ n := by simp only [Sy.deep] at h; omega
    have ih := lsigns_R n s ok.1 hs (by omega)
    have iht := lsigns_R n t ok.2 ht (by omega)
    have hl := sg_k ok.1 hs (by omega)
    have hlt := sg_k ok.2 ht (by omega)
    show Ret (bodyF 3 (B__law_signs (R__law_signs n)) _) _
    generalize R__law_signs n = F at ih iht ⊢
    refine Ret.go ?_
    unfold B__law_signs Sy.d _law_signs_e3
    simp only [sg]
    repeat' decreasing_trivial_pre_omega
    refine wF_ret ih ?_
    repeat' decreasing_trivial_pre_omega
    refine wF_ret iht ?_
    repeat' decreasing_trivial_pre_omega
    refine ⟨?_, ?_⟩
    · show ([tx ([40] ++ sg s ++ [41]), tx ([40] ++ sg t ++ [41])].map (·.length)).sum + [tx ([40] ++ sg s ++ [41]), tx ([40] ++ sg t ++ [41])].length * (tx ([32] ++ [111, 114] ++ [32])).length ≤ 1000000
      simp only [List.map_cons, List.map_nil, List.sum_cons, List.sum_nil, QL.tx_len, List.length_cons, List.length_nil, List.length_append]
      omega
    · refine ⟨rfl, ?_⟩
      show SV.fz (PyData.str (Txt.join (tx ([32] ++ [111, 114] ++ [32])) [tx ([40] ++ sg s ++ [41]), tx ([40] ++ sg t ++ [41])])) = _
      rw [join2]; rfl
theorem rngL_nat' (k n : Nat) : rngL (k : Int) n = (List.range' k n).map fun o => .int ((o : Nat) : Int) := by
  unfold rngL
  rw [List.range'_eq_map_range, List.map_map]
  exact List.map_congr_left fun j _ => by simp
theorem closing_R {l : List Nat} {a : Nat} (ha : a ≤ l.length) (hl : l.length ≤ 1000000) : Ret (F_closing [.str (tx l), .int (a : Nat)]) (.fz (.int (cl (l.drop a) 0 a))) := by
  refine Ret.go ?_
  unfold B_closing
  repeat' decreasing_trivial_pre_omega
  refine ⟨by omega, ?_⟩
  repeat' decreasing_trivial_pre_omega
  refine ⟨hl, ?_⟩
  rw [show ((l.length : Int) - (a : Int)).toNat = l.length - a by omega, rngL_nat']
  refine wFor_inv (fun j r => a + j ≤ l.length ∧ ∃ (d : Int) (x3 : Option SV), cl (l.drop a) 0 a = cl (l.drop (a + j)) d (a + j) ∧ r = ⟨[some (.fz (.str (tx l))), some (.fz (.int (a : Nat))), some (.fz (.int d)), x3], none⟩) ?_ ?_ ?_
  · exact ⟨by omega, 0, none, rfl, rfl⟩
  · rintro j e r he ⟨haj, d, x3, hcl, rfl⟩
    rw [List.getElem?_map] at he
    obtain ⟨o, ho, rfl⟩ := Option.map_eq_some_iff.mp he
    have hj := (List.getElem?_eq_some_iff.mp ho).1
    rw [List.length_range'] at hj
    rw [List.getElem?_range' hj] at ho
    have ho : a + 1 * j = o := Option.some.inj ho
    obtain rfl : o = a + j := by omega
    have hlt : a + j < l.length := by omega
    have hat := atI_lt hlt
    have hdr : l.drop (a + j) = l[a + j] :: l.drop (a + (j + 1)) := by
      rw [List.drop_eq_getElem_cons hlt]; rfl
    rw [hdr] at hcl
    generalize l[a + j] = c at hat hcl
    rw [cl] at hcl
    unfold closing_b1
    repeat' decreasing_trivial_pre_omega
    refine wAt_r hat ?_
    repeat' decreasing_trivial_pre_omega
    by_cases h1 : c = 40
    · subst h1
      rw [if_pos rfl] at hcl
      repeat' decreasing_trivial_pre_omega
      refine wAt_r hat ?_
      repeat' decreasing_trivial_pre_omega
      exact ⟨by omega, _, _, hcl, rfl⟩
    · rw [if_neg h1] at hcl
      refine wB_f (decide_eq_false (by simpa using h1)) ?_
      repeat' decreasing_trivial_pre_omega
      refine wAt_r hat ?_
      repeat' decreasing_trivial_pre_omega
      by_cases h2 : c = 41
      · subst h2
        rw [if_pos rfl] at hcl
        repeat' decreasing_trivial_pre_omega
        by_cases h3 : d - 1 = 0
        · rw [if_pos h3] at hcl
          refine wB_t (decide_eq_true h3) ?_
          repeat' decreasing_trivial_pre_omega
          rw [hcl]
        · rw [if_neg h3] at hcl
          refine wB_f (decide_eq_false h3) ?_
          repeat' decreasing_trivial_pre_omega
          exact ⟨by omega, _, _, hcl, rfl⟩
      · rw [if_neg h2] at hcl
        refine wB_f (decide_eq_false (by simpa using h2)) ?_
        repeat' decreasing_trivial_pre_omega
        exact ⟨by omega, _, _, hcl, rfl⟩
  · rintro r ⟨haj, d, x3, hcl, rfl⟩
    have e : cl (l.drop a) 0 a = -1 := by
      rw [hcl, List.length_map, List.length_range', show a + (l.length - a) = l.length by omega, List.drop_length]; rfl
    rw [e]
    repeat' decreasing_trivial_pre_omega
    rfl
end QM
namespace QM
open PySem PySem.Spec L2 QL QP
local macro_rules | `(tactic| decreasing_trivial_pre_omega) => `(tactic| first
  | apply QM.Step.go
  | refine ⟨rfl, ?_⟩
  | refine ⟨⟨rfl, rfl⟩, ?_⟩
  | refine ⟨_, rfl, ?_⟩
  | refine ⟨_, _, rfl, ?_⟩
  | refine ⟨_, _, _, rfl, ?_⟩
  | refine ⟨Nat.le_of_ble_eq_true rfl, ?_⟩
  | refine ⟨szb' (by omega), ?_⟩
  | refine ⟨szb' (by simp only [List.length_append, List.length_cons, List.length_nil]; omega), ?_⟩
  | refine wAt_r rfl ?_
  | refine wB_t rfl ?_
  | refine wB_f rfl ?_)
/-- what stands in brackets at the end -/
theorem inner_R {A B : List Nat} {s : Sy} (h : s.ok2) (e : B = A ++ ([40] ++ sg s ++ [41])) (hl : B.length ≤ 1000000) : Ret (F_inner [.str (tx B), .int ((A.length : Nat) : Int)]) (.fz (.str (tx (sg s)))) := by
  have hc := closing_R (l := B) (a := A.length) (by rw [e]; simp) hl
  have e1 : cl (B.drop A.length) 0 A.length = ((A.length + (sg s).length + 1 : Nat) : Int) := by
    rw [e, List.drop_left' rfl]
    have := cl_part h (r := []) (i := A.length)
    rwa [List.append_nil] at this
  rw [e1] at hc
  have e2 : cutL B (some (A.length : Int)) (some ((A.length : Int) + 1)) = [40] := by
    rw [e]
    have := cut_in (A := A) (B := [40]) (C := sg s ++ [41]) (a := A.length) (b := A.length + 1) rfl (by simp)
    rw [List.append_assoc] at this ⊢
    exact this
  have e3 : cutL B (some ((A.length : Int) + 1)) (some (-1)) = sg s := by
    rw [e]
    have := cut_m1 (A := A ++ [40]) (B := sg s) (c := 41) (a := A.length + 1) (by simp)
    simpa [List.append_assoc] using this
  have e4 : B.length = A.length + (sg s).length + 2 := by rw [e]; simp; omega
  refine Ret.go ?_
  unfold B_inner
  generalize F_closing = F at hc ⊢
  repeat' decreasing_trivial_pre_omega
  rw [e2]
  repeat' decreasing_trivial_pre_omega
  refine wF_ret hc ?_
  repeat' decreasing_trivial_pre_omega
  refine wB_t (decide_eq_true (by rw [e4]; omega)) ?_
  repeat' decreasing_trivial_pre_omega
  rw [e3]
instance {a b : List Nat} {r : S} {P : SV → S → Prop} : Step (wO (dStarts (.str (tx a)) [.str (tx b)]) r P) (P (.fz (.bool (preN a b))) r) := ⟨fun q => wO_of (z' := .fz (.bool (preN a b))) (by unfold dStarts; dsimp only; rw [tx_cps, tx_cps]) q⟩
theorem pre_app (a b : List Nat) : preN (a ++ b) a = true := by unfold preN; rw [List.take_left' rfl]; simp
theorem sy_notN (s : Sy) : isN s.d = false := by cases s <;> rfl
theorem saying_R : ∀ (n : Nat) (s : Sy) (k : Nat), s.ok2 → s.deep ≤ k → k ≤ 12 → k < n → Ret (R_saying_of n [.str (tx (sg s)), .int (k : Nat)]) (.fz s.d)
  | 0, s, k, _, _, _, h => absurd h (by omega)
  | n + 1, .has p, k, ok, h, hk, hn => by
    show Ret (bodyF 7 (B_saying_of (R_saying_of n)) _) _
    generalize R_saying_of n = F
    have hk0 : 1 ≤ k := by simpa [Sy.deep] using h
    have hkz : decide ((k : Int) = 0) = false := decide_eq_false (by omega)
    have h2 := ok.2
    refine Ret.go ?_
    unfold B_saying_of Sy.d
    simp only [sg]
    by_cases h0 : p = []
    · subst h0
      rw [if_pos rfl]
      repeat' decreasing_trivial_pre_omega
      refine wB_f hkz ?_
      repeat' decreasing_trivial_pre_omega
      rw [show cutL [104, 97, 115] (some 4) none = ([] : List Nat) from cut_fr [104, 97, 115] 4]
    · rw [if_neg h0]
      have e1 : cutL ([104, 97, 115, 32] ++ p) (some 4) none = p := cut_fr ([104, 97, 115, 32] ++ p) 4
      have e2 : preN ([104, 97, 115, 32] ++ p) [104, 97, 115, 32] = true := pre_app _ _
      repeat' decreasing_trivial_pre_omega
      refine wB_f hkz ?_
      repeat' decreasing_trivial_pre_omega
      rw [e1]
      refine wF_ret (good_tx (l := p) (by omega) ok.1) ?_
      repeat' decreasing_trivial_pre_omega
      refine wB_f (decide_eq_false (by simpa using h0)) ?_
      repeat' decreasing_trivial_pre_omega
      rw [e1]
  | n + 1, .no s, k, ok, h, hk, hn => by
    have ok : s.ok2 := ok
    have hs : s.deep ≤ k - 1 := by simp only [Sy.deep] at h; omega
    have hk0 : 1 ≤ k := by simp only [Sy.deep] at h; omega
    have hkz : decide ((k : Int) = 0) = false := decide_eq_false (by omega)
    have ih := saying_R n s (k - 1) ok hs (by omega) (by omega)
    have hl := sg_k ok hs (by omega)
    have hi := inner_R (A := [110, 111, 116, 32]) (B := [110, 111, 116, 32] ++ ([40] ++ sg s ++ [41])) ok rfl (by simp; omega)
    have e2 : preN ([110, 111, 116, 32] ++ ([40] ++ sg s ++ [41])) [110, 111, 116, 32] = true := pre_app _ _
    show Ret (bodyF 7 (B_saying_of (R_saying_of n)) _) _
    generalize R_saying_of n = F at ih ⊢
    refine Ret.go ?_
    unfold B_saying_of Sy.d
    generalize F_inner = G at hi ⊢
    simp only [sg]
    repeat' decreasing_trivial_pre_omega
    refine wB_f hkz ?_
    repeat' decreasing_trivial_pre_omega
    refine wF_ret hi ?_
    repeat' decreasing_trivial_pre_omega
    rw [show (k : Int) - 1 = ((k - 1 : Nat) : Int) by omega]
    refine wF_ret ih ?_
    repeat' decreasing_trivial_pre_omega
    refine wB_f (sy_notN s) ?_
    repeat' decreasing_trivial_pre_omega
    all_goals rfl
  | n + 1, .an s t, k, ok, h, hk, hn => by
    have hs : s.deep ≤ k - 1 := by simp only [Sy.deep] at h; omega
    have ht : t.deep ≤ k - 1 := by simp only [Sy.deep] at h; omega
    have hk0 : 1 ≤ k := by simp only [Sy.deep] at h; omega
    have hkz : decide ((k : Int) = 0) = false := decide_eq_false (by omega)
    have ih := saying_R n s (k - 1) ok.1 hs (by omega) (by omega)
    have iht := saying_R n t (k - 1) ok.2 ht (by omega) (by omega)
    have hl := sg_k ok.1 hs (by omega)
    have hlt := sg_k ok.2 ht (by omega)
    show Ret (bodyF 7 (B_saying_of (R_saying_of n)) [.str (tx (([40] ++ sg s ++ [41]) ++ [32, 97, 110, 100, 32] ++ ([40] ++ sg t ++ [41]))), _]) _
    have hA : (([40] ++ sg s ++ [41]) ++ [32, 97, 110, 100, 32]).length = (sg s).length + 7 := by simp
    have hT : (([40] ++ sg s ++ [41]) ++ [32, 97, 110, 100, 32] ++ ([40] ++ sg t ++ [41])).length ≤ 1000000 := by simp; omega
    have hi := inner_R (A := ([40] ++ sg s ++ [41]) ++ [32, 97, 110, 100, 32]) ok.2 rfl hT
    have hc := closing_R (a := 0) (Nat.zero_le _) hT
    rw [List.drop_zero, List.append_assoc, cl_part ok.1, ← List.append_assoc, Nat.zero_add] at hc
    have e1 : cutL (([40] ++ sg s ++ [41]) ++ [32, 97, 110, 100, 32] ++ ([40] ++ sg t ++ [41])) (some 1) (some (((sg s).length + 1 : Nat) : Int)) = sg s := by
      have := cut_in (A := [40]) (B := sg s) (C := [41] ++ [32, 97, 110, 100, 32] ++ ([40] ++ sg t ++ [41])) (a := 1) (b := (sg s).length + 1) rfl (by simp)
      simpa [List.append_assoc] using this
    have e2 : cutL (([40] ++ sg s ++ [41]) ++ [32, 97, 110, 100, 32] ++ ([40] ++ sg t ++ [41])) (some (((sg s).length + 2 : Nat) : Int)) none = [32, 97, 110, 100, 32] ++ ([40] ++ sg t ++ [41]) := by
      rw [cut_fr, List.append_assoc ([40] ++ sg s ++ [41])]
      exact List.drop_left' (by simp)
    rw [hA] at hi
    generalize R_saying_of n = F at ih iht ⊢
    refine Ret.go ?_
    unfold B_saying_of saying_of_b1
    generalize F_inner = G at hi ⊢
    generalize F_closing = H at hc ⊢
    repeat' decreasing_trivial_pre_omega
    refine wB_f hkz ?_
    repeat' decreasing_trivial_pre_omega
    refine wF_ret hc ?_
    repeat' decreasing_trivial_pre_omega
    refine wFor_inv (fun i r => match i with | 0 => r = _ | _ => False) rfl ?_ (fun r h => h.elim)
    rintro i d r hd hq
    match i, hq with
    | 0, hq =>
      subst hq
      obtain rfl := Option.some.inj hd
      repeat' decreasing_trivial_pre_omega
      refine wB_t (decide_eq_true (by omega)) ?_
      repeat' decreasing_trivial_pre_omega
      rw [show (((sg s).length + 1 : Nat) : Int) + 1 = (((sg s).length + 2 : Nat) : Int) by omega, e2]
      repeat' decreasing_trivial_pre_omega
      rw [e1, show (k : Int) - 1 = ((k - 1 : Nat) : Int) by omega]
      refine wF_ret ih ?_
      repeat' decreasing_trivial_pre_omega
      rw [show (((sg s).length + 1 : Nat) : Int) + (([97, 110, 100] : List Nat).length : Int) + 3 = (((sg s).length + 7 : Nat) : Int) by simp only [List.length_cons, List.length_nil]; omega]
      refine wF_ret hi ?_
      repeat' decreasing_trivial_pre_omega
      rw [show (k : Int) - 1 = ((k - 1 : Nat) : Int) by omega]
      refine wF_ret iht ?_
      repeat' decreasing_trivial_pre_omega
      refine wB_f (sy_notN s) ?_
      repeat' decreasing_trivial_pre_omega
      refine wB_f (sy_notN t) ?_
      repeat' decreasing_trivial_pre_omega
      all_goals rfl
  | n + 1, .or s t, k, ok, h, hk, hn => by
    have hs : s.deep ≤ k - 1 := by simp only [Sy.deep] at h; omega
    have ht : t.deep ≤ k - 1 := by simp only [Sy.deep] at h; omega
    have hk0 : 1 ≤ k := by simp only [Sy.deep] at h; omega
    have hkz : decide ((k : Int) = 0) = false := decide_eq_false (by omega)
    have ih := saying_R n s (k - 1) ok.1 hs (by omega) (by omega)
    have iht := saying_R n t (k - 1) ok.2 ht (by omega) (by omega)
    have hl := sg_k ok.1 hs (by omega)
    have hlt := sg_k ok.2 ht (by omega)
    show Ret (bodyF 7 (B_saying_of (R_saying_of n)) [.str (tx (([40] ++ sg s ++ [41]) ++ [32, 111, 114, 32] ++ ([40] ++ sg t ++ [41]))), _]) _
    have hA : (([40] ++ sg s ++ [41]) ++ [32, 111, 114, 32]).length = (sg s).length + 6 := by simp
    have hT : (([40] ++ sg s ++ [41]) ++ [32, 111, 114, 32] ++ ([40] ++ sg t ++ [41])).length ≤ 1000000 := by simp; omega
    have hi := inner_R (A := ([40] ++ sg s ++ [41]) ++ [32, 111, 114, 32]) ok.2 rfl hT
    have hc := closing_R (a := 0) (Nat.zero_le _) hT
    rw [List.drop_zero, List.append_assoc, cl_part ok.1, ← List.append_assoc, Nat.zero_add] at hc
    have e1 : cutL (([40] ++ sg s ++ [41]) ++ [32, 111, 114, 32] ++ ([40] ++ sg t ++ [41])) (some 1) (some (((sg s).length + 1 : Nat) : Int)) = sg s := by
      have := cut_in (A := [40]) (B := sg s) (C := [41] ++ [32, 111, 114, 32] ++ ([40] ++ sg t ++ [41])) (a := 1) (b := (sg s).length + 1) rfl (by simp)
      simpa [List.append_assoc] using this
    have e2 : cutL (([40] ++ sg s ++ [41]) ++ [32, 111, 114, 32] ++ ([40] ++ sg t ++ [41])) (some (((sg s).length + 2 : Nat) : Int)) none = [32, 111, 114, 32] ++ ([40] ++ sg t ++ [41]) := by
      rw [cut_fr, List.append_assoc ([40] ++ sg s ++ [41])]
      exact List.drop_left' (by simp)
    rw [hA] at hi
    generalize R_saying_of n = F at ih iht ⊢
    refine Ret.go ?_
    unfold B_saying_of saying_of_b1
    generalize F_inner = G at hi ⊢
    generalize F_closing = H at hc ⊢
    repeat' decreasing_trivial_pre_omega
    refine wB_f hkz ?_
    repeat' decreasing_trivial_pre_omega
    refine wF_ret hc ?_
    repeat' decreasing_trivial_pre_omega
    refine wFor_inv (fun i r => match i with | 0 => r = _ | 1 => r = ⟨[some (.fz (.str (tx (([40] ++ sg s ++ [41]) ++ [32, 111, 114, 32] ++ ([40] ++ sg t ++ [41]))))), some (.fz (.int (k : Nat))), none, some (.fz (.int (((sg s).length + 1 : Nat) : Int))), some (.fz (.str (tx [97, 110, 100]))), none, none], none⟩ | _ => False) rfl ?_ (fun r h => h.elim)
    rintro i d r hd hq
    match i, hq with
    | 0, hq =>
      subst hq
      obtain rfl := Option.some.inj hd
      repeat' decreasing_trivial_pre_omega
      refine wB_t (decide_eq_true (by omega)) ?_
      repeat' decreasing_trivial_pre_omega
      rw [show (((sg s).length + 1 : Nat) : Int) + 1 = (((sg s).length + 2 : Nat) : Int) by omega, e2]
      repeat' decreasing_trivial_pre_omega
      all_goals rfl
    | 1, hq =>
      subst hq
      obtain rfl := Option.some.inj hd
      repeat' decreasing_trivial_pre_omega
      refine wB_t (decide_eq_true (by omega)) ?_
      repeat' decreasing_trivial_pre_omega
      rw [show (((sg s).length + 1 : Nat) : Int) + 1 = (((sg s).length + 2 : Nat) : Int) by omega, e2]
      repeat' decreasing_trivial_pre_omega
      rw [e1, show (k : Int) - 1 = ((k - 1 : Nat) : Int) by omega]
      refine wF_ret ih ?_
      repeat' decreasing_trivial_pre_omega
      rw [show (((sg s).length + 1 : Nat) : Int) + (([111, 114] : List Nat).length : Int) + 3 = (((sg s).length + 6 : Nat) : Int) by simp only [List.length_cons, List.length_nil]; omega]
      refine wF_ret hi ?_
      repeat' decreasing_trivial_pre_omega
      rw [show (k : Int) - 1 = ((k - 1 : Nat) : Int) by omega]
      refine wF_ret iht ?_
      repeat' decreasing_trivial_pre_omega
      refine wB_f (sy_notN s) ?_
      repeat' decreasing_trivial_pre_omega
      refine wB_f (sy_notN t) ?_
      repeat' decreasing_trivial_pre_omega
      all_goals rfl
end QM
namespace K55
open PySem PySem.Spec L2 QL QP QM
local macro_rules | `(tactic| decreasing_trivial_pre_omega) => `(tactic| first
  | apply QM.Step.go
  | refine ⟨rfl, ?_⟩
  | refine ⟨⟨rfl, rfl⟩, ?_⟩
  | refine ⟨_, rfl, ?_⟩
  | refine ⟨_, _, rfl, ?_⟩
  | refine ⟨_, _, _, rfl, ?_⟩
  | refine ⟨Nat.le_of_ble_eq_true rfl, ?_⟩
  | refine wAt_r rfl ?_
  | refine wB_t rfl ?_
  | refine wB_f rfl ?_)
def law_b3_1 (PT : Addr) : S → RS := sAsg 4 (fCallT 2 2 F__law_drawn_saying (aCons (fD (fCallT 2 1 F__law_one_of (aCons (fD (eLst (aCons (fC (.str "ab")) (aCons (fC (.str "hasnotdr")) (aCons (fC (.str "z")) (aNil)))))) (aNil)))) (aCons (fD (fOp dAdd (fC (.int 1)) (fD (fCallT 2 1 F__law_pick (aCons (fC (.int 5)) (aNil)))))) (aNil))))
def law_b3_2 (PT : Addr) : S → RS := sAsg 5 (fCall 1 F__law_signs (aCons (fV 4) (aNil)))
def law_b3_3 (PT : Addr) : S → RS := sIf (tOrF (tV (fD (fOp dNe (fD (eLst (aCons (fD (fCall 1 F_format_saying (aCons (fV 4) (aNil)))) (aCons (fD (fCall 1 (fun ds => F_format_saying (pickL [0] ds)) (aCons (fV 4) (aNil)))) (aNil))))) (fD (eLst (aCons (fV 5) (aCons (fV 5) (aNil)))))))) (tV (fD (fOp dNe (fD (eLst (aCons (fD (fCall 1 F_read_saying (aCons (fV 5) (aNil)))) (aCons (fD (fCall 1 (fun ds => F_read_saying (pickL [0] ds)) (aCons (fV 5) (aNil)))) (aNil))))) (fD (eLst (aCons (fV 4) (aCons (fV 4) (aNil))))))))) (sRet (eD (fC (.bool false)))) (sNext)
def law_b3_4 (PT : Addr) : S → RS := sAsg 6 (fCallT 2 1 F__law_one_of (aCons (fD (eLst (aCons (fC .none) (aCons (fD (eTup (aNil))) (aCons (fD (eTup (aCons (fC (.str "has")) (aNil)))) (aCons (fD (eTup (aCons (fC (.str "has")) (aCons (fC (.str "A")) (aNil))))) (aCons (fD (eLst (aCons (fC (.str "has")) (aCons (fC (.str "a")) (aNil))))) (aCons (fD (eTup (aCons (fC (.str "not")) (aCons (fC (.str "a")) (aNil))))) (aCons (fC (.str "has a")) (aCons (fD (eTup (aCons (fC (.str "and")) (aCons (fV 4) (aNil))))) (aCons (fD (eTup (aCons (fC (.str "nor")) (aCons (fV 4) (aCons (fV 4) (aNil)))))) (aNil)))))))))))) (aNil)))
def law_b3_5 (PT : Addr) : S → RS := sIf (tV (fD (fOp dNe (fD (fCB dReprA (aCons (fD (fRef PT [("BadSaying", "value", [])] (law_f1 PT))) (aNil)))) (fD (fCB dReprA (aCons (fD (eLst (aCons (fV 6) (aNil)))) (aNil))))))) (sRet (eD (fC (.bool false)))) (sNext)
def law_b3_6 (PT : Addr) : S → RS := sAsg 6 (fCallT 2 1 F__law_bent_saying (aCons (fV 4) (aNil)))
def law_b3_7 (PT : Addr) : S → RS := sIf (tAndF (tNotF (tV (fD (fCall 2 F__law_is_saying (aCons (fV 6) (aCons (fC (.int 10)) (aNil))))))) (tV (fD (fOp dNe (fD (fCB dReprA (aCons (fD (fRef PT [("BadSaying", "value", [])] (law_f2 PT))) (aNil)))) (fD (fCB dReprA (aCons (fD (eLst (aCons (fV 6) (aNil)))) (aNil)))))))) (sRet (eD (fC (.bool false)))) (sNext)
theorem law_b3_eq (PT : Addr) : law_b3 PT = sSeq (law_b3_1 PT) (sSeq (law_b3_2 PT) (sSeq (law_b3_3 PT) (sSeq (law_b3_4 PT) (sSeq (law_b3_5 PT) (sSeq (law_b3_6 PT) (law_b3_7 PT)))))) := rfl
def G_law_1 (PT : Addr) : S → RS := sAsg 7 (eTup (aCons (fC (.str "has")) (aCons (fC (.str "")) (aNil))))
def G_law_2 (PT : Addr) : S → RS := sFor (fRng1 (aCons (fC (.int 9)) (aNil))) (gNm 3) (law_b4 PT)
def G_law_3 (PT : Addr) : S → RS := sAsg 8 (eTup (aCons (fC (.str "not")) (aCons (fV 7) (aNil))))
def G_law_4 (PT : Addr) : S → RS := sIf (tV (fD (fOp dNe (fD (fRef PT [("BadSaying", "value", [])] (law_f5 PT))) (fD (eLst (aCons (fV 8) (aNil))))))) (sRet (eD (fC (.bool false)))) (sNext)
def G_law_5 (PT : Addr) : S → RS := sRet (eAndF (fD (fOp dEq (fD (fCall 1 F_read_saying (aCons (fD (fCall 1 F_format_saying (aCons (fV 7) (aNil)))) (aNil)))) (gV 7))) (fOp dEq (fD (fCall 1 F_format_saying (aCons (fD (eTup (aCons (fC (.str "has")) (aCons (fC (.str "")) (aNil))))) (aNil)))) (fC (.str "has"))))
theorem G_law_eq (PT : Addr) : G_law PT = sSeq (G_law_1 PT) (sSeq (G_law_2 PT) (sSeq (G_law_3 PT) (sSeq (G_law_4 PT) (G_law_5 PT)))) := rfl
theorem isay {d : D} (h : wl d = true) : Ret (F_is_saying [d]) (.fz (.bool (isS 10 d))) := by
  refine Ret.go ?_
  unfold B_is_saying
  repeat' decreasing_trivial_pre_omega
  refine wF_ret (show Ret (F_is_saying_in [d, .int 10]) _ from isay_R 10 d h 12 (by decide)) ?_
  repeat' decreasing_trivial_pre_omega
  rfl
theorem mustS_R {d : D} (h : wl d = true) (hs : isS 10 d = true) : Ret (F_must_be_saying_v2 [d]) (.fz .none) := by
  refine Ret.go ?_
  unfold B_must_be_saying_v2
  repeat' decreasing_trivial_pre_omega
  refine wF_ret (isay h) ?_
  rw [hs]
  repeat' decreasing_trivial_pre_omega
  rfl
theorem mustS_thr {d : D} (h : wl d = true) (hs : isS 10 d = false) : Thr (F_must_be_saying_v2 [d]) "BadSaying" [("value", d)] := by
  refine Thr.go ?_
  unfold B_must_be_saying_v2
  repeat' decreasing_trivial_pre_omega
  refine wF_ret (isay h) ?_
  rw [hs]
  repeat' decreasing_trivial_pre_omega
  first | rfl | exact ⟨rfl, rfl⟩
theorem sy_is : ∀ (s : Sy) (k : Nat), s.ok2 → s.deep ≤ k → isS k s.d = true
  | .has p, k, h, hk => by
    obtain ⟨k, rfl⟩ : ∃ m, k = m + 1 := ⟨k - 1, by simp only [Sy.deep] at hk; omega⟩
    show ((isH _ _ && txB _) || _) = true
    rw [isH_tx, txB_tx, decide_eq_true h.1]; rfl
  | .no s, k, h, hk => by
    simp only [Sy.deep] at hk
    obtain ⟨k, rfl⟩ : ∃ m, k = m + 1 := ⟨k - 1, by omega⟩
    show (_ || (isH _ _ && isS k s.d)) = true
    rw [isH_tx [110, 111, 116], sy_is s k h (by omega)]; simp
  | .an s t, k, h, hk => by
    simp only [Sy.deep] at hk
    obtain ⟨k, rfl⟩ : ∃ m, k = m + 1 := ⟨k - 1, by omega⟩
    show ((isH _ _ || isH _ _) && (isS k s.d && isS k t.d)) = true
    rw [isH_tx, sy_is s k h.1 (by omega), sy_is t k h.2 (by omega)]; rfl
  | .or s t, k, h, hk => by
    simp only [Sy.deep] at hk
    obtain ⟨k, rfl⟩ : ∃ m, k = m + 1 := ⟨k - 1, by omega⟩
    show ((isH _ _ || isH _ _) && (isS k s.d && isS k t.d)) = true
    rw [isH_tx, isH_tx, sy_is s k h.1 (by omega), sy_is t k h.2 (by omega)]; rfl
instance : OfS "hasnotdr" [104, 97, 115, 110, 111, 116, 100, 114] := ⟨by decide +kernel⟩
theorem okN_up {n m : Nat} {d : D} (h : okN n d) (hn : n ≤ m) : okN m d := ⟨h.1, Nat.le_trans h.2 hn⟩
theorem sy_okN : ∀ (s : Sy), okN s.deep s.d
  | .has p => okN_tup (n := 0) fun d hd => by
    simp only [List.mem_cons, List.not_mem_nil, or_false] at hd
    rcases hd with rfl | rfl <;> exact okN_str
  | .no s => okN_tup (n := s.deep) fun d hd => by
    simp only [List.mem_cons, List.not_mem_nil, or_false] at hd
    rcases hd with rfl | rfl
    · exact okN_str
    · exact sy_okN s
  | .an s t => okN_tup (n := max s.deep t.deep) fun d hd => by
    simp only [List.mem_cons, List.not_mem_nil, or_false] at hd
    rcases hd with rfl | rfl | rfl
    · exact okN_str
    · exact okN_up (sy_okN s) (by omega)
    · exact okN_up (sy_okN t) (by omega)
  | .or s t => okN_tup (n := max s.deep t.deep) fun d hd => by
    simp only [List.mem_cons, List.not_mem_nil, or_false] at hd
    rcases hd with rfl | rfl | rfl
    · exact okN_str
    · exact okN_up (sy_okN s) (by omega)
    · exact okN_up (sy_okN t) (by omega)
theorem eqv_t2 {a b : D} (ha : PyData.eqv a a = true) (hb : PyData.eqv b b = true) : PyData.eqv (.tuple [a, b]) (.tuple [a, b]) = true := by simp [PyData.eqv, PyData.eqvAll, ha, hb]
theorem eqv_t3 {a b c : D} (ha : PyData.eqv a a = true) (hb : PyData.eqv b b = true) (hc : PyData.eqv c c = true) : PyData.eqv (.tuple [a, b, c]) (.tuple [a, b, c]) = true := by simp [PyData.eqv, PyData.eqvAll, ha, hb, hc]
theorem eqv_l1 {a : D} (ha : PyData.eqv a a = true) : PyData.eqv (.list [a]) (.list [a]) = true := by simp [PyData.eqv, PyData.eqvAll, ha]
theorem eqv_l2 {a : D} (ha : PyData.eqv a a = true) : PyData.eqv (.list [a, a]) (.list [a, a]) = true := by simp [PyData.eqv, PyData.eqvAll, ha]
theorem eqv_refl_str {x : Str} : PyData.eqv (.str x) (.str x) = true := by rw [eqv_str]; simp
theorem sy_eqv : ∀ (s : Sy), PyData.eqv s.d s.d = true
  | .has p => eqv_t2 eqv_refl_str eqv_refl_str
  | .no s => eqv_t2 eqv_refl_str (sy_eqv s)
  | .an s t => eqv_t3 eqv_refl_str (sy_eqv s) (sy_eqv t)
  | .or s t => eqv_t3 eqv_refl_str (sy_eqv s) (sy_eqv t)
theorem ok_l1 {n : Nat} {d : D} (h : okN n d) (hn : n ≤ 50) : okD (.list [d]) = true := (okN_list (n := n) fun e he => by rw [List.mem_singleton.mp he]; exact h).ok (by omega)
theorem ok_l2 {n : Nat} {d : D} (h : okN n d) (hn : n ≤ 50) : okD (.list [d, d]) = true := (okN_list (n := n) fun e he => by
  simp only [List.mem_cons, List.not_mem_nil, or_false, or_self] at he
  rw [he]; exact h).ok (by omega)
section
variable {s : Sy} {d : D}
theorem format_R (h : s.ok2) (hd : s.deep ≤ 10) : Ret (F_format_saying [s.d]) (.fz (.str (tx (sg s)))) := by
  have h1 := mustS_R (sy_wl s h) (sy_is s 10 h hd)
  have h2 : Ret (F_signs_of [s.d]) _ := signs_R 12 s h (by omega) (by decide)
  refine Ret.go ?_
  unfold B_format_saying
  generalize F_must_be_saying_v2 = F at h1 ⊢
  generalize F_signs_of = G at h2 ⊢
  repeat' decreasing_trivial_pre_omega
  refine wF_ret h1 ?_
  repeat' decreasing_trivial_pre_omega
  refine wF_ret h2 ?_
  repeat' decreasing_trivial_pre_omega
  all_goals rfl
theorem format_thr (h : wl d = true) (hs : isS 10 d = false) : Thr (F_format_saying [d]) "BadSaying" [("value", d)] := by
  have h1 := mustS_thr h hs
  refine Thr.go ?_
  unfold B_format_saying
  generalize F_must_be_saying_v2 = F at h1 ⊢
  repeat' decreasing_trivial_pre_omega
  exact wF_thr h1 ⟨rfl, rfl⟩
theorem read_R (h : s.ok2) (hd : s.deep ≤ 10) : Ret (F_read_saying [.str (tx (sg s))]) (.fz s.d) := by
  have h1 : Ret (F_saying_of [.str (tx (sg s)), .int 10]) _ := saying_R 12 s 10 h hd (by decide) (by decide)
  have h2 := is_saying_R (Sy.ok2_ok h) hd
  refine Ret.go ?_
  unfold B_read_saying
  generalize F_saying_of = F at h1 ⊢
  generalize F_is_saying = G at h2 ⊢
  repeat' decreasing_trivial_pre_omega
  refine wF_ret h1 ?_
  repeat' decreasing_trivial_pre_omega
  refine wB_f (sy_notN s) ?_
  repeat' decreasing_trivial_pre_omega
  refine wF_ret h2 ?_
  repeat' decreasing_trivial_pre_omega
  all_goals rfl
end
abbrev HS1 : List HM := [("BadSaying", "value", [])]
theorem tell1 {d : D} : tellR HS1 "BadSaying" [("value", d)] = some [d] := rfl
abbrev St (PT : Addr) (i : Int) (x3 x4 x5 x6 x7 x8 : Option SV) (t : Int × Int) : S := ⟨[some (.scr [PT]), some (.fz (.int i)), some .tape, x3, x4, x5, x6, x7, x8], some t⟩
structure OkS (s : Sy) : Prop where
  ok : s.ok2
  dp : s.deep ≤ 5
def Th (d : D) : Prop := wl d = true ∧ Lt 15 4500 d
theorem Th.sh {d : D} (h : Th d) : showA (.list [d]) = true := (lt_list (n := 15) (m := 4500) (k := 1) (fun e he => by rw [List.mem_singleton.mp he]; exact h.2) (by simp)).show (by decide) (by decide)
theorem th_c {d : D} (h : (S5.ltOk 15 4500 d && (wl d && !isS 10 d)) = true) : Th d ∧ isS 10 d = false := by
  simp only [Bool.and_eq_true, Bool.not_eq_true'] at h
  exact ⟨⟨h.2.1, S5.lt_ok h.1⟩, h.2.2⟩
section
variable {PT : Addr} {i : Int} {x3 x4 x5 x6 x7 x8 : Option SV} {t : Int × Int} {s : Sy} {d : D}
theorem s1 (ok : TapeOk t = true) : wS (law_b3_1 PT (St PT i x3 x4 x5 x6 x7 x8 t)) (Pn fun r => ∃ s t', TapeOk t' = true ∧ OkS s ∧ r = St PT i x3 (some (.fz s.d)) x5 x6 x7 x8 t') := by
  unfold law_b3_1
  repeat' decreasing_trivial_pre_omega
  refine wFT_use (one_of_sp ok (by simp) (by simp)) (fun v t1 ⟨o1, d, hd, e⟩ => ?_)
  subst e
  have hd : ∃ ls : List Nat, d = .str (tx ls) ∧ ls ≠ [] ∧ ls.length ≤ 1000 ∧ Tx ls := by
    simp only [List.mem_cons, List.not_mem_nil, or_false] at hd
    rcases hd with h | h | h
    · exact ⟨_, h, by decide, by decide, by decide⟩
    · exact ⟨_, h, by decide, by decide, by decide⟩
    · exact ⟨_, h, by decide, by decide, by decide⟩
  obtain ⟨ls, rfl, a1, a2, a3⟩ := hd
  repeat' decreasing_trivial_pre_omega
  refine wFT_use (pick_sp o1 (by decide) (by decide)) (fun v t2 ⟨o2, f, e, hf⟩ => ?_)
  subst e
  repeat' decreasing_trivial_pre_omega
  rw [show (1 : Int) + (f : Nat) = ((1 + f : Nat) : Int) by omega]
  refine wFT_use (drawn2_sp a1 a2 a3 12 (1 + f) t2 o2 (by omega) (by omega)) (fun v t3 ⟨o3, s, e, h1, h2⟩ => ?_)
  subst e
  repeat' decreasing_trivial_pre_omega
  exact ⟨s, t3, o3, ⟨h1, by omega⟩, rfl⟩
theorem s2 (hs : OkS s) : wS (law_b3_2 PT (St PT i x3 (some (.fz s.d)) x5 x6 x7 x8 t)) (Pn fun r => r = St PT i x3 (some (.fz s.d)) (some (.fz (.str (tx (sg s))))) x6 x7 x8 t) := by
  have h1 : Ret (F__law_signs [s.d]) _ := lsigns_R 12 s hs.ok (by have := hs.dp; omega) (by decide)
  unfold law_b3_2
  generalize F__law_signs = F at h1 ⊢
  repeat' decreasing_trivial_pre_omega
  refine wF_ret h1 ?_
  repeat' decreasing_trivial_pre_omega
  rfl
theorem s3 (hs : OkS s) : wS (law_b3_3 PT (St PT i x3 (some (.fz s.d)) (some (.fz (.str (tx (sg s))))) x6 x7 x8 t)) (Pn fun r => r = St PT i x3 (some (.fz s.d)) (some (.fz (.str (tx (sg s))))) x6 x7 x8 t) := by
  have h1 := format_R hs.ok (by have := hs.dp; omega)
  have h2 := read_R hs.ok (by have := hs.dp; omega)
  have dp := hs.dp
  unfold law_b3_3
  generalize F_format_saying = F at h1 ⊢
  generalize F_read_saying = G at h2 ⊢
  repeat' decreasing_trivial_pre_omega
  refine wF_ret h1 ?_
  repeat' decreasing_trivial_pre_omega
  refine wF_ret h1 ?_
  repeat' decreasing_trivial_pre_omega
  refine wB_t (eqv_l2 eqv_refl_str) ?_
  repeat' decreasing_trivial_pre_omega
  refine wF_ret h2 ?_
  repeat' decreasing_trivial_pre_omega
  refine wF_ret h2 ?_
  repeat' decreasing_trivial_pre_omega
  refine ⟨⟨ok_l2 (sy_okN s) (by omega), ok_l2 (sy_okN s) (by omega)⟩, ?_⟩
  repeat' decreasing_trivial_pre_omega
  refine wB_t (eqv_l2 (sy_eqv s)) ?_
  repeat' decreasing_trivial_pre_omega
  rfl
theorem s4 (ok : TapeOk t = true) (hs : OkS s) : wS (law_b3_4 PT (St PT i x3 (some (.fz s.d)) x5 x6 x7 x8 t)) (Pn fun r => ∃ d t', TapeOk t' = true ∧ (Th d ∧ isS 10 d = false) ∧ r = St PT i x3 (some (.fz s.d)) x5 (some (.fz d)) x7 x8 t') := by
  have l5 := S5.sy_lt5 hs.ok hs.dp
  have hw := sy_wl s hs.ok
  unfold law_b3_4
  repeat' decreasing_trivial_pre_omega
  refine wFT_use (one_of_sp ok (by simp) (by simp)) (fun v t1 ⟨o1, d, hd, e⟩ => ?_)
  subst e
  repeat' decreasing_trivial_pre_omega
  refine ⟨d, t1, o1, ?_, rfl⟩
  simp only [List.mem_cons, List.not_mem_nil, or_false] at hd
  rcases hd with rfl | rfl | rfl | rfl | rfl | rfl | rfl | rfl | rfl
  · exact th_c (by decide +kernel)
  · exact th_c (by decide +kernel)
  · exact th_c (by decide +kernel)
  · exact th_c (by decide +kernel)
  · exact th_c (by decide +kernel)
  · exact th_c (by decide +kernel)
  · exact th_c (by decide +kernel)
  · refine ⟨⟨wl_tup (by decide +kernel) (by decide +kernel) fun d hd => by rw [List.mem_singleton.mp hd]; exact hw, (lt_t2 ((lt_tx (q := [97, 110, 100]) (by decide)).up (Nat.zero_le 5) (Nat.le_refl _)) l5).up (by decide) (by decide)⟩, ?_⟩
    show ((isH _ _ && _) || (isH _ _ && _)) = false
    rw [isH_tx, isH_tx]; rfl
  · refine ⟨⟨wl_tup (by decide +kernel) (by decide +kernel) fun d hd => by
      simp only [List.mem_cons, List.not_mem_nil, or_false, or_self] at hd
      rw [hd]; exact hw, (lt_t3 ((lt_tx (q := [110, 111, 114]) (by decide)).up (Nat.zero_le 5) (Nat.le_refl _)) l5 l5).up (by decide) (by decide)⟩, ?_⟩
    show ((isH _ _ || isH _ _) && _) = false
    rw [isH_tx, isH_tx]; rfl
theorem s5 (hd : Th d) (hn : isS 10 d = false) : wS (law_b3_5 PT (St PT i x3 x4 x5 (some (.fz d)) x7 x8 t)) (Pn fun r => r = St PT i x3 x4 x5 (some (.fz d)) x7 x8 t) := by
  have h1 := format_thr hd.1 hn
  unfold law_b3_5 law_f1
  generalize F_format_saying = F at h1 ⊢
  repeat' decreasing_trivial_pre_omega
  refine wF_thr h1 (wTell_r tell1 ?_)
  repeat' decreasing_trivial_pre_omega
  refine ⟨hd.sh, ?_⟩
  repeat' decreasing_trivial_pre_omega
  refine ⟨hd.sh, ?_⟩
  repeat' decreasing_trivial_pre_omega
  refine wB_t eqv_refl_str ?_
  repeat' decreasing_trivial_pre_omega
  rfl
theorem s6 (ok : TapeOk t = true) (hs : OkS s) : wS (law_b3_6 PT (St PT i x3 (some (.fz s.d)) x5 x6 x7 x8 t)) (Pn fun r => ∃ d t', TapeOk t' = true ∧ Th d ∧ r = St PT i x3 (some (.fz s.d)) x5 (some (.fz d)) x7 x8 t') := by
  unfold law_b3_6
  repeat' decreasing_trivial_pre_omega
  refine wFT_use (S5.bentS_sp 5 s t hs.ok hs.dp (by decide) ok 12 (by decide)) (fun v t1 ⟨o1, d, e, w1, l1⟩ => ?_)
  subst e
  repeat' decreasing_trivial_pre_omega
  exact ⟨d, t1, o1, ⟨w1, l1⟩, rfl⟩
theorem s7 (hd : Th d) : wS (law_b3_7 PT (St PT i x3 x4 x5 (some (.fz d)) x7 x8 t)) (Pn fun r => r = St PT i x3 x4 x5 (some (.fz d)) x7 x8 t) := by
  have h0 : Ret (F__law_is_saying [d, .int 10]) (.fz (.bool (isS 10 d))) := lis_R (M := 4500) (by decide) 10 d hd.1 (hd.2.up (by decide) (Nat.le_refl _)) 12 (by decide)
  unfold law_b3_7 law_f2
  generalize F__law_is_saying = G at h0 ⊢
  repeat' decreasing_trivial_pre_omega
  refine wF_ret h0 ?_
  cases hn : isS 10 d with
  | true =>
    repeat' decreasing_trivial_pre_omega
    rfl
  | false =>
    have h1 := format_thr hd.1 hn
    generalize F_format_saying = F at h1 ⊢
    repeat' decreasing_trivial_pre_omega
    refine wF_thr h1 (wTell_r tell1 ?_)
    repeat' decreasing_trivial_pre_omega
    refine ⟨hd.sh, ?_⟩
    repeat' decreasing_trivial_pre_omega
    refine ⟨hd.sh, ?_⟩
    repeat' decreasing_trivial_pre_omega
    refine wB_t eqv_refl_str ?_
    repeat' decreasing_trivial_pre_omega
    rfl
theorem s_all (ok : TapeOk t = true) : wS (law_b3 PT (St PT i x3 x4 x5 x6 x7 x8 t)) (Pn fun r => ∃ y4 y5 y6 t', TapeOk t' = true ∧ r = St PT i x3 y4 y5 y6 x7 x8 t') := by
  rw [law_b3_eq]
  refine seqP (s1 ok) fun r h => ?_
  obtain ⟨s, t1, o1, hs, rfl⟩ := h
  refine seqP (s2 hs) fun r h => ?_
  subst h
  refine seqP (s3 hs) fun r h => ?_
  subst h
  refine seqP (s4 o1 hs) fun r h => ?_
  obtain ⟨d, t2, o2, ⟨hd, hn⟩, rfl⟩ := h
  refine seqP (s5 hd hn) fun r h => ?_
  subst h
  refine seqP (s6 o2 hs) fun r h => ?_
  obtain ⟨d2, t3, o3, hd2, rfl⟩ := h
  refine cutP (s7 hd2) fun r h => ?_
  subst h
  exact ⟨_, _, _, t3, o3, rfl⟩
end
def gq : Nat → Sy
  | 0 => .has []
  | n + 1 => .no (gq n)
theorem gq_ok : ∀ n, (gq n).ok2
  | 0 => ⟨fun _ h => (nomatch h), by decide⟩
  | n + 1 => gq_ok n
theorem gq_dp : ∀ n, (gq n).deep = n + 1
  | 0 => rfl
  | n + 1 => by show (gq n).deep + 1 = _; rw [gq_dp n]
abbrev E0 (PT : Addr) (x3 x7 x8 : Option SV) : S := ⟨[some (.scr [PT]), none, none, x3, none, none, none, x7, x8], none⟩
section
variable {PT : Addr} {x3 x7 x8 : Option SV}
theorem g1 : wS (G_law_1 PT (E0 PT none none none)) (Pn fun r => r = E0 PT none (some (.fz (gq 0).d)) none) := by
  unfold G_law_1
  repeat' decreasing_trivial_pre_omega
  rfl
structure HidS (p : Prop) : Prop where
  out : p
theorem for9 {p : Po} {B : S → RS} {r : S} (Q : Nat → S → Prop) (h0 : Q 0 r) (st : ∀ j d r, j < 9 → Q j r → wG (gNm 3 d r) fun r => wS (B r) (p.lp (Q (j + 1)))) (he : ∀ r, Q 9 r → p.nx r) : wS (forF (gNm 3) B (rngL 0 9) r) p := by
  refine wFor_inv Q h0 (fun j d r hd hq => st j d r ?_ hq) (fun r h => he r ?_)
  · have := (List.getElem?_eq_some_iff.mp hd).1
    simpa [rngL] using this
  · simpa [rngL] using h
theorem g2 : HidS (wS (G_law_2 PT (E0 PT none (some (.fz (gq 0).d)) none)) (Pn fun r => ∃ x3, r = E0 PT x3 (some (.fz (gq 9).d)) none)) := by
  refine ⟨?_⟩
  have step : ∀ (g : Sy) (x3 : Option SV), wS (law_b4 PT (E0 PT x3 (some (.fz g.d)) none)) (Pn fun r => r = E0 PT x3 (some (.fz (Sy.no g).d)) none) := fun g x3 => by
    unfold law_b4
    rw [show (Sy.no g).d = .tuple [.str (tx [110, 111, 116]), g.d] from rfl]
    generalize g.d = d
    repeat' decreasing_trivial_pre_omega
    rfl
  have hs : ∀ j, gq (j + 1) = Sy.no (gq j) := fun _ => rfl
  generalize gq = G at hs ⊢
  unfold G_law_2
  generalize law_b4 PT = B at step ⊢
  repeat' decreasing_trivial_pre_omega
  refine for9 (fun j r => ∃ x3, r = E0 PT x3 (some (.fz (G j).d)) none) ⟨none, rfl⟩ ?_ ?_
  · rintro j d r hj ⟨x3, rfl⟩
    have st := fun x3 => step (G j) x3
    rw [← hs j] at st
    generalize G (j + 1) = g' at st ⊢
    generalize G j = g at st ⊢
    repeat' decreasing_trivial_pre_omega
    refine cutP (st _) fun r h => ?_
    exact ⟨_, h⟩
  · rintro r ⟨x3, rfl⟩
    exact ⟨x3, rfl⟩
theorem g3 : wS (G_law_3 PT (E0 PT x3 (some (.fz (gq 9).d)) none)) (Pn fun r => r = E0 PT x3 (some (.fz (gq 9).d)) (some (.fz (gq 10).d))) := by
  rw [show (gq 10).d = .tuple [.str (tx [110, 111, 116]), (gq 9).d] from rfl]
  unfold G_law_3
  generalize gq 9 = g
  repeat' decreasing_trivial_pre_omega
  rfl
theorem g4 : wS (G_law_4 PT (E0 PT x3 (some (.fz (gq 9).d)) (some (.fz (gq 10).d)))) (Pn fun r => r = E0 PT x3 (some (.fz (gq 9).d)) (some (.fz (gq 10).d))) := by
  have h1 := format_thr (sy_wl (gq 10) (gq_ok 10)) (by decide +kernel)
  have h2 : (gq 10).deep ≤ 50 := by rw [gq_dp]; decide
  unfold G_law_4 law_f5
  generalize gq 10 = g at h1 h2 ⊢
  generalize gq 9 = g2
  generalize F_format_saying = F at h1 ⊢
  repeat' decreasing_trivial_pre_omega
  refine wF_thr h1 (wTell_r tell1 ?_)
  repeat' decreasing_trivial_pre_omega
  refine ⟨⟨ok_l1 (sy_okN g) h2, ok_l1 (sy_okN g) h2⟩, ?_⟩
  repeat' decreasing_trivial_pre_omega
  refine wB_t (eqv_l1 (sy_eqv g)) ?_
  repeat' decreasing_trivial_pre_omega
  rfl
theorem g5 : wS (G_law_5 PT (E0 PT x3 (some (.fz (gq 9).d)) (some (.fz (gq 10).d)))) ⟨fun _ => False, fun v _ => v = .fz (.bool true), fun _ => False, fun _ => False, XN⟩ := by
  have h0 := format_R (s := gq 9) (gq_ok 9) (by rw [gq_dp]; decide)
  have h1 := read_R (s := gq 9) (gq_ok 9) (by rw [gq_dp]; decide)
  have h2 : Ret (F_format_saying [.tuple [.str (tx [104, 97, 115]), .str (tx [])]]) _ := format_R (s := .has []) (gq_ok 0) (by decide)
  have h3 : (gq 9).deep ≤ 50 := by rw [gq_dp]; decide
  unfold G_law_5
  generalize gq 10 = g2
  generalize gq 9 = g at h0 h1 h3 ⊢
  generalize F_format_saying = F at h0 h2 ⊢
  generalize F_read_saying = G at h1 ⊢
  repeat' decreasing_trivial_pre_omega
  refine wF_ret h0 ?_
  repeat' decreasing_trivial_pre_omega
  refine wF_ret h1 ?_
  repeat' decreasing_trivial_pre_omega
  refine ⟨⟨(sy_okN g).ok (by omega), (sy_okN g).ok (by omega)⟩, ?_⟩
  repeat' decreasing_trivial_pre_omega
  refine wB_t (sy_eqv g) ?_
  repeat' decreasing_trivial_pre_omega
  refine wF_ret h2 ?_
  repeat' decreasing_trivial_pre_omega
  all_goals rfl
end
theorem lawOk2_of {n : Nat} {T : List Addr} {B : S → RS} {G : S → RS}
    (turn : ∀ (i : Int) (t : Int × Int), TapeOk t = true → wS (B (lawS n T i t)) (Pn fun r => r.sl[0]? = some (some (.scr T)) ∧ r.sl.length = n + 3))
    (last : wS (G (lawE n T)) ⟨fun _ => False, fun v _ => v = .fz (.bool true), fun _ => False, fun _ => False, XN⟩) : LawOk2 n T B G where
  turn := fun i t _ _ ok => by
    have key := turn i t ok
    cases e : B (lawS n T i t) with
    | nx r => rw [e] at key; exact ⟨r, rfl, key⟩
    | bk r => rw [e] at key; exact key.elim
    | ct r => rw [e] at key; exact key.elim
    | rt v r => rw [e] at key; exact key.elim
    | exc c f r => rw [e] at key; exact key.elim
    | bad => rw [e] at key; exact key.elim
  last := by
    cases e : G (lawE n T) with
    | rt v r => rw [e] at last; have last : v = _ := last; subst last; exact ⟨r, rfl⟩
    | nx r => rw [e] at last; exact last.elim
    | bk r => rw [e] at last; exact last.elim
    | ct r => rw [e] at last; exact last.elim
    | exc c f r => rw [e] at last; exact last.elim
    | bad => rw [e] at last; exact last.elim
theorem law_ok (PT : Addr) : LawOk2 6 [PT] (B_law PT) (G_law PT) := by
  refine lawOk2_of (fun i t ok => ?_) ?_
  · show wS (B_law PT (St PT i none none none none none none t)) _
    unfold B_law
    have key := fun (i : Int) (x3 x4 x5 x6 x7 x8 : Option SV) (t : Int × Int) (o : TapeOk t = true) => @s_all PT i x3 x4 x5 x6 x7 x8 t o
    generalize law_b3 PT = BB at key ⊢
    repeat' decreasing_trivial_pre_omega
    refine wFor_inv (fun j r => ∃ x3 x4 x5 x6 t', TapeOk t' = true ∧ r = St PT i x3 x4 x5 x6 none none t') ⟨none, none, none, none, t, ok, rfl⟩ ?_ ?_
    · rintro j d r hd ⟨x3, x4, x5, x6, t1, o1, rfl⟩
      repeat' decreasing_trivial_pre_omega
      refine cutP (key _ _ _ _ _ _ _ _ o1) fun r h => ?_
      obtain ⟨y4, y5, y6, t2, o2, rfl⟩ := h
      exact ⟨_, _, _, _, t2, o2, rfl⟩
    · rintro r ⟨x3, x4, x5, x6, t1, o1, rfl⟩
      exact ⟨rfl, rfl⟩
  · show wS (G_law PT (E0 PT none none none)) _
    rw [G_law_eq]
    refine seqP g1 fun r h => ?_
    subst h
    refine seqP g2.out fun r h => ?_
    obtain ⟨x3, rfl⟩ := h
    refine seqP g3 fun r h => ?_
    subst h
    refine seqP g4 fun r h => ?_
    subst h
    exact g5
end K55
open PySem PySem.W PyProof.Rows
set_option maxHeartbeats 0 in
theorem PySem.Challenge.cw_scatteredpieces_k55_sayings_written_holds : PySem.Challenge.rw_scatteredpieces_k55_sayings_written.Holds := by
  w_on; o_law; k_head; (case hw => w_witness2)
  k_fill
  refine QL.walk_GT (l := PySem.Challenge.rw_scatteredpieces_k55_sayings_written) (n := 63) (k := 20) (x := "script") (sp := fun w ts => QL.spLaw _ ts) rfl (by decide) rfl ⟨rfl, by decide, by decide⟩ (fun w h Y => PySem.W.km_in_of Y) ?F (fun _ _ _ a ns hl hb hO hS => QL.spLaw_ofT hl hb hO hS)
  case F =>
    intro w mg fa h Y KX G hmg
    refine' K55.all_mk (l := PySem.Challenge.rw_scatteredpieces_k55_sayings_written) KX G hmg K55.law_ok (PySem.W.km_tabs_of Y) ?x0_BadSaying ?x1_BadSaying ?x2_BadSaying ?x3_BadSaying ?x4_BadSaying ?x5_BadSaying ?x6_BadSaying ?x7_BadSaying ?x8_BadSaying ?x9_BadSaying ?y0_BadSaying ?y1_BadSaying ?y2_BadSaying ?y3_BadSaying ?y4_BadSaying ?y5_BadSaying ?y6_BadSaying ?y7_BadSaying ?y8_BadSaying ?y9_BadSaying ?w0_BadSaying ?w1_BadSaying ?x0_BadSigns ?x1_BadSigns ?x2_BadSigns ?x3_BadSigns ?x4_BadSigns ?x5_BadSigns ?x6_BadSigns ?x7_BadSigns ?x8_BadSigns ?x9_BadSigns ?y0_BadSigns ?y1_BadSigns ?y2_BadSigns ?y3_BadSigns ?y4_BadSigns ?y5_BadSigns ?y6_BadSigns ?y7_BadSigns ?y8_BadSigns ?y9_BadSigns ?w0_BadSigns ?w1_BadSigns ?tpA ?suA ?toA ?s_BadSaying_BadSaying ?ha0_a ?ha0_l ?ha0_c ?ha0_k ?a0 ?l0 ?c0 ?k0 ?a1 ?l1 ?c1 ?k1 ?a2 ?l2 ?c2 ?k2 ?a3 ?l3 ?c3 ?k3 ?a4 ?l4 ?c4 ?k4 ?a5 ?l5 ?c5 ?k5 ?a6 ?l6 ?c6 ?k6 ?a7 ?l7 ?c7 ?k7 ?a8 ?l8 ?c8 ?k8 ?a9 ?l9 ?c9 ?k9 ?a10 ?l10 ?c10 ?k10 ?a11 ?l11 ?c11 ?k11 ?a12 ?l12 ?c12 ?k12 ?a13 ?l13 ?c13 ?k13 ?a14 ?l14 ?c14 ?k14 ?a15 ?l15 ?c15 ?k15 ?a16 ?l16 ?c16 ?k16 ?a17 ?l17 ?c17 ?k17 ?a18 ?l18 ?c18 ?k18 ?a19 ?l19 ?c19 ?k19 ?z0 ?z1 ?z2 ?z3 ?z4 ?z5 ?z6 ?z7 ?z8 ?z9 ?v0 ?v1 ?hcL ?lco ?lt11 ?lhd ?lnk ?lin ?lamQ
    (case x0_BadSaying => k_is); (case x1_BadSaying => k_is); (case x2_BadSaying => rfl); (case x3_BadSaying => k_is); (case x4_BadSaying => k_is); (case x5_BadSaying => k_is); (case x6_BadSaying => k_is); (case x7_BadSaying => k_is); (case x8_BadSaying => k_is); (case x9_BadSaying => k_is); (case y0_BadSaying => k_is); (case y1_BadSaying => k_is); (case y2_BadSaying => k_is); (case y3_BadSaying => rfl); (case y4_BadSaying => rfl); (case y5_BadSaying => k_is); (case y6_BadSaying => k_is); (case y7_BadSaying => k_is); (case y8_BadSaying => first | k_is | ks_is); (case y9_BadSaying => k_is); (case w0_BadSaying => k_is); (case w1_BadSaying => k_is); (case x0_BadSigns => k_is); (case x1_BadSigns => k_is); (case x2_BadSigns => rfl); (case x3_BadSigns => k_is); (case x4_BadSigns => k_is); (case x5_BadSigns => k_is); (case x6_BadSigns => k_is); (case x7_BadSigns => k_is); (case x8_BadSigns => k_is); (case x9_BadSigns => k_is); (case y0_BadSigns => k_is); (case y1_BadSigns => k_is); (case y2_BadSigns => k_is); (case y3_BadSigns => rfl); (case y4_BadSigns => rfl); (case y5_BadSigns => k_is); (case y6_BadSigns => k_is); (case y7_BadSigns => k_is); (case y8_BadSigns => first | k_is | ks_is); (case y9_BadSigns => k_is); (case w0_BadSigns => k_is); (case w1_BadSigns => k_is); (case tpA => k_is); (case suA => k_is); (case toA => rfl); (case s_BadSaying_BadSaying => k_is); (case ha0_a => k_is); (case ha0_l => k_is); (case ha0_c => k_is); (case ha0_k => k_is); (case a0 => k_is); (case l0 => k_is); (case c0 => k_is); (case k0 => k_is); (case a1 => k_is); (case l1 => k_is); (case c1 => k_is); (case k1 => k_is); (case a2 => k_is); (case l2 => k_is); (case c2 => k_is); (case k2 => k_is); (case a3 => k_is); (case l3 => k_is); (case c3 => k_is); (case k3 => k_is); (case a4 => k_is); (case l4 => k_is); (case c4 => k_is); (case k4 => k_is); (case a5 => k_is); (case l5 => k_is); (case c5 => k_is); (case k5 => k_is); (case a6 => k_is); (case l6 => k_is); (case c6 => k_is); (case k6 => k_is); (case a7 => k_is); (case l7 => k_is); (case c7 => k_is); (case k7 => k_is); (case a8 => k_is); (case l8 => k_is); (case c8 => k_is); (case k8 => k_is); (case a9 => k_is); (case l9 => k_is); (case c9 => k_is); (case k9 => k_is); (case a10 => k_is); (case l10 => k_is); (case c10 => k_is); (case k10 => k_is); (case a11 => k_is); (case l11 => k_is); (case c11 => k_is); (case k11 => k_is); (case a12 => k_is); (case l12 => k_is); (case c12 => k_is); (case k12 => k_is); (case a13 => k_is); (case l13 => k_is); (case c13 => k_is); (case k13 => k_is); (case a14 => k_is); (case l14 => k_is); (case c14 => k_is); (case k14 => k_is); (case a15 => k_is); (case l15 => k_is); (case c15 => k_is); (case k15 => k_is); (case a16 => k_is); (case l16 => k_is); (case c16 => k_is); (case k16 => k_is); (case a17 => k_is); (case l17 => k_is); (case c17 => k_is); (case k17 => k_is); (case a18 => k_is); (case l18 => k_is); (case c18 => k_is); (case k18 => k_is); (case a19 => k_is); (case l19 => k_is); (case c19 => k_is); (case k19 => k_is); (case z0 => k_is); (case z1 => k_is); (case z2 => k_is); (case z3 => k_is); (case z4 => k_is); (case z5 => k_is); (case z6 => k_is); (case z7 => k_is); (case z8 => k_is); (case z9 => k_is); (case v0 => k_is); (case v1 => k_is); (case hcL => rfl); (case lco => k_is); (case lt11 => rfl); (case lhd => first | k_is | rfl | decide +kernel); (case lnk => first | k_is | rfl); (case lin => decide); (case lamQ => first | rfl | decide)
