import PyProof.Rows.All
import Wide.All
import OpenK.AllK
import Wide.FinOn
import HandS.ForMost
import HandS.Exc
import HandS.ExcOwn
import HandS.EndBits
import HandS.Lambda
import HandS.Codes
import HandS.IsInst
import HandS.StrMore
import HandS.Wide
import HandS.TupLe
import KE.DataEq
import HandS.TupAny
import PyProof.StrLawsIn
import PyProof.EqKinds
import PyProof.NeKinds
import HandS.Conv
import HandS.Style
import KE.KRevSl
import HandS.Flow
import HandS.WordsExc
import KE.GoesNew
import HandS.Zip
import PyProof.Rows.Range3
import KE.IntBitsLaws
import HandS.TupSets
import HandS.SetTxtIn
import PyProof.StrWalks
import PyProof.Rows.SortShellAny
import KE.KDictZip
import HandS.OwnIter
import HandS.Deep
import PyProof.ReprRoads
import PyProof.CallFns
import PyProof.ListStr
import HandS.More
import HandS.SortInts
import KE.KDictDisplayH
import PyProof.TupleOfStr
import KE.KExcSuper
import HandS.ExcInit
import HandS.ExcSuper
import HandS.Nested
import HandS.TryMany
import HandS.ExcField
import HandS.ExcIs
import KE.KNestM
import HandS.EndTab
import HandS.Dict
import KE.SortData
import HandS.Property
import HandS.Star
import KE.KOpsOwn
import HandS.OwnEq
import PyProof.InstNe
import HandS.TupMul
import KE.KDictPairs
import KE.KDictKeyed
import KE.KUnpack
import PyProof.StrLaws
import PySem.Challenge.RW_scatteredpieces_k57_machines_written
import PyProof.ReprLen
import PyProof.StrLawsChain
import PyProof.StrLawsTight
set_option Elab.async false
set_option linter.all false
set_option maxRecDepth 100000
set_option maxHeartbeats 1000000
namespace QL
/-- the name that every code object of the table at P bears (the lambdas of a law's text lie in one def) -/
def lamName (P : PySem.Addr) : PySem.Str := "law.<locals>.<lambda>"
end QL
namespace QL
open PySem PySem.Spec L2
/-- data of the program: PyData -/
abbrev D := PyData
def kD : Key → D
  | .inl i => .int i
  | .inr x => .str x
/-- the script: known to the object, or of the written part -/
def Scr (K : PySem.W.Frag) (H : Hp) (a : Addr) (xs : List V) : Prop := (∃ o, H a = some (.frz o (.lst xs))) ∨
  ∃ (o : Obj) (its : Array Value) (n : Nat), K.lookup a = some o ∧ o.cls = .type "list" ∧ o.dict = none ∧ o.data = .seq its n ∧ its.size ≤ sizeLine ∧ Vals xs its.toList
theorem Scr.seq {K : PySem.W.Frag} {H : Hp} {a : Addr} {xs : List V} (h : Scr K H a xs) : SqL K H a xs := by
  rcases h with ⟨o, h⟩ | h
  · exact .inl (.inr ⟨o, h⟩)
  · exact .inr h
/-- the table at P, each of its code objects with the table's name -/
def TabL (H : Hp) (P : Addr) : Prop := LamX.TabS H P (lamName P)
def TabsL (T : List Addr) (H : Hp) : Prop := ∀ P ∈ T, TabL H P
theorem TabL.ext {H H' : Hp} {P : Addr} (t : TabL H P) (e : ∀ b o, H b = some o → H' b = some o) : TabL H' P := LamX.TabS.ext t e
/-- the ghosts: where the tape stands, where the script stands, its numbers -/
structure Gh where
  T : Option Addr
  sc : Addr
  ns : List Int
  tb : List Addr
/-- a tuple, just so -/
def TupAt (_ : PySem.W.Frag) (H : Hp) (a : Addr) (vs : List V) : Prop := H a = some (.tup vs)
theorem TupAt.sq {K : PySem.W.Frag} {H : Hp} {a : Addr} {vs : List V} (h : TupAt K H a vs) : SqT K H a vs := .inl (.inl h)
/-- a number that cannot be shown: it marks an object's data -/
def bigI : D := .int (2 ^ 2000)
/-- an own class whose instances are data -/
structure ObC (K : PySem.W.Frag) (c : Str) (C : Addr) : Prop where
  ns : PySem.W.nsIn K mainGlobals c = some (some (.ref C))
  ic : C8.InsC K C
  no : ∀ T ∈ ["str", "int", "bool", "list", "tuple", "dict"], PySem.W.kitOne K (.ref C) (.type T) = some false
variable (K : PySem.W.Frag)
mutual
/-- frozen data: the value v stands for d in H; no list or dict of it is one of O -/
def R (O : List Addr) (H : Hp) : D → V → Prop
  | .none, v => v = .non
  | .bool b, v => v = .bl b
  | .int i, v => v = .int i
  | .str x, v => v = .str x
  | .list ds, v => ∃ a vs, v = .ref a ∧ a ∉ O ∧ H a = some (.lst vs) ∧ Rs O H ds vs
  | .tuple ds, v => ∃ a vs, v = .ref a ∧ TupAt K H a vs ∧ Rs O H ds vs
  | .dict kvs, v => ∃ a, v = .ref a ∧ a ∉ O ∧ ((∃ ws, Rd H a (.dK ws) ∧ RK O H kvs ws) ∨ (∃ ws, Rd H a (.dT ws) ∧ RT O H kvs ws) ∨ (∃ C dx ws, H a = some (.ins C dx ws) ∧ RO' O H C kvs ws))
def Rs (O : List Addr) (H : Hp) : List D → List V → Prop
  | [], vs => vs = []
  | d :: ds, vs => ∃ v ws, vs = v :: ws ∧ R O H d v ∧ Rs O H ds ws
def RK (O : List Addr) (H : Hp) : List (D × D) → List (Key × V) → Prop
  | [], ws => ws = []
  | (k, d) :: r, ws => ∃ c v ws', ws = (c, v) :: ws' ∧ k = kD c ∧ R O H d v ∧ RK O H r ws'
def RT (O : List Addr) (H : Hp) : List (D × D) → List (List Key × V) → Prop
  | [], ws => ws = []
  | (k, d) :: r, ws => ∃ c v ws', ws = (c, v) :: ws' ∧ k = .tuple (c.map kD) ∧ R O H d v ∧ RT O H r ws'
/-- the fields of an object -/
def RF (O : List Addr) (H : Hp) : List (D × D) → List (Str × V) → Prop
  | [], ws => ws = []
  | (k, d) :: r, ws => ∃ x v ws', ws = (x, v) :: ws' ∧ k = .str x ∧ R O H d v ∧ RF O H r ws'
/-- an object of the class at C: marked by a key that no dict has -/
def RO' (O : List Addr) (H : Hp) (C : Addr) : List (D × D) → List (Str × V) → Prop
  | [], _ => False
  | (k, d) :: r, ws => k = .list [bigI] ∧ (∃ c, d = .str c ∧ ObC K c C) ∧ RF O H r ws
end
/-- what a slot may own: a list, a dict -/
def LD : HO → Prop
  | .lst _ => True
  | .dK _ => True
  | .dT _ => True
  | .ins _ _ _ => True
  | _ => False
def NoFrz : HO → Prop
  | .frz _ _ => False
  | .tbl _ => False
  | _ => True
/-- no dict: a dict may be locked while it is walked -/
def Fixd : HO → Prop
  | .tbl _ => False
  | .dK _ => False
  | .dT _ => False
  | .frz _ (.dK _) => False
  | .frz _ (.dT _) => False
  | _ => True
def Own (O : List Addr) (H : Hp) : Prop := ∀ a ∈ O, ∃ o, H a = some o ∧ LD o
def Stab (O : List Addr) (H : Hp) (O' : List Addr) (H' : Hp) : Prop :=
  ∀ a, a ∉ O → H a ≠ none → a ∉ O' ∧ (∀ u, NoFrz u → Rd H a u → Rd H' a u) ∧ ∀ u, Fixd u → H a = some u → H' a = some u
theorem Rd.ne {H : Hp} {a : Addr} {u : HO} (h : Rd H a u) : H a ≠ none := by
  rcases h with h | ⟨o, h⟩ <;> rw [h] <;> simp
theorem Own.ntup {O : List Addr} {H : Hp} (ow : Own O H) {a : Addr} {xs : List V} (h : Rd H a (.tup xs)) : a ∉ O := fun ha => by
  obtain ⟨o, ho, l⟩ := ow a ha
  rcases h with h | ⟨q, h⟩ <;> rw [h] at ho <;> cases ho <;> exact l
section
variable {K : PySem.W.Frag} {O O' : List Addr} {H H' : Hp}
mutual
theorem R.stab (ow : Own O H) (st : Stab O H O' H') : ∀ (d : D) (v : V), R K O H d v → R K O' H' d v
  | .none, v, h => by simpa [R] using h
  | .bool b, v, h => by simpa [R] using h
  | .int i, v, h => by simpa [R] using h
  | .str x, v, h => by simpa [R] using h
  | .list ds, v, h => by
    simp only [R] at h ⊢
    obtain ⟨a, vs, e, n, r, h2⟩ := h
    obtain ⟨n', _, k⟩ := st a n (by rw [r]; simp)
    exact ⟨a, vs, e, n', k _ trivial r, Rs.stab ow st ds vs h2⟩
  | .tuple ds, v, h => by
    simp only [R] at h ⊢
    obtain ⟨a, vs, e, h1, h2⟩ := h
    refine ⟨a, vs, e, ?_, Rs.stab ow st ds vs h2⟩
    obtain ⟨n', _, k⟩ := st a (ow.ntup (.inl h1)) (by rw [show H a = _ from h1]; simp)
    exact k _ trivial h1
  | .dict kvs, v, h => by
    simp only [R] at h ⊢
    obtain ⟨a, e, n, h⟩ := h
    rcases h with ⟨ws, r, h⟩ | ⟨ws, r, h⟩ | ⟨C, dx, ws, r, h⟩
    · obtain ⟨n', k, _⟩ := st a n (Rd.ne r)
      exact ⟨a, e, n', .inl ⟨ws, k _ trivial r, RK.stab ow st kvs ws h⟩⟩
    · obtain ⟨n', k, _⟩ := st a n (Rd.ne r)
      exact ⟨a, e, n', .inr (.inl ⟨ws, k _ trivial r, RT.stab ow st kvs ws h⟩)⟩
    · obtain ⟨n', _, k⟩ := st a n (by rw [r]; simp)
      exact ⟨a, e, n', .inr (.inr ⟨C, dx, ws, k _ trivial r, RO'.stab ow st C kvs ws h⟩)⟩
theorem Rs.stab (ow : Own O H) (st : Stab O H O' H') : ∀ (ds : List D) (vs : List V), Rs K O H ds vs → Rs K O' H' ds vs
  | [], vs, h => by simpa [Rs] using h
  | d :: ds, vs, h => by
    simp only [Rs] at h ⊢
    obtain ⟨v, ws, e, h1, h2⟩ := h
    exact ⟨v, ws, e, R.stab ow st d v h1, Rs.stab ow st ds ws h2⟩
theorem RK.stab (ow : Own O H) (st : Stab O H O' H') : ∀ (ds : List (D × D)) (vs : List (Key × V)), RK K O H ds vs → RK K O' H' ds vs
  | [], vs, h => by simpa [RK] using h
  | (k, d) :: ds, vs, h => by
    simp only [RK] at h ⊢
    obtain ⟨c, v, ws, e, h0, h1, h2⟩ := h
    exact ⟨c, v, ws, e, h0, R.stab ow st d v h1, RK.stab ow st ds ws h2⟩
theorem RT.stab (ow : Own O H) (st : Stab O H O' H') : ∀ (ds : List (D × D)) (vs : List (List Key × V)), RT K O H ds vs → RT K O' H' ds vs
  | [], vs, h => by simpa [RT] using h
  | (k, d) :: ds, vs, h => by
    simp only [RT] at h ⊢
    obtain ⟨c, v, ws, e, h0, h1, h2⟩ := h
    exact ⟨c, v, ws, e, h0, R.stab ow st d v h1, RT.stab ow st ds ws h2⟩
theorem RF.stab (ow : Own O H) (st : Stab O H O' H') : ∀ (ds : List (D × D)) (vs : List (Str × V)), RF K O H ds vs → RF K O' H' ds vs
  | [], vs, h => by simpa [RF] using h
  | (k, d) :: ds, vs, h => by
    simp only [RF] at h ⊢
    obtain ⟨c, v, ws, e, h0, h1, h2⟩ := h
    exact ⟨c, v, ws, e, h0, R.stab ow st d v h1, RF.stab ow st ds ws h2⟩
theorem RO'.stab (ow : Own O H) (st : Stab O H O' H') (C : Addr) : ∀ (ds : List (D × D)) (vs : List (Str × V)), RO' K O H C ds vs → RO' K O' H' C ds vs
  | [], vs, h => by simp only [RO'] at h
  | (k, d) :: ds, vs, h => by
    simp only [RO'] at h ⊢
    exact ⟨h.1, h.2.1, RF.stab ow st ds vs h.2.2⟩
end
theorem Stab.weak (h : ∀ a ∈ O', a ∈ O) (hk : ∀ a o, H a = some o → H' a = some o) : Stab O H O' H' := fun a n e =>
  ⟨fun z => n (h a z), fun u _ r => by
    rcases r with r | ⟨o, r⟩
    · exact .inl (hk _ _ r)
    · exact .inr ⟨o, hk _ _ r⟩, fun u _ q => hk _ _ q⟩
/-- the view: whatever is owned -/
theorem R.view (ow : Own O H) {d : D} {v : V} (h : R K O H d v) : R K [] H d v := R.stab ow (Stab.weak (by intro a z; cases z) (fun _ _ e => e)) d v h
end
/-- what a slot, an expression holds: frozen data, or an own list or dict, or the tape -/
inductive SV where
  | fz (d : D) | ol (xs : List D) | od (kvs : List (D × D)) | ot (kvs : List (D × D)) | tape | scr (tb : List Addr) | ob (c : Str) (fs : List (D × D))
/-- an object as data -/
abbrev obD (c : Str) (fs : List (D × D)) : D := .dict ((.list [bigI], .str c) :: fs)
def SV.view : SV → Option D
  | .fz d => some d
  | .ol xs => some (.list xs)
  | .od kvs => some (.dict kvs)
  | .ot kvs => some (.dict kvs)
  | .tape => none
  | .scr _ => none
  | .ob c fs => some (obD c fs)
/-- .. seen by others, too: frozen -/
def SV.frz : SV → SV
  | .fz d => .fz d
  | .ol xs => .fz (.list xs)
  | .od kvs => .fz (.dict kvs)
  | .ot kvs => .fz (.dict kvs)
  | .tape => .tape
  | .scr t => .scr t
  | .ob c fs => .fz (obD c fs)
def SVR (γ : Gh) (O : List Addr) (H : Hp) : SV → V → List Addr → Prop
  | .fz d, v, fp => R K O H d v ∧ fp = []
  | .ol xs, v, fp => ∃ a vs, v = .ref a ∧ H a = some (.lst vs) ∧ Rs K O H xs vs ∧ fp = [a]
  | .od kvs, v, fp => ∃ a ws, v = .ref a ∧ H a = some (.dK ws) ∧ RK K O H kvs ws ∧ fp = [a]
  | .ot kvs, v, fp => ∃ a ws, v = .ref a ∧ H a = some (.dT ws) ∧ RT K O H kvs ws ∧ fp = [a]
  | .tape, v, fp => (∃ a, γ.T = some a ∧ v = .ref a) ∧ fp = []
  | .scr t, v, fp => (v = .ref γ.sc ∧ t = γ.tb ∧ Scr K H γ.sc (γ.ns.map V.int)) ∧ fp = []
  | .ob c kvs, v, fp => ∃ C dx ws, v = .ref γ.sc ∧ H γ.sc = some (.ins C dx ws) ∧ RF K O H kvs ws ∧ fp = [γ.sc] ∧ ObC K c C
def Slots (γ : Gh) (O : List Addr) (H : Hp) : List (Option SV) → St → List Addr → Prop
  | [], σ, fp => σ = [] ∧ fp = []
  | none :: r, σ, fp => ∃ x σ', σ = x :: σ' ∧ Slots γ O H r σ' fp
  | some s :: r, σ, fp => ∃ v σ' f1 f2, σ = some v :: σ' ∧ fp = f1 ++ f2 ∧ SVR K γ O H s v f1 ∧ Slots γ O H r σ' f2
/-- the tape's dict -/
def tapeO (t : Int × Int) : HO := .dK [(.inr (Str.ofString "digits"), .int t.1), (.inr (Str.ofString "mixed"), .int t.2)]
def TapeR (γ : Gh) (H : Hp) : Option (Int × Int) → List Addr → Prop
  | none, fp => fp = []
  | some t, fp => ∃ a, γ.T = some a ∧ H a = some (tapeO t) ∧ fp = [a]
/-- the state of the mirror: the slots, the tape -/
structure S where
  sl : List (Option SV)
  tp : Option (Int × Int)
structure Good (γ : Gh) (Oc : List Addr) (r : S) (σ : St) (H : Hp) (fs : List Addr) : Prop where
  sp : ∃ f1 f2, fs = f1 ++ f2 ∧ Slots K γ (fs ++ Oc) H r.sl σ f1 ∧ TapeR γ H r.tp f2
  nd : (fs ++ Oc).Nodup
  ow : Own (fs ++ Oc) H
  tt : (γ.T ≠ none → r.tp ≠ none) ∧ TabsL γ.tb H
/-- the view: the top may be one's own, what stands in it is frozen -/
def RE (γ : Gh) (O : List Addr) (H : Hp) (d : D) (v : V) : Prop := match d with
  | .list ds => ∃ a vs, v = .ref a ∧ γ.T ≠ some a ∧ H a = some (.lst vs) ∧ Rs K O H ds vs
  | .dict kvs => ∃ a, v = .ref a ∧ γ.T ≠ some a ∧ ((∃ ws, Rd H a (.dK ws) ∧ RK K O H kvs ws) ∨ (∃ ws, Rd H a (.dT ws) ∧ RT K O H kvs ws) ∨ (∃ C dx ws, H a = some (.ins C dx ws) ∧ RO' K O H C kvs ws))
  | d => R K O H d v
section
variable {K : PySem.W.Frag} {γ : Gh} {O O' : List Addr} {H H' : Hp}
theorem SVR.stab (ow : Own O H) (st : Stab O H O' H') {x : SV} {v : V} {fp : List Addr} (hfp : ∀ a ∈ fp, H' a = H a) (h : SVR K γ O H x v fp) : SVR K γ O' H' x v fp := by
  cases x with
  | fz d => exact ⟨R.stab ow st _ _ h.1, h.2⟩
  | ol xs => obtain ⟨a, vs, e, h1, h2, h3⟩ := h; exact ⟨a, vs, e, (hfp a (by rw [h3]; simp)).trans h1, Rs.stab ow st _ _ h2, h3⟩
  | od xs => obtain ⟨a, vs, e, h1, h2, h3⟩ := h; exact ⟨a, vs, e, (hfp a (by rw [h3]; simp)).trans h1, RK.stab ow st _ _ h2, h3⟩
  | ot xs => obtain ⟨a, vs, e, h1, h2, h3⟩ := h; exact ⟨a, vs, e, (hfp a (by rw [h3]; simp)).trans h1, RT.stab ow st _ _ h2, h3⟩
  | ob c xs => obtain ⟨C, dx, vs, e, h1, h2, h3, h4⟩ := h; exact ⟨C, dx, vs, e, (hfp γ.sc (by rw [h3]; simp)).trans h1, RF.stab ow st _ _ h2, h3, h4⟩
  | tape => exact h
  | scr =>
    obtain ⟨⟨e, et, q⟩, z⟩ := h
    refine ⟨⟨e, et, ?_⟩, z⟩
    rcases q with ⟨u, q⟩ | q
    · have n : γ.sc ∉ O := fun hm => by
        obtain ⟨o, ho, l⟩ := ow _ hm
        rw [q] at ho; cases ho; exact l
      exact .inl ⟨u, (st _ n (by rw [q]; simp)).2.2 _ trivial q⟩
    · exact .inr q
theorem Slots.stab (ow : Own O H) (st : Stab O H O' H') : ∀ {sl : List (Option SV)} {σ : St} {fp : List Addr}, (∀ a ∈ fp, H' a = H a) → Slots K γ O H sl σ fp → Slots K γ O' H' sl σ fp
  | [], σ, fp, _, h => h
  | none :: r, σ, fp, hf, h => by
    obtain ⟨x, σ', e, h⟩ := h
    exact ⟨x, σ', e, Slots.stab ow st hf h⟩
  | some s :: r, σ, fp, hf, h => by
    obtain ⟨v, σ', f1, f2, e, e2, h1, h2⟩ := h
    subst e2
    exact ⟨v, σ', f1, f2, e, rfl, h1.stab ow st fun a ha => hf a (List.mem_append_left _ ha), Slots.stab ow st (fun a ha => hf a (List.mem_append_right _ ha)) h2⟩
theorem Slots.len : ∀ {sl : List (Option SV)} {σ : St} {fp : List Addr}, Slots K γ O H sl σ fp → σ.length = sl.length
  | [], σ, fp, h => by rw [h.1]; rfl
  | none :: r, σ, fp, h => by
    obtain ⟨x, σ', e, h⟩ := h
    rw [e, List.length_cons, List.length_cons, h.len]
  | some s :: r, σ, fp, h => by
    obtain ⟨v, σ', f1, f2, e, e2, h1, h2⟩ := h
    rw [e, List.length_cons, List.length_cons, h2.len]
/-- the value's footprint lies in the slots' -/
theorem Slots.at : ∀ {sl : List (Option SV)} {σ : St} {fp : List Addr} {i : Nat} {x : SV}, Slots K γ O H sl σ fp → sl[i]? = some (some x) →
    ∃ v f1 f2 f3, σ[i]? = some (some v) ∧ fp = f1 ++ (f2 ++ f3) ∧ SVR K γ O H x v f2
  | [], σ, fp, i, x, h, e => by simp at e
  | none :: r, σ, fp, 0, x, h, e => by simp at e
  | none :: r, σ, fp, i + 1, x, h, e => by
    obtain ⟨y, σ', e1, h⟩ := h
    obtain ⟨v, f1, f2, f3, a, b, c⟩ := h.at (i := i) (by simpa using e)
    exact ⟨v, f1, f2, f3, by rw [e1]; simpa using a, b, c⟩
  | some s :: r, σ, fp, 0, x, h, e => by
    obtain ⟨v, σ', f1, f2, e1, e2, h1, h2⟩ := h
    simp at e; subst e
    exact ⟨v, [], f1, f2, by rw [e1]; rfl, by rw [e2]; rfl, h1⟩
  | some s :: r, σ, fp, i + 1, x, h, e => by
    obtain ⟨v, σ', f1, f2, e1, e2, h1, h2⟩ := h
    obtain ⟨v', g1, g2, g3, a, b, c⟩ := h2.at (i := i) (by simpa using e)
    exact ⟨v', f1 ++ g1, g2, g3, by rw [e1]; simpa using a, by rw [e2, b, List.append_assoc], c⟩
/-- a slot's value is exchanged, or let go -/
theorem Slots.upd : ∀ {sl : List (Option SV)} {σ : St} {fp : List Addr} {i : Nat}, Slots K γ O H sl σ fp → i < sl.length →
    ∃ f1 f2 f3, fp = f1 ++ (f2 ++ f3) ∧ (∀ y, sl[i]? = some (some y) → ∃ u, σ[i]? = some (some u) ∧ SVR K γ O H y u f2) ∧
      (∀ {O' : List Addr} {H' : Hp} {x : SV} {v : V} {f : List Addr}, Own O H → Stab O H O' H' → (∀ a ∈ f1 ++ f3, H' a = H a) → SVR K γ O' H' x v f → Slots K γ O' H' (sl.set i (some x)) (σ.set i (some v)) (f1 ++ (f ++ f3))) ∧
      (∀ {O' : List Addr} {H' : Hp}, Own O H → Stab O H O' H' → (∀ a ∈ f1 ++ f3, H' a = H a) → Slots K γ O' H' (sl.set i none) σ (f1 ++ f3))
  | [], σ, fp, i, h, l => by simp at l
  | none :: r, σ, fp, 0, h, l => by
    obtain ⟨y, σ', e1, h⟩ := h
    exact ⟨[], [], fp, rfl, fun y e => by simp at e, fun {O' H' x v f} ow st k hx => ⟨v, σ', f, fp, by rw [e1]; rfl, rfl, hx, h.stab ow st (by simpa using k)⟩, fun ow st k => ⟨y, σ', e1, h.stab ow st (by simpa using k)⟩⟩
  | none :: r, σ, fp, i + 1, h, l => by
    obtain ⟨y, σ', e1, h⟩ := h
    obtain ⟨g1, g2, g3, a, b, c, d⟩ := h.upd (i := i) (by simpa using l)
    exact ⟨g1, g2, g3, a, by rw [e1]; simpa using b, fun {O' H' x v f} ow st k hx => ⟨y, σ'.set i (some v), by rw [e1]; rfl, c ow st k hx⟩, fun ow st k => ⟨y, σ', e1, d ow st k⟩⟩
  | some s :: r, σ, fp, 0, h, l => by
    obtain ⟨u, σ', f1, f2, e1, e2, h1, h2⟩ := h
    exact ⟨[], f1, f2, e2, fun y z => by simp at z; subst z; exact ⟨u, by rw [e1]; rfl, h1⟩, fun {O' H' x v f} ow st k hx => ⟨v, σ', f, f2, by rw [e1]; rfl, rfl, hx, h2.stab ow st (by simpa using k)⟩,
      fun ow st k => ⟨some u, σ', e1, h2.stab ow st (by simpa using k)⟩⟩
  | some s :: r, σ, fp, i + 1, h, l => by
    obtain ⟨u, σ', f1, f2, e1, e2, h1, h2⟩ := h
    obtain ⟨g1, g2, g3, a, b, c, d⟩ := h2.upd (i := i) (by simpa using l)
    refine ⟨f1 ++ g1, g2, g3, by rw [e2, a, List.append_assoc], by rw [e1]; simpa using b, fun {O' H' x v f} ow st k hx => ?_, fun {O' H'} ow st k => ?_⟩
    · exact ⟨u, σ'.set i (some v), f1, g1 ++ (f ++ g3), by rw [e1]; rfl, by rw [List.append_assoc], h1.stab ow st fun a ha => k a (by simp [ha]), c ow st (fun a ha => k a (by simp only [List.mem_append] at ha ⊢; rcases ha with ha | ha <;> simp [ha])) hx⟩
    · exact ⟨u, σ', f1, g1 ++ g3, e1, by rw [List.append_assoc], h1.stab ow st fun a ha => k a (by simp [ha]), d ow st (fun a ha => k a (by simp only [List.mem_append] at ha ⊢; rcases ha with ha | ha <;> simp [ha]))⟩
end
end QL
namespace QL
open PySem PySem.Spec L2
inductive Res (α : Type) where
  | ok (a : α) (s : S)
  | exc (c : Str) (f : List (Str × D)) (s : S)
  | bad
def Res.bind {α β : Type} (r : Res α) (k : α → S → Res β) : Res β :=
  match r with
  | .ok a s => k a s
  | .exc c f s => .exc c f s
  | .bad => .bad
def isTbl : HO → Bool
  | .tbl _ => true
  | _ => false
theorem Fixd.nt {u : HO} (h : Fixd u) : isTbl u = false := by cases u <;> first | rfl | exact h.elim
theorem NoFrz.nt {u : HO} (h : NoFrz u) : isTbl u = false := by cases u <;> first | rfl | exact h.elim
theorem LD.nt {u : HO} (h : LD u) : isTbl u = false := by cases u <;> first | rfl | exact h.elim
/-- known: some object, or a table of code -/
def NN (H : Hp) (x : Addr × Bool) : Prop := match x.2 with
  | false => H x.1 ≠ none
  | true => ∃ ps, H x.1 = some (.tbl ps)
theorem NN.kept {H H' : Hp} (k : ∀ a o, H a = some o → H' a = some o) {x : Addr × Bool} (h : NN H x) : NN H' x := by
  obtain ⟨a, b⟩ := x
  cases b with
  | false =>
    show H' a ≠ none
    have h : H a ≠ none := h
    cases e : H a with
    | none => exact absurd e h
    | some o => rw [k a o e]; simp
  | true =>
    obtain ⟨ps, e⟩ := h
    exact ⟨ps, k _ _ e⟩
theorem NN.of {H : Hp} {a : Addr} {o : HO} (h : H a = some o) : NN H (a, false) := show H a ≠ none by rw [h]; simp
theorem nn_upd {H : Hp} {p : Addr} {o o' : HO} (h : H p = some o) (ht : isTbl o = false) {x : Addr × Bool} (n : NN H x) : NN (upd H p o') x := by
  obtain ⟨a, b⟩ := x
  by_cases e : a = p
  · subst e
    cases b with
    | false => exact NN.of upd_same
    | true =>
      obtain ⟨ps, q⟩ := n
      have q : H a = some (.tbl ps) := q
      rw [h] at q
      cases q
      cases ht
  · cases b with
    | false => show upd H p o' a ≠ none; rw [upd_ne e]; exact n
    | true =>
      obtain ⟨ps, q⟩ := n
      exact ⟨ps, by show upd H p o' a = _; rw [upd_ne e]; exact q⟩
/-- all but tables of code is as before -/
structure SameT (H H' : Hp) : Prop where
  kp : ∀ a o, H a = some o → (ht : isTbl o = false := by rfl) → H' a = some o
  th : ∀ x, NN H x → NN H' x
  tb : ∀ P, TabL H P → TabL H' P
theorem SameT.of {H H' : Hp} (k : ∀ a o, H a = some o → H' a = some o) : SameT H H' := ⟨fun a o e _ => k a o e, fun x h => NN.kept k h, fun P h => h.ext k⟩
theorem SameT.refl (H : Hp) : SameT H H := .of fun _ _ e => e
theorem SameT.trans {H H1 H2 : Hp} (a : SameT H H1) (b : SameT H1 H2) : SameT H H2 := ⟨fun x o e ht => b.kp x o (a.kp x o e ht) ht, fun x h => b.th x (a.th x h), fun P h => b.tb P (a.tb P h)⟩
theorem tabs_upd {H : Hp} {p : Addr} {o o' : HO} (h : H p = some o) (ld : LD o) {P : Addr} (t : TabL H P) : TabL (upd H p o') P := by
  obtain ⟨ps, h1, h2, h3⟩ := t
  have n1 : P ≠ p := fun z => by
    rw [z, h] at h1
    cases h1
    exact ld
  refine ⟨ps, by rw [upd_ne n1]; exact h1, h2, fun pos cv hc => ?_⟩
  obtain ⟨c, e1, e2⟩ := h3 pos cv hc
  have n2 : c ≠ p := fun z => by
    rw [z, h] at e2
    cases e2
    exact ld
  exact ⟨c, e1, by rw [upd_ne n2]; exact e2⟩
instance {H H' : Hp} : Coe (∀ a o, H a = some o → H' a = some o) (SameT H H') := ⟨SameT.of⟩
/-- behind an expression: the slots own no more, all but the tape and tables of code is kept -/
structure Stp (T : Option Addr) (fs : List Addr) (H : Hp) (fs' : List Addr) (H' : Hp) : Prop where
  sub : ∀ a ∈ fs', a ∈ fs
  keep : ∀ a o, H a = some o → (T = some a → a ∉ fs) → (ht : isTbl o = false := by rfl) → H' a = some o
  there : ∀ x, NN H x → NN H' x
  tb : ∀ P, TabL H P → TabL H' P
/-- behind a statement -/
structure Evo (fs : List Addr) (H : Hp) (fs' : List Addr) (H' : Hp) : Prop where
  sub : ∀ a ∈ fs', a ∈ fs ∨ H a = none
  keep : ∀ a o, H a = some o → a ∉ fs → (ht : isTbl o = false := by rfl) → H' a = some o
  there : ∀ x, NN H x → NN H' x
  tb : ∀ P, TabL H P → TabL H' P
section
variable {T : Option Addr} {f0 f1 f2 f3 : List Addr} {H0 H1 H2 H3 : Hp}
theorem Stp.refl (T : Option Addr) (fs : List Addr) (H : Hp) : Stp T fs H fs H := ⟨fun _ h => h, fun _ _ h _ _ => h, fun _ h => h, fun _ h => h⟩
theorem Stp.trans (a : Stp T f0 H0 f1 H1) (b : Stp T f1 H1 f2 H2) : Stp T f0 H0 f2 H2 :=
  ⟨fun x h => a.sub x (b.sub x h), fun x o e n ht => b.keep x o (a.keep x o e n ht) (fun t z => n t (a.sub x z)) ht, fun x h => b.there x (a.there x h), fun P h => b.tb P (a.tb P h)⟩
theorem Stp.evo (a : Stp T f0 H0 f1 H1) : Evo f0 H0 f1 H1 := ⟨fun x h => .inl (a.sub x h), fun x o e n ht => a.keep x o e (fun _ => n) ht, a.there, a.tb⟩
theorem Evo.refl (fs : List Addr) (H : Hp) : Evo fs H fs H := ⟨fun _ h => .inl h, fun _ _ h _ _ => h, fun _ h => h, fun _ h => h⟩
theorem Evo.trans (a : Evo f0 H0 f1 H1) (b : Evo f1 H1 f2 H2) : Evo f0 H0 f2 H2 := by
  refine ⟨fun x h => ?_, fun x o e n ht => b.keep x o (a.keep x o e n ht) (fun z => ?_) ht, fun x h => b.there x (a.there x h), fun P h => b.tb P (a.tb P h)⟩
  · rcases b.sub x h with h | h
    · exact a.sub x h
    · cases e : H0 x with
      | none => exact .inr rfl
      | some o => exact absurd h (a.there (x, false) (NN.of e))
  · rcases a.sub x z with h | h
    · exact n h
    · rw [h] at e; cases e
end
variable (K : PySem.W.Frag) (mg : Str → Option Value)
/-- the fields of an exception, its own dict at d -/
def XR (O : List Addr) (H : Hp) (f : List (Str × D)) (d : Option Addr) : Prop :=
  f = [] ∨ ∃ dd ws, d = some dd ∧ H dd = some (.xd ws) ∧ ws.map (·.1) = f.map (·.1) ∧ Rs K O H (f.map (·.2)) (ws.map (·.2))
/-- an exception of the class c -/
structure XP (γ : Gh) (Oc : List Addr) (r' : S) (σ : St) (H : Hp) (fs : List Addr) (H' : Hp) (c : Str) (f : List (Str × D)) (C : Addr) (d : Option Addr) : Prop where
  ex : ∃ fs', Good K γ Oc r' σ H' fs' ∧ Stp γ.T fs H fs' H' ∧ mg c = some (.ref C) ∧ XR K (fs' ++ Oc) H' f d
abbrev Pst (α β : Type) := Gh → List Addr → S → St → Hp → List Addr → Hp → α → β → Prop
/-- posts: a value; a view; arguments; a test; nothing -/
def PV : Pst SV V := fun γ Oc r' σ H fs H' x v => ∃ fs' fp, Good K γ (fp ++ Oc) r' σ H' fs' ∧ SVR K γ (fs' ++ (fp ++ Oc)) H' x v fp ∧ Stp γ.T fs H fs' H' ∧ ∀ a ∈ fp, H a = none
def PB : Pst D V := fun γ Oc r' σ H fs H' d v => ∃ fs', Good K γ Oc r' σ H' fs' ∧ RE K γ (fs' ++ Oc) H' d v ∧ Stp γ.T fs H fs' H'
def PF : Pst D V := fun γ Oc r' σ H fs H' d v => ∃ fs', Good K γ Oc r' σ H' fs' ∧ R K (fs' ++ Oc) H' d v ∧ Stp γ.T fs H fs' H'
def PL : Pst (List D) (List V) := fun γ Oc r' σ H fs H' ds vs => ∃ fs', Good K γ Oc r' σ H' fs' ∧ Rs K (fs' ++ Oc) H' ds vs ∧ Stp γ.T fs H fs' H'
def PTt : Pst Bool Bool := fun γ Oc r' σ H fs H' b c => ∃ fs', Good K γ Oc r' σ H' fs' ∧ c = b ∧ Stp γ.T fs H fs' H'
def SimAt {α β : Type} (W : WX) (P : Pst α β) (γ : Gh) (Oc : List Addr) (σ : St) (H : Hp) (fs : List Addr) (t : (β → Hp → Prop) → Prop) (r : Res α) : Prop :=
  ∀ Q, match r with
    | .ok x r' => (∀ y H', P γ Oc r' σ H fs H' x y → Q y H') → t Q
    | .exc c f r' => (∀ C d H', XP K mg γ Oc r' σ H fs H' c f C d → W (.ref C) d σ H') → t Q
    | .bad => True
def Sim {α β : Type} (W : WX) (P : Pst α β) (t : St → Hp → (β → Hp → Prop) → Prop) (F : S → Res α) : Prop :=
  ∀ γ Oc r σ H fs, Good K γ Oc r σ H fs → SimAt K mg W P γ Oc σ H fs (t σ H) (F r)
section
variable {K : PySem.W.Frag} {mg : Str → Option Value} {W : WX} {γ : Gh} {Oc : List Addr} {r r1 r2 : S} {σ : St} {H H1 H2 : Hp} {fs fs1 : List Addr}
theorem SimAt.bind {α β α2 δ : Type} {P1 : Pst α β} {P2 : Pst α2 δ} {t1 : (β → Hp → Prop) → Prop} {t2 : β → Hp → (δ → Hp → Prop) → Prop} {x : Res α} {F2 : α → S → Res α2}
    (h1 : SimAt K mg W P1 γ Oc σ H fs t1 x) (h2 : ∀ a r1 y H1, P1 γ Oc r1 σ H fs H1 a y → SimAt K mg W P2 γ Oc σ H fs (t2 y H1) (F2 a r1)) :
    SimAt K mg W P2 γ Oc σ H fs (fun Q => t1 fun y H1 => t2 y H1 Q) (x.bind F2) := by
  intro Q
  cases x with
  | bad => trivial
  | exc c f r' => exact h1 _
  | ok a r1 =>
    have eb : (Res.ok a r1).bind F2 = F2 a r1 := rfl
    rw [eb]
    have k := fun y H1 p => h2 a r1 y H1 p Q
    generalize F2 a r1 = z at k ⊢
    cases z with
    | bad => trivial
    | exc c f r' => exact fun hw => h1 _ fun y H1 p => k y H1 p hw
    | ok b r2 => exact fun hq => h1 _ fun y H1 p => k y H1 p hq
/-- the end of a chain: a value made at once -/
theorem SimAt.ret {α β : Type} {P : Pst α β} {a : α} {t : (β → Hp → Prop) → Prop} (h : ∀ Q, (∀ y H', P γ Oc r σ H fs H' a y → Q y H') → t Q) : SimAt K mg W P γ Oc σ H fs t (.ok a r) := h
/-- what is shown from a later state -/
class PstT {α β : Type} (P : Pst α β) : Prop where
  tr : ∀ {γ Oc r' σ H fs fs1 H1 H' x y}, Stp γ.T fs H fs1 H1 → P γ Oc r' σ H1 fs1 H' x y → P γ Oc r' σ H fs H' x y
theorem Stp.none (s : Stp γ.T fs H fs1 H1) {a : Addr} (h : H1 a = none) : H a = none := by
  cases e : H a with
  | none => rfl
  | some o => exact absurd h (s.there (a, false) (NN.of e))
instance : PstT (PV K) := ⟨fun s ⟨f, p, a, b, c, d⟩ => ⟨f, p, a, b, s.trans c, fun x hx => s.none (d x hx)⟩⟩
instance : PstT (PB K) := ⟨fun s ⟨f, a, b, c⟩ => ⟨f, a, b, s.trans c⟩⟩
instance : PstT (PF K) := ⟨fun s ⟨f, a, b, c⟩ => ⟨f, a, b, s.trans c⟩⟩
instance : PstT (PL K) := ⟨fun s ⟨f, a, b, c⟩ => ⟨f, a, b, s.trans c⟩⟩
instance : PstT (PTt K) := ⟨fun s ⟨f, a, b, c⟩ => ⟨f, a, b, s.trans c⟩⟩
theorem XP.tr {r' : S} {H' : Hp} {c : Str} {f : List (Str × D)} {C : Addr} {d : Option Addr} (s : Stp γ.T fs H fs1 H1) (h : XP K mg γ Oc r' σ H1 fs1 H' c f C d) : XP K mg γ Oc r' σ H fs H' c f C d := by
  obtain ⟨f', a, b, m, x⟩ := h
  exact ⟨f', a, s.trans b, m, x⟩
theorem SimAt.tr {α β : Type} {P : Pst α β} [PstT P] {t : (β → Hp → Prop) → Prop} {x : Res α} (s : Stp γ.T fs H fs1 H1) (h : SimAt K mg W P γ Oc σ H1 fs1 t x) : SimAt K mg W P γ Oc σ H fs t x := by
  intro Q
  have z := h Q
  cases x with
  | bad => trivial
  | exc c f r' => exact fun hw => z fun C d H' p => hw C d H' (p.tr s)
  | ok a r1 => exact fun hq => z fun y H' p => hq y H' (PstT.tr s p)
theorem SimAt.imp {α β : Type} {P : Pst α β} {t t' : (β → Hp → Prop) → Prop} {x : Res α} (h : SimAt K mg W P γ Oc σ H fs t x) (hi : ∀ Q, t Q → t' Q) : SimAt K mg W P γ Oc σ H fs t' x := by
  intro Q
  have z := h Q
  cases x with
  | bad => trivial
  | exc c f r' => exact fun hw => hi _ (z hw)
  | ok a r1 => exact fun hq => hi _ (z hq)
/-- a post is weakened -/
theorem SimAt.post {α β : Type} {P P' : Pst α β} {t : (β → Hp → Prop) → Prop} {x : Res α} (h : SimAt K mg W P γ Oc σ H fs t x) (hp : ∀ r' H' a y, P γ Oc r' σ H fs H' a y → P' γ Oc r' σ H fs H' a y) : SimAt K mg W P' γ Oc σ H fs t x := by
  intro Q
  have z := h Q
  cases x with
  | bad => trivial
  | exc c f r' => exact z
  | ok a r1 => exact fun hq => z fun y H' p => hq y H' (hp _ _ _ _ p)
theorem Good.stabSub {fs' : List Addr} (g : Good K γ Oc r σ H fs) (s : Stp γ.T fs H fs' H1) : Stab (fs ++ Oc) H (fs' ++ Oc) H1 := fun a n e => by
  have nf : a ∉ fs := fun z => n (List.mem_append_left _ z)
  refine ⟨fun z => ?_, fun u hu q => ?_, fun u hu q => s.keep a _ q (fun _ => nf) hu.nt⟩
  · rcases List.mem_append.mp z with z | z
    · exact nf (s.sub a z)
    · exact n (List.mem_append_right _ z)
  · rcases q with q | ⟨o, q⟩
    · exact .inl (s.keep a _ q (fun _ => nf) hu.nt)
    · exact .inr ⟨o, s.keep a _ q fun _ => nf⟩
theorem Evo.stab {fs' : List Addr} (s : Evo fs H fs' H1) : Stab (fs ++ Oc) H (fs' ++ Oc) H1 := fun a n e => by
  have nf : a ∉ fs := fun z => n (List.mem_append_left _ z)
  refine ⟨fun z => ?_, fun u hu q => ?_, fun u hu q => s.keep a _ q nf hu.nt⟩
  · rcases List.mem_append.mp z with z | z
    · rcases s.sub a z with z | z
      · exact nf z
      · exact e z
    · exact n (List.mem_append_right _ z)
  · rcases q with q | ⟨o, q⟩
    · exact .inl (s.keep a _ q nf hu.nt)
    · exact .inr ⟨o, s.keep a _ q nf⟩
/-- the tape is one's own -/
theorem Good.tape (g : Good K γ Oc r σ H fs) {a : Addr} (h : γ.T = some a) : a ∈ fs ∧ ∃ t, r.tp = some t ∧ H a = some (tapeO t) := by
  obtain ⟨⟨f1, f2, e, sl, tp⟩, nd, ow, tt⟩ := g
  cases q : r.tp with
  | none => exact absurd q (tt.1 (by rw [h]; simp))
  | some t =>
    rw [q] at tp
    obtain ⟨b, e1, e2, e3⟩ := tp
    rw [h] at e1; cases e1
    exact ⟨by rw [e, e3]; simp, t, rfl, e2⟩
theorem R.toE (g : Good K γ Oc r σ H fs) {d : D} {v : V} (h : R K (fs ++ Oc) H d v) : RE K γ (fs ++ Oc) H d v := by
  have nt : ∀ a, a ∉ fs ++ Oc → γ.T ≠ some a := fun a n e => n (List.mem_append_left _ (g.tape e).1)
  cases d with
  | list ds =>
    simp only [R] at h
    obtain ⟨a, vs, e, n, q, h2⟩ := h
    exact ⟨a, vs, e, nt a n, q, h2⟩
  | dict kvs =>
    simp only [R] at h
    obtain ⟨a, e, n, h⟩ := h
    exact ⟨a, e, nt a n, h⟩
  | none => exact h
  | bool _ => exact h
  | int _ => exact h
  | str _ => exact h
  | tuple _ => exact h
theorem RE.keep {fs' : List Addr} (g : Good K γ Oc r σ H fs) (s : Stp γ.T fs H fs' H1) {d : D} {v : V} (h : RE K γ (fs ++ Oc) H d v) : RE K γ (fs' ++ Oc) H1 d v := by
  have st := g.stabSub s
  have kp : ∀ {a u}, γ.T ≠ some a → Rd H a u → (ht : isTbl u = false := by rfl) → Rd H1 a u := fun {a u} n q ht => by
    rcases q with q | ⟨o, q⟩
    · exact .inl (s.keep a _ q (fun z => absurd z n) ht)
    · exact .inr ⟨o, s.keep a _ q fun z => absurd z n⟩
  cases d with
  | list ds =>
    obtain ⟨a, vs, e, n, q, h2⟩ := h
    exact ⟨a, vs, e, n, s.keep a _ q fun z => absurd z n, Rs.stab g.ow st _ _ h2⟩
  | dict kvs =>
    obtain ⟨a, e, n, h⟩ := h
    refine ⟨a, e, n, ?_⟩
    rcases h with ⟨ws, q, h⟩ | ⟨ws, q, h⟩ | ⟨C, dx, ws, q, h⟩
    · exact .inl ⟨ws, kp n q, RK.stab g.ow st _ _ h⟩
    · exact .inr (.inl ⟨ws, kp n q, RT.stab g.ow st _ _ h⟩)
    · exact .inr (.inr ⟨C, dx, ws, s.keep a _ q fun z => absurd z n, RO'.stab g.ow st C _ _ h⟩)
  | none => exact R.stab g.ow st _ _ h
  | bool _ => exact R.stab g.ow st _ _ h
  | int _ => exact R.stab g.ow st _ _ h
  | str _ => exact R.stab g.ow st _ _ h
  | tuple _ => exact R.stab g.ow st _ _ h
/-- to be read whole -/
theorem RE.all {O : List Addr} (ow : Own O H) {d : D} {v : V} (h : RE K γ O H d v) : R K [] H d v := by
  have st : Stab O H [] H := Stab.weak (by intro a z; cases z) (fun _ _ e => e)
  cases d with
  | list ds =>
    obtain ⟨a, vs, e, n, q, h2⟩ := h
    simp only [R]
    exact ⟨a, vs, e, by simp, q, Rs.stab ow st _ _ h2⟩
  | dict kvs =>
    obtain ⟨a, e, n, h⟩ := h
    simp only [R]
    refine ⟨a, e, by simp, ?_⟩
    rcases h with ⟨ws, q, h⟩ | ⟨ws, q, h⟩ | ⟨C, dx, ws, q, h⟩
    · exact .inl ⟨ws, q, RK.stab ow st _ _ h⟩
    · exact .inr (.inl ⟨ws, q, RT.stab ow st _ _ h⟩)
    · exact .inr (.inr ⟨C, dx, ws, q, RO'.stab ow st C _ _ h⟩)
  | none => exact R.stab ow st _ _ h
  | bool _ => exact R.stab ow st _ _ h
  | int _ => exact R.stab ow st _ _ h
  | str _ => exact R.stab ow st _ _ h
  | tuple _ => exact R.stab ow st _ _ h
theorem Good.slotE (g : Good K γ Oc r σ H fs) {i : Nat} {x : SV} {d : D} (h : r.sl[i]? = some (some x)) (hd : x.view = some d) : ∃ v, σ[i]? = some (some v) ∧ RE K γ (fs ++ Oc) H d v := by
  obtain ⟨⟨f1, f2, e, sl, tp⟩, nd, ow, tt⟩ := id g
  obtain ⟨v, a1, a2, a3, e1, e2, e3⟩ := sl.at h
  refine ⟨v, e1, ?_⟩
  have own : ∀ a, a2 = [a] → γ.T ≠ some a := fun a ea hT => by
    obtain ⟨hm, t, q1, q2⟩ := g.tape hT
    rw [q1] at tp
    obtain ⟨b, b1, b2, b3⟩ := tp
    rw [hT] at b1; cases b1
    have n1 := (List.nodup_append.mp nd).1
    rw [e] at n1
    have n2 := (List.nodup_append.mp n1).2.2
    exact n2 a (by rw [e2, ea]; simp) a (by rw [b3]; simp) rfl
  cases x with
  | fz d' =>
    simp only [SV.view, Option.some.injEq] at hd
    subst hd
    exact R.toE g e3.1
  | ol xs =>
    simp only [SV.view, Option.some.injEq] at hd
    subst hd
    obtain ⟨a, vs, q1, q2, q3, q4⟩ := e3
    exact ⟨a, vs, q1, own a q4, q2, q3⟩
  | od xs =>
    simp only [SV.view, Option.some.injEq] at hd
    subst hd
    obtain ⟨a, vs, q1, q2, q3, q4⟩ := e3
    exact ⟨a, q1, own a q4, .inl ⟨vs, .inl q2, q3⟩⟩
  | ot xs =>
    simp only [SV.view, Option.some.injEq] at hd
    subst hd
    obtain ⟨a, vs, q1, q2, q3, q4⟩ := e3
    exact ⟨a, q1, own a q4, .inr (.inl ⟨vs, .inl q2, q3⟩)⟩
  | tape => simp [SV.view] at hd
  | scr => simp [SV.view] at hd
  | ob c xs =>
    simp only [SV.view, Option.some.injEq] at hd
    subst hd
    obtain ⟨C, dx, vs, q1, q2, q3, q4, q5⟩ := e3
    exact ⟨_, q1, own _ q4, .inr (.inr ⟨C, dx, vs, q2, by simp only [RO']; exact ⟨trivial, ⟨c, rfl, q5⟩, q3⟩⟩)⟩
theorem Own.mono {O O' : List Addr} (h : Own O H) (s : ∀ a ∈ O', a ∈ O) : Own O' H := fun a z => h a (s a z)
/-- a temporary is let go -/
theorem Good.drop {fp : List Addr} (g : Good K γ (fp ++ Oc) r σ H fs) : Good K γ Oc r σ H fs := by
  obtain ⟨⟨f1, f2, e, sl, tp⟩, nd, ow, tt⟩ := g
  have sub : ∀ a ∈ fs ++ Oc, a ∈ fs ++ (fp ++ Oc) := fun a z => by
    rcases List.mem_append.mp z with z | z
    · exact List.mem_append_left _ z
    · exact List.mem_append_right _ (List.mem_append_right _ z)
  refine ⟨⟨f1, f2, e, sl.stab ow (Stab.weak sub fun _ _ z => z) (fun _ _ => rfl), tp⟩, ?_, ow.mono sub, tt⟩
  exact nd.sublist (List.Sublist.append (List.Sublist.refl _) (List.sublist_append_right _ _))
/-- a value, frozen -/
theorem SVR.frz {fp : List Addr} {x : SV} {v : V} (nd : (fs ++ (fp ++ Oc)).Nodup) (ow : Own (fs ++ (fp ++ Oc)) H) (h : SVR K γ (fs ++ (fp ++ Oc)) H x v fp) :
    match x.view with | some d => R K (fs ++ Oc) H d v | none => True := by
  have sub : ∀ a ∈ fs ++ Oc, a ∈ fs ++ (fp ++ Oc) := fun a z => by
    rcases List.mem_append.mp z with z | z
    · exact List.mem_append_left _ z
    · exact List.mem_append_right _ (List.mem_append_right _ z)
  have st : Stab (fs ++ (fp ++ Oc)) H (fs ++ Oc) H := Stab.weak sub fun _ _ z => z
  have out : ∀ a, fp = [a] → a ∉ fs ++ Oc := fun a e z => by
    subst e
    obtain ⟨n1, n2, n3⟩ := List.nodup_append.mp nd
    obtain ⟨m1, m2, m3⟩ := List.nodup_append.mp n2
    rcases List.mem_append.mp z with z | z
    · exact n3 a z a (by simp) rfl
    · exact m3 a (by simp) a z rfl
  cases x with
  | fz d => exact R.stab ow st _ _ h.1
  | ol xs =>
    obtain ⟨a, vs, e, h1, h2, h3⟩ := h
    show R K (fs ++ Oc) H (.list xs) v
    simp only [R]
    exact ⟨a, vs, e, out a h3, h1, Rs.stab ow st _ _ h2⟩
  | od xs =>
    obtain ⟨a, vs, e, h1, h2, h3⟩ := h
    show R K (fs ++ Oc) H (.dict xs) v
    simp only [R]
    exact ⟨a, e, out a h3, .inl ⟨vs, .inl h1, RK.stab ow st _ _ h2⟩⟩
  | ot xs =>
    obtain ⟨a, vs, e, h1, h2, h3⟩ := h
    show R K (fs ++ Oc) H (.dict xs) v
    simp only [R]
    exact ⟨a, e, out a h3, .inr (.inl ⟨vs, .inl h1, RT.stab ow st _ _ h2⟩)⟩
  | tape => trivial
  | scr => trivial
  | ob c xs =>
    obtain ⟨C, dx, vs, e, h1, h2, h3, h4⟩ := h
    show R K (fs ++ Oc) H (obD c xs) v
    simp only [R]
    exact ⟨_, e, out _ h3, .inr (.inr ⟨C, dx, vs, h1, by simp only [RO']; exact ⟨trivial, ⟨c, rfl, h4⟩, RF.stab ow st _ _ h2⟩⟩)⟩
/-- a value's data -/
def asD {α : Type} (x : SV) (r : S) (k : D → S → Res α) : Res α := match x.view with
  | some d => k d r
  | none => .bad
/-- F, frozen; F, seen -/
def fD (F : S → Res SV) : S → Res D := fun r => (F r).bind fun x r => asD x r fun d r => .ok d r
theorem Sim.fz {t : TE} {F : S → Res SV} (h : Sim K mg W (PV K) t F) : Sim K mg W (PF K) t (fD F) := by
  intro γ Oc r σ H fs g
  refine SimAt.bind (t2 := fun y H1 Q => Q y H1) (h γ Oc r σ H fs g) fun x r1 y H1 p => ?_
  obtain ⟨fs', fp, g', v', s, n⟩ := p
  have z := v'.frz g'.nd g'.ow
  unfold asD
  cases e : x.view with
  | none => exact fun Q => trivial
  | some d =>
    rw [e] at z
    exact fun Q hq => hq y H1 ⟨fs', g'.drop, z, s⟩
theorem Sim.vw {t : TE} {F : S → Res D} (h : Sim K mg W (PF K) t F) : Sim K mg W (PB K) t F := fun γ Oc r σ H fs g =>
  (h γ Oc r σ H fs g).post fun r' H' a y ⟨fs', g', v', s⟩ => ⟨fs', g', R.toE g' v', s⟩
end
end QL
namespace QL
open PySem PySem.Spec L2
section
variable {K : PySem.W.Frag} {mg : Str → Option Value} {W : WX} {γ : Gh} {Oc : List Addr} {r r1 r2 : S} {σ : St} {H H' H1 H2 : Hp} {fs fs1 fp : List Addr}
theorem Stp.same (T : Option Addr) (fs : List Addr) (k : SameT H H') : Stp T fs H fs H' := ⟨fun _ h => h, fun a o e _ ht => k.kp a o e ht, k.th, k.tb⟩
theorem Good.grow (g : Good K γ Oc r σ H fs) (k : SameT H H') (n : ∀ a ∈ fp, H a = none) (nd : fp.Nodup) (ow : Own fp H') : Good K γ (fp ++ Oc) r σ H' fs := by
  obtain ⟨⟨f1, f2, e, sl, tp⟩, nd0, ow0, tt⟩ := id g
  have kk : ∀ a ∈ fs ++ Oc, H' a = H a := fun a h => by
    obtain ⟨o, ho, ld⟩ := ow0 a h
    rw [k.kp a o ho ld.nt, ho]
  have out : ∀ a ∈ fp, a ∉ fs ++ Oc := fun a h z => by
    obtain ⟨o, ho, _⟩ := ow0 a z
    rw [n a h] at ho; cases ho
  have mem : ∀ a, a ∈ fs ++ (fp ++ Oc) → a ∈ fp ∨ a ∈ fs ++ Oc := fun a h => by
    simp only [List.mem_append] at h ⊢
    rcases h with h | h | h
    · exact .inr (.inl h)
    · exact .inl h
    · exact .inr (.inr h)
  have st : Stab (fs ++ Oc) H (fs ++ (fp ++ Oc)) H' := fun a h e => by
    refine ⟨fun z => ?_, fun u hu q => ?_, fun u hu q => k.kp _ _ q hu.nt⟩
    · rcases mem a z with z | z
      · exact e (n a z)
      · exact h z
    · rcases q with q | ⟨o, q⟩
      · exact .inl (k.kp _ _ q hu.nt)
      · exact .inr ⟨o, k.kp _ _ q⟩
  refine ⟨⟨f1, f2, e, sl.stab ow0 st fun a h => kk a (by rw [e]; simp [h]), ?_⟩, ?_, fun a h => ?_, tt.1, fun p hp => k.tb _ (tt.2 p hp)⟩
  · cases q : r.tp with
    | none => rw [q] at tp; exact tp
    | some t =>
      rw [q] at tp
      obtain ⟨a, e1, e2, e3⟩ := tp
      exact ⟨a, e1, k.kp _ _ e2, e3⟩
  · obtain ⟨n1, n2, n3⟩ := List.nodup_append.mp nd0
    refine List.nodup_append.mpr ⟨n1, List.nodup_append.mpr ⟨nd, n2, fun a h b h' q => ?_⟩, fun a h b h' q => ?_⟩
    · subst q; exact out a h (List.mem_append_right _ h')
    · subst q
      rcases List.mem_append.mp h' with z | z
      · exact out a z (List.mem_append_left _ h)
      · exact n3 a h a z rfl
  · rcases mem a h with h | h
    · exact ow a h
    · obtain ⟨o, ho, l⟩ := ow0 a h
      exact ⟨o, k.kp a o ho l.nt, l⟩
theorem upd_kept {p : Addr} {o : HO} (h : H p = none) : ∀ a u, H a = some u → upd H p o a = some u := fun a u e => by
  rw [upd_ne (ne_of_none e h)]; exact e
theorem Rs.sameStab (g : Good K γ Oc r σ H fs) (k : SameT H H') (n : ∀ a ∈ fp, H a = none) : Stab (fs ++ Oc) H (fs ++ (fp ++ Oc)) H' := fun a h e => by
  refine ⟨fun z => ?_, fun u hu q => ?_, fun u hu q => k.kp _ _ q hu.nt⟩
  · simp only [List.mem_append] at z h
    rcases z with z | z | z
    · exact h (.inl z)
    · exact e (n a z)
    · exact h (.inr z)
  · rcases q with q | ⟨o, q⟩
    · exact .inl (k.kp _ _ q hu.nt)
    · exact .inr ⟨o, k.kp _ _ q⟩
inductive OV where
  | fz (d : D) | nl (ds : List D) | nt (ds : List D) | nd (kvs : List (D × D))
def OVQ (K : PySem.W.Frag) (O : List Addr) (H : Hp) (z : OV) (Q : VK) : Prop := match z with
  | .fz d => ∀ v, R K O H d v → Q v H
  | .nl ds => ∀ p vs, H p = none → Rs K O H ds vs → Q (.ref p) (upd H p (.lst vs))
  | .nt ds => ∀ p vs, H p = none → Rs K O H ds vs → Q (.ref p) (upd H p (.tup vs))
  | .nd kvs => ∀ p ws, H p = none → RK K O H kvs ws → Q (.ref p) (upd H p (.dK ws))
def ovS : OV → SV
  | .fz d => .fz d
  | .nl ds => .ol ds
  | .nt ds => .fz (.tuple ds)
  | .nd kvs => .od kvs
theorem ovq_of (g : Good K γ Oc r σ H fs) {z : OV} {Q : VK} (hq : ∀ y H', PV K γ Oc r σ H fs H' (ovS z) y → Q y H') : OVQ K (fs ++ Oc) H z Q := by
  cases z with
  | fz d => exact fun v h => hq v H ⟨fs, [], g, ⟨h, rfl⟩, Stp.refl _ _ _, by simp⟩
  | nl ds =>
    intro p vs hp h
    have k := upd_kept (o := .lst vs) hp
    have n : ∀ a ∈ [p], H a = none := by simpa using hp
    refine hq _ _ ⟨fs, [p], g.grow k n (by simp) (by simp [Own, upd_same, LD]), ⟨p, vs, rfl, upd_same, Rs.stab g.ow (Rs.sameStab g k n) _ _ h, rfl⟩, Stp.same _ _ k, n⟩
  | nt ds =>
    intro p vs hp h
    have k := upd_kept (o := .tup vs) hp
    have n : ∀ a ∈ ([] : List Addr), H a = none := by simp
    refine hq _ _ ⟨fs, [], g.grow k n (by simp) (by simp [Own]), ⟨?_, rfl⟩, Stp.same _ _ k, n⟩
    simp only [R]
    exact ⟨p, vs, rfl, upd_same, Rs.stab g.ow (Rs.sameStab g k n) _ _ h⟩
  | nd ds =>
    intro p vs hp h
    have k := upd_kept (o := .dK vs) hp
    have n : ∀ a ∈ [p], H a = none := by simpa using hp
    refine hq _ _ ⟨fs, [p], g.grow k n (by simp) (by simp [Own, upd_same, LD]), ⟨p, vs, rfl, upd_same, RK.stab g.ow (Rs.sameStab g k n) _ _ h, rfl⟩, Stp.same _ _ k, n⟩
theorem Rs.len {O : List Addr} : ∀ {ds : List D} {vs : List V}, Rs K O H ds vs → vs.length = ds.length
  | [], vs, h => by simp only [Rs] at h; rw [h]; rfl
  | d :: ds, vs, h => by
    simp only [Rs] at h
    obtain ⟨v, ws, e, _, h⟩ := h
    rw [e, List.length_cons, List.length_cons, h.len]
theorem Rs.get {O : List Addr} : ∀ {ds : List D} {vs : List V} {i : Nat} {d : D}, Rs K O H ds vs → ds[i]? = some d → ∃ v, vs[i]? = some v ∧ R K O H d v
  | [], vs, i, d, h, e => by simp at e
  | d :: ds, vs, 0, d', h, e => by
    simp only [Rs] at h
    obtain ⟨v, ws, q, h1, h⟩ := h
    simp at e; subst e
    exact ⟨v, by rw [q]; rfl, h1⟩
  | d :: ds, vs, i + 1, d', h, e => by
    simp only [Rs] at h
    obtain ⟨v, ws, q, h1, h⟩ := h
    obtain ⟨u, a, b⟩ := h.get (i := i) (by simpa using e)
    exact ⟨u, by rw [q]; simpa using a, b⟩
theorem Rs.app {O : List Addr} : ∀ {ds es : List D} {vs ws : List V}, Rs K O H ds vs → Rs K O H es ws → Rs K O H (ds ++ es) (vs ++ ws)
  | [], es, vs, ws, h, h' => by simp only [Rs] at h; rw [h]; simpa using h'
  | d :: ds, es, vs, ws, h, h' => by
    simp only [Rs, List.cons_append] at h ⊢
    obtain ⟨v, us, q, h1, h⟩ := h
    exact ⟨v, us ++ ws, by rw [q]; rfl, h1, h.app h'⟩
theorem Rs.take {O : List Addr} : ∀ {ds : List D} {vs : List V} (n : Nat), Rs K O H ds vs → Rs K O H (ds.take n) (vs.take n)
  | [], vs, n, h => by simp only [Rs] at h; rw [h]; simp [Rs]
  | d :: ds, vs, 0, h => by simp [Rs]
  | d :: ds, vs, n + 1, h => by
    simp only [Rs, List.take_succ_cons] at h ⊢
    obtain ⟨v, us, q, h1, h⟩ := h
    exact ⟨v, us.take n, by rw [q]; rfl, h1, h.take n⟩
theorem Rs.drop {O : List Addr} : ∀ {ds : List D} {vs : List V} (n : Nat), Rs K O H ds vs → Rs K O H (ds.drop n) (vs.drop n)
  | [], vs, n, h => by simp only [Rs] at h; rw [h]; simp [Rs]
  | d :: ds, vs, 0, h => by simpa using h
  | d :: ds, vs, n + 1, h => by
    simp only [Rs, List.drop_succ_cons] at h ⊢
    obtain ⟨v, us, q, h1, h⟩ := h
    rw [q]
    exact h.drop n
theorem Rs.rev {O : List Addr} : ∀ {ds : List D} {vs : List V}, Rs K O H ds vs → Rs K O H ds.reverse vs.reverse
  | [], vs, h => by simp only [Rs] at h; rw [h]; simp [Rs]
  | d :: ds, vs, h => by
    simp only [Rs, List.reverse_cons] at h ⊢
    obtain ⟨v, us, q, h1, h⟩ := h
    rw [q, List.reverse_cons]
    refine h.rev.app ?_
    simp only [Rs]
    exact ⟨v, [], rfl, h1, rfl⟩
theorem Rs.rep {O : List Addr} {ds : List D} {vs : List V} (h : Rs K O H ds vs) : ∀ n, Rs K O H (List.replicate n ds).flatten (List.replicate n vs).flatten
  | 0 => by simp [Rs]
  | n + 1 => by
    rw [List.replicate_succ, List.replicate_succ, List.flatten_cons, List.flatten_cons]
    exact h.app (Rs.rep h n)
theorem Rs.at {O : List Addr} {ds : List D} {vs : List V} {i : Int} {d : D} (h : Rs K O H ds vs) (e : atI ds i = some d) : ∃ v, atI vs i = some v ∧ R K O H d v := by
  unfold atI at e ⊢
  rw [h.len]
  cases q : ixN ds.length i with
  | none => rw [q] at e; cases e
  | some j =>
    rw [q] at e
    exact h.get e
/-- ints, texts -/
def intsD : List D → Option (List Int)
  | [] => some []
  | .int i :: r => (intsD r).map (i :: ·)
  | _ => none
def strsD : List D → Option (List Str)
  | [] => some []
  | .str i :: r => (strsD r).map (i :: ·)
  | _ => none
theorem Rs.ints {O : List Addr} : ∀ {ds : List D} {vs : List V} {ns : List Int}, Rs K O H ds vs → intsD ds = some ns → vs = ns.map V.int
  | [], vs, ns, h, e => by
    simp only [Rs] at h
    simp only [intsD, Option.some.injEq] at e
    rw [h, ← e]; rfl
  | .int i :: ds, vs, ns, h, e => by
    simp only [Rs] at h
    obtain ⟨v, us, q, h1, h⟩ := h
    simp only [intsD, Option.map_eq_some_iff] at e
    obtain ⟨ms, e1, e2⟩ := e
    simp only [R] at h1
    rw [q, ← e2, h1, h.ints e1]; rfl
  | .none :: ds, vs, ns, h, e => by simp [intsD] at e
  | .bool _ :: ds, vs, ns, h, e => by simp [intsD] at e
  | .str _ :: ds, vs, ns, h, e => by simp [intsD] at e
  | .list _ :: ds, vs, ns, h, e => by simp [intsD] at e
  | .tuple _ :: ds, vs, ns, h, e => by simp [intsD] at e
  | .dict _ :: ds, vs, ns, h, e => by simp [intsD] at e
theorem Rs.strs {O : List Addr} : ∀ {ds : List D} {vs : List V} {ns : List Str}, Rs K O H ds vs → strsD ds = some ns → vs = ns.map V.str
  | [], vs, ns, h, e => by
    simp only [Rs] at h
    simp only [strsD, Option.some.injEq] at e
    rw [h, ← e]; rfl
  | .str i :: ds, vs, ns, h, e => by
    simp only [Rs] at h
    obtain ⟨v, us, q, h1, h⟩ := h
    simp only [strsD, Option.map_eq_some_iff] at e
    obtain ⟨ms, e1, e2⟩ := e
    simp only [R] at h1
    rw [q, ← e2, h1, h.strs e1]; rfl
  | .none :: ds, vs, ns, h, e => by simp [strsD] at e
  | .bool _ :: ds, vs, ns, h, e => by simp [strsD] at e
  | .int _ :: ds, vs, ns, h, e => by simp [strsD] at e
  | .list _ :: ds, vs, ns, h, e => by simp [strsD] at e
  | .tuple _ :: ds, vs, ns, h, e => by simp [strsD] at e
  | .dict _ :: ds, vs, ns, h, e => by simp [strsD] at e
theorem Rs.ofInts {O : List Addr} : ∀ ns : List Int, Rs K O H (ns.map PyData.int) (ns.map V.int)
  | [] => by simp [Rs]
  | i :: r => by
    simp only [Rs, List.map_cons]
    exact ⟨_, _, rfl, by simp [R], Rs.ofInts r⟩
theorem Rs.ofStrs {O : List Addr} : ∀ ns : List Str, Rs K O H (ns.map PyData.str) (ns.map V.str)
  | [] => by simp [Rs]
  | i :: r => by
    simp only [Rs, List.map_cons]
    exact ⟨_, _, rfl, by simp [R], Rs.ofStrs r⟩
end
/-- a value: its rule and its mirror -/
structure EX (X : Cx) (W : WX) (e : Expr) (t : TE) (F : S → Res SV) : Prop where
  pe : PE X e t
  sim : Sim X.K X.mg W (PV X.K) t F
/-- .. to be read -/
structure BX (X : Cx) (W : WX) (e : Expr) (t : TE) (F : S → Res D) : Prop where
  pe : PE X e t
  sim : Sim X.K X.mg W (PB X.K) t F
/-- .. frozen -/
structure FX (X : Cx) (W : WX) (e : Expr) (t : TE) (F : S → Res D) : Prop where
  pe : PE X e t
  sim : Sim X.K X.mg W (PF X.K) t F
/-- a test -/
structure TX (X : Cx) (W : WX) (e : Expr) (t : TT) (F : S → Res Bool) : Prop where
  pe : PT X e t
  sim : Sim X.K X.mg W (PTt X.K) t F
/-- arguments, frozen -/
structure AX (X : Cx) (W : WX) (es : List Expr) (t : TA) (F : S → Res (List D)) : Prop where
  pe : PA X es t
  sim : Sim X.K X.mg W (PL X.K) t F
section
variable {X : Cx} {W : WX} {e a b c : Expr} {ta tb tc : TE} {fa fb : S → Res D} {F : S → Res SV} {pos : Pos}
theorem EX.toF (h : EX X W e ta F) : FX X W e ta (fD F) := ⟨h.pe, h.sim.fz⟩
theorem FX.toB (h : FX X W e ta fa) : BX X W e ta fa := ⟨h.pe, h.sim.vw⟩
theorem EX.toB (h : EX X W e ta F) : BX X W e ta (fD F) := h.toF.toB
/-- frozen data as a value -/
def eD (G : S → Res D) : S → Res SV := fun r => (G r).bind fun d r => .ok (.fz d) r
theorem FX.toE (h : FX X W e ta fa) : EX X W e ta (eD fa) := by
  refine ⟨h.pe, fun γ Oc r σ H fs g => ?_⟩
  refine SimAt.bind (t2 := fun y H1 Q => Q y H1) (h.sim γ Oc r σ H fs g) fun d r1 y H1 p => ?_
  obtain ⟨fs', g', v', s⟩ := p
  exact fun Q hq => hq y H1 ⟨fs', [], g', ⟨v', rfl⟩, s, by simp⟩
def fC (d : D) : S → Res D := fun r => .ok d r
theorem simC {K : PySem.W.Frag} {mg : Str → Option Value} {v : V} {d : D} (h : ∀ O H, R K O H d v) : Sim K mg W (PF K) (tC v) (fC d) := fun γ Oc r σ H fs g Q hq =>
  hq v H ⟨fs, g, h _ _, Stp.refl _ _ _⟩
theorem fx_int {i : Int} {j} : FX X W (.Constant (.int i) j pos) (tC (.int i)) (fC (.int i)) := ⟨pe_int, simC fun _ _ => by simp [R]⟩
theorem fx_bl {i : Bool} {j} : FX X W (.Constant (.bool i) j pos) (tC (.bl i)) (fC (.bool i)) := ⟨pe_bl, simC fun _ _ => by simp [R]⟩
theorem fx_non {j} : FX X W (.Constant .none j pos) (tC .non) (fC .none) := ⟨pe_non, simC fun _ _ => by simp [R]⟩
theorem fx_str {i : Str} {j} : FX X W (.Constant (.str i) j pos) (tC (.str i)) (fC (.str i)) := ⟨pe_str, simC fun _ _ => by simp [R]⟩
/-- a module's constant -/
theorem fx_glob {x : Str} {v : V} {u : Value} {d : D} (hg : Gl X x) (hm : X.mg x = some u) (r : RelV v u) (h : ∀ K O H, R K O H d v) (hd : (x == ("__debug__" : Str)) = false := by decide) : FX X W (.Name x pos) (tC v) (fC d) :=
  ⟨pe_glob hg hm r hd, simC fun _ _ => h _ _ _⟩
/-- read -/
def gV (i : Nat) : S → Res D := fun r => match r.sl[i]? with
  | some (some x) => asD x r fun d r => .ok d r
  | _ => .bad
/-- taken: frozen from now on -/
def fV (i : Nat) : S → Res D := fun r => match r.sl[i]? with
  | some (some x) => asD x r fun d r => .ok d { r with sl := r.sl.set i (some (.fz d)) }
  | _ => .bad
theorem bx_var {i : Nat} (h : PE X e (tVar i)) : BX X W e (tVar i) (gV i) := by
  refine ⟨h, fun γ Oc r σ H fs g Q => ?_⟩
  unfold gV
  cases q : r.sl[i]? with
  | none => trivial
  | some o =>
    cases o with
    | none => trivial
    | some x =>
      unfold asD
      dsimp only
      cases e : x.view with
      | none => trivial
      | some d =>
        intro hq
        obtain ⟨v, h1, h2⟩ := g.slotE q e
        exact ⟨v, h1, hq v H ⟨fs, g, h2, Stp.refl _ _ _⟩⟩
/-- a slot is frozen -/
theorem Good.freeze {K : PySem.W.Frag} {γ : Gh} {Oc : List Addr} {r : S} {σ : St} {H : Hp} {fs : List Addr} (g : Good K γ Oc r σ H fs) {i : Nat} {x : SV} {d : D} (h : r.sl[i]? = some (some x)) (hd : x.view = some d) :
    ∃ v fs', σ[i]? = some (some v) ∧ (∀ a ∈ fs', a ∈ fs) ∧ Good K γ Oc { r with sl := r.sl.set i (some (.fz d)) } σ H fs' ∧ R K (fs' ++ Oc) H d v := by
  obtain ⟨⟨f1, f2, e, sl, tp⟩, nd, ow, tt⟩ := id g
  have hi : i < r.sl.length := (List.getElem?_eq_some_iff.mp h).1
  obtain ⟨a1, a2, a3, e2, e3, hset, _⟩ := sl.upd hi
  obtain ⟨v, e1, e3⟩ := e3 _ h
  have sub : ∀ a ∈ ((a1 ++ a3) ++ f2) ++ Oc, a ∈ fs ++ Oc := fun a z => by
    rw [e, e2]; simp only [List.mem_append] at z ⊢
    rcases z with ((z | z) | z) | z <;> simp [z]
  have ndp : (((a1 ++ a3) ++ f2) ++ Oc).Nodup := by
    refine nd.sublist ?_
    rw [e, e2]
    exact (((List.Sublist.refl a1).append (List.sublist_append_right a2 a3)).append (List.Sublist.refl f2)).append (List.Sublist.refl Oc)
  have st : Stab (fs ++ Oc) H (((a1 ++ a3) ++ f2) ++ Oc) H := Stab.weak sub fun _ _ z => z
  have out : ∀ a, a2 = [a] → a ∉ ((a1 ++ a3) ++ f2) ++ Oc := fun a q z => by
    have n := nd
    rw [e, e2, q] at n
    simp only [List.append_assoc] at n z
    have n2 := List.nodup_append.mp n
    rcases List.mem_append.mp z with z | z
    · exact n2.2.2 a z a (by simp) rfl
    · have n3 := n2.2.1
      rw [List.singleton_append] at n3
      exact (List.nodup_cons.mp n3).1 z
  have rv : R K (((a1 ++ a3) ++ f2) ++ Oc) H d v := by
    cases x with
    | fz d' => simp only [SV.view, Option.some.injEq] at hd; subst hd; exact R.stab ow st _ _ e3.1
    | ol xs =>
      simp only [SV.view, Option.some.injEq] at hd; subst hd
      obtain ⟨a, vs, q1, q2, q3, q4⟩ := e3
      simp only [R]
      exact ⟨a, vs, q1, out a q4, q2, Rs.stab ow st _ _ q3⟩
    | od xs =>
      simp only [SV.view, Option.some.injEq] at hd; subst hd
      obtain ⟨a, vs, q1, q2, q3, q4⟩ := e3
      simp only [R]
      exact ⟨a, q1, out a q4, .inl ⟨vs, .inl q2, RK.stab ow st _ _ q3⟩⟩
    | ot xs =>
      simp only [SV.view, Option.some.injEq] at hd; subst hd
      obtain ⟨a, vs, q1, q2, q3, q4⟩ := e3
      simp only [R]
      exact ⟨a, q1, out a q4, .inr (.inl ⟨vs, .inl q2, RT.stab ow st _ _ q3⟩)⟩
    | tape => simp [SV.view] at hd
    | scr => simp [SV.view] at hd
    | ob c xs =>
      simp only [SV.view, Option.some.injEq] at hd; subst hd
      obtain ⟨C, dx, vs, q1, q2, q3, q4, q5⟩ := e3
      simp only [R]
      exact ⟨_, q1, out _ q4, .inr (.inr ⟨C, dx, vs, q2, by simp only [RO']; exact ⟨trivial, ⟨c, rfl, q5⟩, RF.stab ow st _ _ q3⟩⟩)⟩
  have sl2 := hset (x := .fz d) (v := v) (f := []) ow st (fun _ _ => rfl) ⟨rv, rfl⟩
  have eσ : σ.set i (some v) = σ := by
    obtain ⟨hj, e4⟩ := List.getElem?_eq_some_iff.mp e1
    rw [← e4, List.set_getElem_self]
  rw [eσ] at sl2
  exact ⟨v, (a1 ++ a3) ++ f2, e1, fun a z => by rw [e, e2]; simp only [List.mem_append] at z ⊢; rcases z with (z | z) | z <;> simp [z], ⟨⟨a1 ++ a3, f2, rfl, sl2, tp⟩, ndp, ow.mono sub, tt⟩, rv⟩
theorem fx_var {i : Nat} (h : PE X e (tVar i)) : FX X W e (tVar i) (fV i) := by
  refine ⟨h, fun γ Oc r σ H fs g Q => ?_⟩
  unfold fV
  cases q : r.sl[i]? with
  | none => trivial
  | some o =>
    cases o with
    | none => trivial
    | some x =>
      unfold asD
      dsimp only
      cases e : x.view with
      | none => trivial
      | some d =>
        intro hq
        obtain ⟨v, fs', h1, h2, h3, h4⟩ := g.freeze q e
        exact ⟨v, h1, hq v H ⟨fs', h3, h4, h2, fun _ _ z _ _ => z, fun _ z => z, fun _ z => z⟩⟩
end
end QL
namespace QL
open PySem PySem.Spec L2
section
variable {X : Cx} {W : WX} {e a b c : Expr} {ta tb tc : TE} {fa fb fc : S → Res D} {F : S → Res SV} {pos : Pos}
def ovR (z : Option OV) (r : S) : Res SV := match z with
  | some z => .ok (ovS z) r
  | none => .bad
/-- an operation's rule answers as op says -/
def OpS (K : PySem.W.Frag) (rr : R2) (op : D → D → Option OV) : Prop :=
  ∀ (γ : Gh) (O : List Addr) (H : Hp) (x y : D) (v w : V) (z : OV) (Q : VK), Own O H → RE K γ O H x v → RE K γ O H y w → op x y = some z → OVQ K O H z Q → rr v w H Q
def fOp (op : D → D → Option OV) (fa fb : S → Res D) : S → Res SV := fun r => (fa r).bind fun x r => (fb r).bind fun y r => ovR (op x y) r
theorem sim_op {K : PySem.W.Frag} {mg : Str → Option Value} {rr : R2} {op : D → D → Option OV} (ho : OpS K rr op) (ha : Sim K mg W (PB K) ta fa) (hb : Sim K mg W (PB K) tb fb) : Sim K mg W (PV K) (tOp rr ta tb) (fOp op fa fb) := by
  intro γ Oc r σ H fs g
  refine SimAt.bind (t2 := fun x H1 Q => tb σ H1 fun y H2 => rr x y H2 Q) (ha γ Oc r σ H fs g) fun d r1 v H1 ⟨fs1, g1, v1, s1⟩ => ?_
  refine SimAt.tr s1 (SimAt.bind (t2 := fun y H2 Q => rr v y H2 Q) (hb γ Oc r1 σ H1 fs1 g1) fun d2 r2 w H2 ⟨fs2, g2, v2, s2⟩ => ?_)
  refine SimAt.tr s2 fun Q => ?_
  unfold ovR
  cases q : op d d2 with
  | none => trivial
  | some z => exact fun hq => ho γ (fs2 ++ Oc) H2 d d2 v w z Q g2.ow (v1.keep g1 s2) v2 q (ovq_of g2 hq)
theorem ex_op {op : D → D → Option OV} {o : Operator} {rr : R2} (ho : OpR X (binaryOp o) rr) (hs : OpS X.K rr op) (ha : BX X W a ta fa) (hb : BX X W b tb fb) : EX X W (.BinOp a o b pos) (tOp rr ta tb) (fOp op fa fb) :=
  ⟨pe_op ho ha.pe hb.pe, sim_op hs ha.sim hb.sim⟩
theorem ex_cmp {op : D → D → Option OV} {o : CmpOp} {rr : R2} (ho : OpR X (compareOp o) rr) (hs : OpS X.K rr op) (ha : BX X W a ta fa) (hb : BX X W b tb fb) (hm : behindInMarks o b = false) : EX X W (.Compare a [o] [b] pos) (tOp rr ta tb) (fOp op fa fb) :=
  ⟨pe_cmpR ho ha.pe hb.pe hm, sim_op hs ha.sim hb.sim⟩
theorem OpR.or {f : Value → Value → Sem Value} {r1 r2 : R2} (h1 : OpR X f r1) (h2 : OpR X f r2) : OpR X f (fun x y H Q => r1 x y H Q ∨ r2 x y H Q) := fun pins s σ H x y v u Q I rx ry h => by
  rcases h with h | h
  · exact h1 pins s σ H x y v u Q I rx ry h
  · exact h2 pins s σ H x y v u Q I rx ry h
end
def tx (l : List Nat) : Str := ⟨l.toArray⟩
theorem tx_cps (l : List Nat) : (tx l).cps.toList = l := rfl
theorem tx_len (l : List Nat) : (tx l).length = l.length := by simp [tx, Str.length]
theorem Str.tx (x : Str) : x = tx x.cps.toList := by cases x; rfl
def dAdd : D → D → Option OV
  | .int i, .int j => some (.fz (.int (i + j)))
  | .str x, .str y => if x.length + y.length ≤ sizeLine then some (.fz (.str (x ++ y))) else none
  | .list x, .list y => if x.length + y.length ≤ sizeLine then some (.nl (x ++ y)) else none
  | .tuple x, .tuple y => if x.length + y.length ≤ sizeLine then (if x.length = 0 then some (.fz (.tuple y)) else if y.length = 0 then some (.fz (.tuple x)) else some (.nt (x ++ y))) else none
  | _, _ => none
def rAdd (K : PySem.W.Frag) : R2 := fun x y H Q => (rI0 (fun i j => .int (i + j))) x y H Q ∨ (∃ i j, x = .str i ∧ y = .str j ∧ i.length + j.length ≤ sizeLine ∧ Q (.str (i ++ j)) H) ∨ rCat x y H Q ∨ rCatA K x y H Q
theorem op_addA {X : Cx} : OpR X (binaryOp .Add) (rAdd X.K) := OpR.or op_add (OpR.or op_add_str (OpR.or op_cat op_catA))
theorem ops_add {K : PySem.W.Frag} : OpS K (rAdd K) dAdd := by
  intro γ O H x y v w z Q ow hx hy e hq
  unfold dAdd at e
  split at e
  · rename_i i j
    cases e
    simp only [RE, R] at hx hy
    exact .inl ⟨i, j, hx, hy, hq _ (by simp [R])⟩
  · rename_i i j
    split at e
    · rename_i hl
      cases e
      simp only [RE, R] at hx hy
      exact .inr (.inl ⟨i, j, hx, hy, hl, hq _ (by simp [R])⟩)
    · cases e
  · rename_i i j
    split at e
    · rename_i hl
      cases e
      obtain ⟨a, vs, q1, n1, q2, q3⟩ := hx
      obtain ⟨a', vs', q1', n1', q2', q3'⟩ := hy
      exact .inr (.inr (.inl ⟨a, a', vs, vs', q1, q1', q2, q2', by rw [q3.len, q3'.len]; exact hl, fun p hp => hq p _ hp (q3.app q3')⟩))
    · cases e
  · rename_i i j
    split at e
    · rename_i hl
      simp only [RE, R] at hx hy
      obtain ⟨a, vs, q1, q2, q3⟩ := id hx
      obtain ⟨a', vs', q1', q2', q3'⟩ := id hy
      have l1 := q3.len
      have l2 := q3'.len
      refine .inr (.inr (.inr ⟨a, a', vs, vs', q1, q1', TupAt.sq q2, TupAt.sq q2', by rw [l1, l2]; exact hl, fun h => ?_, fun h h' => ?_, fun h h' p hp => ?_⟩))
      · subst h
        rw [if_pos (by rw [← l1]; rfl)] at e
        cases e
        rw [← q1']
        exact hq _ (by simp only [R]; exact hy)
      · subst h'
        rw [if_neg (by rw [← l1]; exact fun z => h (List.length_eq_zero_iff.mp z)), if_pos (by rw [← l2]; rfl)] at e
        cases e
        rw [← q1]
        exact hq _ (by simp only [R]; exact hx)
      · rw [if_neg (by rw [← l1]; exact fun z => h (List.length_eq_zero_iff.mp z)), if_neg (by rw [← l2]; exact fun z => h' (List.length_eq_zero_iff.mp z))] at e
        cases e
        exact hq p _ hp (q3.app q3')
    · cases e
  · cases e
def dSub : D → D → Option OV
  | .int i, .int j => some (.fz (.int (i - j)))
  | _, _ => none
/-- bits of an int -/
abbrev bitsI (i : Int) : Nat := Builtin.Int.intBits i
def dMul : D → D → Option OV
  | .int i, .int j => if bitsI i + bitsI j ≤ 134217728 then some (.fz (.int (i * j))) else none
  | .str x, .int n => if x.length * n.toNat ≤ sizeLine ∧ -(2 ^ 40) < n ∧ n < 2 ^ 40 then some (.fz (.str (tx (List.replicate n.toNat x.cps.toList).flatten))) else none
  | .list x, .int n => if x.length * n.toNat ≤ sizeLine ∧ -(2 ^ 40) < n ∧ n < 2 ^ 40 then some (.nl (List.replicate n.toNat x).flatten) else none
  | _, _ => none
def CMulB (i j : Int) : Prop := bitsI i + bitsI j ≤ 134217728
theorem CMulB.ok {i j : Int} (h : CMulB i j) : IntMulOk i j := PyProof.Rows.mulOk_of_bits (Nat.le_refl _) (Nat.le_refl _) h
theorem op_mulB {X : Cx} : OpR X (binaryOp .Mult) (rI CMulB fun i j => .int (i * j)) := opI fun _ _ _ _ _ _ _ hc q => PyProof.Rows.mul_int q hc.ok
def rMulS : R2 := fun x y H Q => ∃ z n, x = .str z ∧ y = .int n ∧ (z.length * n.toNat ≤ sizeLine ∧ -(2 ^ 40) < n ∧ n < 2 ^ 40) ∧ Q (.str (tx (List.replicate n.toNat z.cps.toList).flatten)) H
theorem foldl_app (x : Array Nat) : ∀ (n : Nat) (acc : Array Nat), ((List.replicate n x).foldl (· ++ ·) acc).toList = acc.toList ++ (List.replicate n x.toList).flatten
  | 0, acc => by simp
  | n + 1, acc => by
    rw [List.replicate_succ, List.foldl_cons, foldl_app x n, List.replicate_succ, List.flatten_cons, Array.toList_append, List.append_assoc]
theorem mul_tx (x : Str) (n : Int) : Txt.mul x n = tx (List.replicate n.toNat x.cps.toList).flatten := by
  unfold Txt.mul
  split
  · rename_i h
    have : n.toNat = 0 := by omega
    rw [this]; rfl
  · rename_i h
    split
    · rename_i h2
      simp only [Bool.or_eq_true, beq_iff_eq] at h2
      rcases h2 with h2 | h2
      · rw [h2]
        simp only [Int.toNat_one, List.replicate_one, List.flatten_cons, List.flatten_nil, List.append_nil]
        exact Str.tx x
      · have e : x.cps.toList = [] := by
          have : x.cps.size = 0 := h2
          simpa using this
        rw [e]
        have e3 : ∀ k : Nat, (List.replicate k ([] : List Nat)).flatten = [] := fun k => by induction k with
          | zero => rfl
          | succ k ih => rw [List.replicate_succ, List.flatten_cons, ih]; rfl
        rw [e3, ← e]
        exact Str.tx x
    · have e := foldl_app x.cps n.toNat #[]
      simp only [List.nil_append] at e
      unfold tx
      rw [← e]
theorem op_mulS {X : Cx} : OpR X (binaryOp .Mult) rMulS := by
  intro pins s σ H x y v u Q I rx ry h
  obtain ⟨z, n, rfl, rfl, ⟨h1, h2, h3⟩, q⟩ := h
  obtain ⟨t, rfl⟩ := rx
  obtain ⟨t', rfl⟩ := ry
  have hz : sizeLine = 16777216 := by decide
  refine PySem.SB.mul ⟨?_, fun a b => ?_, fun a b => ?_⟩ fun tk k => ⟨.str _, H, I.tok _, ⟨_, rfl⟩, by rw [mul_tx]; exact q⟩
  · simp only [Bool.or_eq_false_iff, decide_eq_false_iff_not]
    have e : (2 : Int) ^ 63 = 9223372036854775808 := by decide
    have e2 : (2 : Int) ^ 40 = 1099511627776 := by decide
    rw [e2] at h2 h3
    rw [e]
    omega
  · intro hh
    have n1 : 1 ≤ n := by omega
    have e : ((2 : Int) ^ 63 - 1) = 9223372036854775807 := by decide
    rw [e] at hh
    have h4 : (z.length : Int) * n ≤ 16777216 := by
      have : (z.length * n.toNat : Nat) ≤ 16777216 := by rw [← hz]; exact h1
      have e5 : ((z.length * n.toNat : Nat) : Int) = (z.length : Int) * n := by
        rw [Int.natCast_mul, Int.toNat_of_nonneg (by omega)]
      omega
    have h6 : (z.length : Int) ≤ 9223372036854775807 / n := by
      refine (Int.le_ediv_iff_mul_le (by omega)).mpr ?_
      omega
    omega
  · unfold Builtin.Str.tooLong
    have : z.length * n.toNat ≤ 16777216 := by rw [← hz]; exact h1
    first
      | (simp only [decide_eq_false_iff_not]; omega)
      | (simp only [decide_eq_false_iff_not]; rw [hz]; omega)
      | simp [hz]; omega
def rMul : R2 := fun x y H Q => (rI CMulB fun i j => .int (i * j)) x y H Q ∨ rMulS x y H Q ∨ rRep x y H Q
theorem op_mulA {X : Cx} : OpR X (binaryOp .Mult) rMul := OpR.or op_mulB (OpR.or op_mulS op_rep)
theorem RE.tracked {K : PySem.W.Frag} {γ : Gh} {O : List Addr} {H : Hp} {ds : List D} {v : V} (h : RE K γ O H (.list ds) v) : ∃ a vs, v = .ref a ∧ H a = some (.lst vs) ∧ Rs K O H ds vs := by
  obtain ⟨a, vs, e, n, q, h⟩ := h
  exact ⟨a, vs, e, q, h⟩
end QL
namespace QM
open PySem PySem.Spec L2 QL
theorem txl {l : List Nat} : (tx l).length = l.length := tx_len l
theorem txc {l : List Nat} : (tx l).cps = l.toArray := rfl
theorem subAt_tx (l m : List Nat) (i : Nat) : Builtin.Str.subAt (tx l) (tx m) i = decide ((l.drop i).take m.length = m) := by
  unfold Builtin.Str.subAt
  rw [Bool.eq_iff_iff, beq_iff_eq, decide_eq_true_eq]
  have e1 : (tx l).cps.extract i (i + (tx m).length) = ((l.drop i).take m.length).toArray := by
    rw [txl, txc, List.extract_toArray, List.extract_eq_take_drop]
    congr 2
    omega
  rw [e1, txc]
  constructor
  · intro h
    have := congrArg Array.toList h
    simpa using this
  · intro h; rw [h]
theorem take1 {l : List Nat} {i c : Nat} : (l.drop i).take 1 = [c] ↔ l[i]? = some c := by
  rw [← List.head?_drop]
  cases l.drop i with
  | nil => simp
  | cons a r => simp
def occP (s sub : Str) (hi : Nat) (i : Nat) : Bool := decide (i + sub.length ≤ hi) && Builtin.Str.subAt s sub i
theorem occ_full (s sub : Str) (hi x f : Nat) : ∀ l : List Nat, (forIn l ((#[x] : Array Nat), f) (StrLaws.occBody s sub hi 1)).run.fst = #[x]
  | [] => rfl
  | a :: l => by
    rw [List.forIn_cons]
    unfold StrLaws.occBody
    have c : ¬ (((((#[x] : Array Nat), f).fst.size < 1 ∧ ((#[x] : Array Nat), f).snd ≤ a) ∧ a + sub.length ≤ hi) ∧ Builtin.Str.subAt s sub a = true) := fun h => by
      have := h.1.1.1
      simp at this
    rw [if_neg c]
    exact occ_full s sub hi x f l
theorem occ_first (s sub : Str) (hi : Nat) : ∀ (l : List Nat) (free : Nat), (∀ i ∈ l, free ≤ i) → (forIn l ((#[] : Array Nat), free) (StrLaws.occBody s sub hi 1)).run.fst.toList = (l.find? (occP s sub hi)).toList
  | [], free, _ => rfl
  | a :: l, free, h => by
    rw [List.forIn_cons, List.find?_cons]
    have ha := h a List.mem_cons_self
    by_cases hp : occP s sub hi a = true
    · rw [hp]
      unfold occP at hp
      simp only [Bool.and_eq_true, decide_eq_true_eq] at hp
      unfold StrLaws.occBody
      rw [if_pos ⟨⟨⟨by simp, ha⟩, hp.1⟩, hp.2⟩]
      show (forIn l ((#[].push a : Array Nat), a + sub.length) (StrLaws.occBody s sub hi 1)).run.fst.toList = _
      rw [show (#[].push a : Array Nat) = #[a] from rfl, occ_full]
      rfl
    · rw [Bool.not_eq_true] at hp
      rw [hp]
      have c : ¬ (((((#[] : Array Nat), free).fst.size < 1 ∧ ((#[] : Array Nat), free).snd ≤ a) ∧ a + sub.length ≤ hi) ∧ Builtin.Str.subAt s sub a = true) := fun h => by
        unfold occP at hp
        rw [decide_eq_true h.1.2, h.2] at hp
        cases hp
      unfold StrLaws.occBody
      rw [if_neg c]
      exact occ_first s sub hi l free fun i hi' => h i (List.mem_cons_of_mem _ hi')
theorem occ1 (s sub : Str) (lo hi : Nat) : Builtin.Str.occurrences s sub lo hi 1 = ((List.range' lo (hi + 1 - lo)).find? (occP s sub hi)).toList := by
  rw [StrLaws.occ_eq]
  exact occ_first s sub hi _ lo fun i h => (List.mem_range'_1.mp h).1
theorem last_eq (s sub : Str) (lo hi : Nat) : Builtin.Str.lastOccurrence s sub lo hi = (List.range' lo (hi + 1 - lo)).foldl (fun acc i => if occP s sub hi i = true then some i else acc) none := by
  unfold Builtin.Str.lastOccurrence
  simp only [Std.Legacy.Range.forIn_eq_forIn_range', Std.Legacy.Range.size]
  have e : (hi + 1 - lo + 1 - 1) / 1 = hi + 1 - lo := by omega
  rw [e]
  have gen : ∀ (l : List Nat) (acc : Option Nat), (forIn (m := Id) l acc fun i r => do
      if i + sub.length ≤ hi ∧ Builtin.Str.subAt s sub i = true then pure (ForInStep.yield (some i)) else pure (ForInStep.yield r)).run = l.foldl (fun acc i => if occP s sub hi i = true then some i else acc) acc := by
    intro l
    induction l with
    | nil => intro acc; rfl
    | cons a l ih =>
      intro acc
      rw [List.forIn_cons, List.foldl_cons]
      unfold occP
      by_cases h : a + sub.length ≤ hi ∧ Builtin.Str.subAt s sub a = true
      · rw [if_pos h, if_pos (by simp [h])]
        exact ih (some a)
      · rw [if_neg h, if_neg (by simpa using h)]
        exact ih acc
  have := gen (List.range' lo (hi + 1 - lo)) none
  simp at this ⊢
  exact this
/-- the first c from s on -/
def nxt (l : List Nat) (c s : Nat) : Option Nat := (List.range' s (l.length + 1 - s)).find? fun i => decide (l[i]? = some c)
/-- the last c ahead of n -/
def prv (l : List Nat) (c : Nat) : Nat → Option Nat
  | 0 => none
  | n + 1 => if l[n]? = some c then some n else prv l c n
def optI : Option Nat → Int
  | some k => (k : Int)
  | none => -1
theorem occP_one (l : List Nat) (c hi i : Nat) : occP (tx l) (tx [c]) hi i = (decide (i + 1 ≤ hi) && decide (l[i]? = some c)) := by
  unfold occP
  rw [subAt_tx]
  have : ((l.drop i).take [c].length = [c]) = (l[i]? = some c) := propext take1
  simp only [this]
  rfl
theorem find3_one (l : List Nat) (c : Nat) (i : Int) (h : 0 ≤ i) : Txt.find3 (tx l) (tx [c]) i = optI (nxt l c i.toNat) := by
  have ef : fromIndex (tx l).length i = i.toNat := by
    unfold fromIndex
    rw [if_neg (by omega)]
    omega
  have eo : Builtin.Str.occurrences (tx l) (tx [c]) i.toNat (tx l).length 1 = (nxt l c i.toNat).toList := by
    rw [occ1, txl]
    unfold nxt
    congr 2
    funext k
    rw [occP_one]
    by_cases hk : l[k]? = some c
    · have := (List.getElem?_eq_some_iff.mp hk).1
      simp [hk]; omega
    · simp [hk]
  unfold Txt.find3
  rw [ef, eo]
  cases nxt l c i.toNat <;> rfl
theorem nxt_some {l : List Nat} {c s k : Nat} (h : nxt l c s = some k) : s ≤ k ∧ l[k]? = some c ∧ ∀ j, s ≤ j → j < k → l[j]? ≠ some c := by
  unfold nxt at h
  have hm := List.mem_of_find?_eq_some h
  have hp := List.find?_some h
  simp only [decide_eq_true_eq] at hp
  refine ⟨(List.mem_range'_1.mp hm).1, hp, fun j h1 h2 e => ?_⟩
  obtain ⟨_, as, bs, e1, e2⟩ := List.find?_eq_some_iff_append.mp h
  have hk := (List.mem_range'_1.mp hm).2
  have hj : j ∈ as := by
    have hlen : as.length = k - s := by
      have g1 : (List.range' s (l.length + 1 - s))[as.length]? = some k := by rw [e1]; simp
      rw [List.getElem?_range'] at g1
      · simp at g1; omega
      · have := congrArg List.length e1
        simp at this
        omega
    have g2 : (List.range' s (l.length + 1 - s))[j - s]? = some j := by
      rw [List.getElem?_range' (by omega)]
      simp; omega
    rw [e1, List.getElem?_append_left (by omega)] at g2
    exact List.mem_of_getElem? g2
  have := e2 j hj
  simp [e] at this
theorem nxt_none {l : List Nat} {c s : Nat} (h : nxt l c s = none) : ∀ j, s ≤ j → l[j]? ≠ some c := fun j hj e => by
  unfold nxt at h
  have := List.find?_eq_none.mp h j (List.mem_range'_1.mpr ⟨hj, by have := (List.getElem?_eq_some_iff.mp e).1; omega⟩)
  simp [e] at this
theorem nxt_is {l : List Nat} {c s k : Nat} (h1 : s ≤ k) (h2 : l[k]? = some c) (h3 : ∀ j, s ≤ j → j < k → l[j]? ≠ some c) : nxt l c s = some k := by
  cases e : nxt l c s with
  | none => exact absurd h2 (nxt_none e k h1)
  | some q =>
    obtain ⟨a, b, d⟩ := nxt_some e
    rcases Nat.lt_trichotomy q k with z | z | z
    · exact absurd b (h3 q a z)
    · rw [z]
    · exact absurd h2 (d k h1 z)
theorem prv_some {l : List Nat} {c : Nat} : ∀ {n k : Nat}, prv l c n = some k → k < n ∧ l[k]? = some c ∧ ∀ j, k < j → j < n → l[j]? ≠ some c
  | 0, k, h => by simp [prv] at h
  | n + 1, k, h => by
    unfold prv at h
    split at h
    · rename_i e
      cases h
      exact ⟨Nat.lt_succ_self _, e, fun j a b => by omega⟩
    · rename_i e
      obtain ⟨a, b, d⟩ := prv_some h
      refine ⟨by omega, b, fun j h1 h2 => ?_⟩
      by_cases hj : j = n
      · rw [hj]; exact e
      · exact d j h1 (by omega)
theorem prv_none {l : List Nat} {c : Nat} : ∀ {n : Nat}, prv l c n = none → ∀ j, j < n → l[j]? ≠ some c
  | 0, h, j, hj => by omega
  | n + 1, h, j, hj => by
    unfold prv at h
    split at h
    · cases h
    · rename_i e
      by_cases hjn : j = n
      · rw [hjn]; exact e
      · exact prv_none h j (by omega)
theorem rfind_one (l : List Nat) (c : Nat) (j : Int) (h : 0 ≤ j) (hj : j ≤ l.length) : Txt.rfindIn (tx l) (tx [c]) 0 j = optI (prv l c j.toNat) := by
  have e1 : fromIndex (tx l).length 0 = 0 := by simp [fromIndex]
  have e2 : toIndexW (tx l).length j = j.toNat := by
    unfold toIndexW
    rw [if_neg (by omega), txl]
    omega
  have gen : ∀ n m : Nat, m ≤ n + 1 → (List.range' 0 m).foldl (fun acc i => if occP (tx l) (tx [c]) n i = true then some i else acc) none = prv l c (min m n) := by
    intro n m
    induction m with
    | zero => intro _; simp [prv]
    | succ m ih =>
      intro hm
      rw [List.range'_concat, List.foldl_append, ih (by omega)]
      simp only [List.foldl_cons, List.foldl_nil, occP_one, Nat.one_mul, Nat.zero_add]
      by_cases hmn : m + 1 ≤ n
      · rw [Nat.min_eq_left hmn, Nat.min_eq_left (by omega)]
        simp [prv, hmn]
      · rw [Nat.min_eq_right (by omega), Nat.min_eq_right (by omega)]
        simp [hmn]
  have eo : Builtin.Str.lastOccurrence (tx l) (tx [c]) 0 j.toNat = prv l c j.toNat := by
    rw [last_eq, Nat.sub_zero, gen _ _ (Nat.le_refl _), Nat.min_eq_right (Nat.le_succ _)]
  unfold Txt.rfindIn
  rw [e1, e2, eo]
  cases prv l c j.toNat <;> rfl
def nxtF : List Nat → Nat → Nat → Option Nat
  | [], _, _ => none
  | a :: r, c, k => if a = c then some k else nxtF r c (k + 1)
theorem nxtF_some : ∀ {l : List Nat} {c k j : Nat}, nxtF l c k = some j → k ≤ j ∧ l[j - k]? = some c ∧ ∀ i, i < j - k → l[i]? ≠ some c
  | [], c, k, j, h => by simp [nxtF] at h
  | a :: r, c, k, j, h => by
    unfold nxtF at h
    split at h
    · rename_i e
      cases h
      refine ⟨Nat.le_refl _, by simp [e], fun i hi => by omega⟩
    · rename_i e
      obtain ⟨h1, h2, h3⟩ := nxtF_some h
      refine ⟨by omega, ?_, fun i hi => ?_⟩
      · rw [show j - k = j - (k + 1) + 1 by omega]; simpa using h2
      · cases i with
        | zero => simpa using e
        | succ i => simpa using h3 i (by omega)
theorem nxtF_none : ∀ {l : List Nat} {c k : Nat}, nxtF l c k = none → ∀ i : Nat, l[i]? ≠ some c
  | [], c, k, h, i => by simp
  | a :: r, c, k, h, i => by
    unfold nxtF at h
    split at h
    · cases h
    · rename_i e
      cases i with
      | zero => simpa using e
      | succ i => simpa using nxtF_none h i
theorem nxt_fast (l : List Nat) (c s : Nat) : nxt l c s = nxtF (l.drop s) c s := by
  cases e : nxtF (l.drop s) c s with
  | none =>
    cases q : nxt l c s with
    | none => rfl
    | some k =>
      obtain ⟨h1, h2, _⟩ := nxt_some q
      have := nxtF_none e (k - s)
      rw [List.getElem?_drop, show s + (k - s) = k by omega] at this
      exact absurd h2 this
  | some k =>
    obtain ⟨h1, h2, h3⟩ := nxtF_some e
    rw [List.getElem?_drop, show s + (k - s) = k by omega] at h2
    refine nxt_is h1 h2 fun j a b => ?_
    have := h3 (j - s) (by omega)
    rw [List.getElem?_drop, show s + (j - s) = j by omega] at this
    exact this
def lastF : List Nat → Nat → Nat → Nat → Option Nat → Option Nat
  | _, _, _, 0, acc => acc
  | [], _, _, _, acc => acc
  | a :: r, c, k, n + 1, acc => lastF r c (k + 1) n (if a = c then some k else acc)
theorem lastF_eq (l : List Nat) (c : Nat) : ∀ (r : List Nat) (k n : Nat), l.drop k = r → n ≤ r.length → lastF r c k n (prv l c k) = prv l c (k + n)
  | r, k, 0, _, _ => by cases r <;> rfl
  | [], k, n + 1, _, h => by simp at h
  | a :: r, k, n + 1, e, h => by
    have ek : l[k]? = some a := by
      have := congrArg List.head? e
      rw [List.head?_drop] at this
      simpa using this
    have er : l.drop (k + 1) = r := by
      have := congrArg (List.drop 1) e
      rw [List.drop_drop] at this
      simpa using this
    have ep : (if a = c then some k else prv l c k) = prv l c (k + 1) := by
      conv => rhs; unfold prv
      rw [ek]
      by_cases q : a = c
      · rw [if_pos q, if_pos (by rw [q])]
      · rw [if_neg q, if_neg (by simpa using q)]
    show lastF r c (k + 1) n (if a = c then some k else prv l c k) = _
    rw [ep, lastF_eq l c r (k + 1) n er (by simpa using h)]
    congr 1
    omega
theorem prv_fast (l : List Nat) (c n : Nat) (h : n ≤ l.length) : prv l c n = lastF l c 0 n none := by
  have := lastF_eq l c l 0 n (by simp) h
  rw [show prv l c 0 = none from rfl, Nat.zero_add] at this
  exact this.symm
def find3f (a b : Str) (i : Int) : Int := match b.cps.toList with
  | [c] => if 0 ≤ i then optI (nxtF (a.cps.toList.drop i.toNat) c i.toNat) else Txt.find3 a b i
  | _ => Txt.find3 a b i
theorem find3f_eq (a b : Str) (i : Int) : find3f a b i = Txt.find3 a b i := by
  unfold find3f
  split
  · rename_i c e
    split
    · rename_i h
      have ea := Str.tx a
      have eb := Str.tx b
      rw [e] at eb
      rw [← nxt_fast, ← find3_one _ _ _ h, ← ea, ← eb]
    · rfl
  · rfl
def rfind4f (a b : Str) (i j : Int) : Int := match b.cps.toList with
  | [c] => if i = 0 ∧ 0 ≤ j ∧ j ≤ a.cps.toList.length then optI (lastF a.cps.toList c 0 j.toNat none) else Txt.rfindIn a b i j
  | _ => Txt.rfindIn a b i j
theorem rfind4f_eq (a b : Str) (i j : Int) : rfind4f a b i j = Txt.rfindIn a b i j := by
  unfold rfind4f
  split
  · rename_i c e
    split
    · rename_i h
      obtain ⟨h1, h2, h3⟩ := h
      have ea := Str.tx a
      have eb := Str.tx b
      rw [e] at eb
      subst h1
      rw [← prv_fast _ _ _ (by omega), ← rfind_one _ _ _ h2 h3, ← ea, ← eb]
    · rfl
  · rfl
def inF (x z : Str) : Bool := match x.cps.toList with
  | [c] => z.cps.toList.any fun d => decide (d = c)
  | _ => !(Builtin.Str.occurrences z x 0 z.length 1).isEmpty
theorem inF_eq (x z : Str) : inF x z = !(Builtin.Str.occurrences z x 0 z.length 1).isEmpty := by
  unfold inF
  split
  · rename_i c e
    have eb := Str.tx x
    rw [e] at eb
    rw [eb]
    refine Eq.trans ?_ (StrLaws.found_one z c).symm
    rw [Bool.eq_iff_iff, List.any_eq_true, decide_eq_true_eq]
    constructor
    · rintro ⟨d, hd, q⟩
      have q := of_decide_eq_true q
      rw [← q]; exact hd
    · intro h
      exact ⟨c, h, decide_eq_true rfl⟩
  · rfl
end QM
namespace QE
open PySem PySem.SeqAt
theorem dict_eq_declines_str (l : Addr) (es : Array DictEntry) (n : Nat) (dd : Option Addr) (sl : Array (Option Value)) (b : Str) (u : Tok) :
    Meets (Builtin.«dict.__eq__» ⟨[.ref l, .str b u], []⟩) (fun _ R s => s.heap.get? l = some { cls := .type "dict", dict := dd, data := .dict es n, slots := sl } ∧ R (.ok (.ret .notImplemented)) s) :=
  .of_wp fun prog w A R s h => by obtain ⟨hp, g, d, tk, os⟩ := s; obtain ⟨hl, h⟩ := h; have f1 := F.sub_str_dict; wp_walk using wpAny_loadPart' hl; exact ⟨_, rfl, h⟩
theorem str_eq_declines_dict (b : Str) (u : Tok) (l : Addr) (c : Value) (es : Array DictEntry) (n : Nat) (dd : Option Addr) (sl : Array (Option Value)) :
    Meets (Builtin.«str.__eq__» ⟨[.str b u, .ref l], []⟩) (fun _ R s => s.heap.get? l = some { cls := c, dict := dd, data := .dict es n, slots := sl } ∧ R (.ok (.ret .notImplemented)) s) :=
  .of_wp fun prog w A R s h => by obtain ⟨hp, g, d, tk, os⟩ := s; obtain ⟨hl, h⟩ := h; wp_walk using wpAny_loadPart' hl, wpAny_load hl; exact ⟨_, rfl, h⟩
theorem dict_ne_declines_str (l : Addr) (es : Array DictEntry) (n : Nat) (dd : Option Addr) (sl : Array (Option Value)) (b : Str) (u : Tok) :
    Meets (Builtin.«dict.__ne__» ⟨[.ref l, .str b u], []⟩) (fun _ R s => s.heap.get? l = some { cls := .type "dict", dict := dd, data := .dict es n, slots := sl } ∧ R (.ok (.ret .notImplemented)) s) :=
  .of_wp fun prog w A R s h => by obtain ⟨hp, g, d, tk, os⟩ := s; obtain ⟨hl, h⟩ := h; have f1 := F.sub_str_dict; wp_walk using wpAny_loadPart' hl; exact ⟨_, rfl, h⟩
theorem str_ne_declines_dict (b : Str) (u : Tok) (l : Addr) (c : Value) (es : Array DictEntry) (n : Nat) (dd : Option Addr) (sl : Array (Option Value)) :
    Meets (Builtin.«str.__ne__» ⟨[.str b u, .ref l], []⟩) (fun _ R s => s.heap.get? l = some { cls := c, dict := dd, data := .dict es n, slots := sl } ∧ R (.ok (.ret .notImplemented)) s) :=
  .of_wp fun prog w A R s h => by obtain ⟨hp, g, d, tk, os⟩ := s; obtain ⟨hl, h⟩ := h; wp_walk using wpAny_loadPart' hl, wpAny_load hl; exact ⟨_, rfl, h⟩
variable {A : Around} {s : Shared} {l : Addr} {es : Array DictEntry} {n : Nat} {dd : Option Addr} {sl : Array (Option Value)}
theorem rc_dict_str (b : Str) (u : Tok) (ho : s.heap.get? l = some { cls := .type "dict", dict := dd, data := .dict es n, slots := sl }) (hu : A.units < cLine) : RcAt A s (.ref l) (.str b u) false := fun prog w E Q h =>
  rc_eq_decline_or (k := false) ⟨_, ho, rfl⟩ (typeIs_str s b u) (by decide) F.sub_str_dict F.slot_dict_eq F.slot_str_eq_refl
    (fun _ hq => call_meets F.slot_dict_eq ⟨_, ho, rfl⟩ F.entry_dict_eq (F.args_dict_eq_2 _ _) (dict_eq_declines_str l es n dd sl b u) ⟨ho, hq⟩)
    (fun _ hq => call_meets F.slot_str_eq_refl (typeIs_str s b u) F.entry_str_eq (F.args_str_eq_2 _ _) (str_eq_declines_dict b u l (.type "dict") es n dd sl) ⟨ho, hq⟩)
    (fun _ hq => wpAny_of_eq (rfl : isSame (.ref l) (.str b u) = pure false) hq) (.inr hu) h
theorem rc_str_dict (b : Str) (u : Tok) (ho : s.heap.get? l = some { cls := .type "dict", dict := dd, data := .dict es n, slots := sl }) (hu : A.units < cLine) : RcAt A s (.str b u) (.ref l) false := fun prog w E Q h =>
  rc_eq_decline_or (k := false) (typeIs_str s b u) ⟨_, ho, rfl⟩ (by decide) F.sub_dict_str F.slot_str_eq F.slot_dict_eq_refl
    (fun _ hq => call_meets F.slot_str_eq (typeIs_str s b u) F.entry_str_eq (F.args_str_eq_2 _ _) (str_eq_declines_dict b u l (.type "dict") es n dd sl) ⟨ho, hq⟩)
    (fun _ hq => call_meets F.slot_dict_eq_refl ⟨_, ho, rfl⟩ F.entry_dict_eq (F.args_dict_eq_2 _ _) (dict_eq_declines_str l es n dd sl b u) ⟨ho, hq⟩)
    (fun _ hq => wpAny_of_eq (rfl : isSame (.str b u) (.ref l) = pure false) hq) (.inr hu) h
theorem rn_dict_str (b : Str) (u : Tok) (ho : s.heap.get? l = some { cls := .type "dict", dict := dd, data := .dict es n, slots := sl }) (hu : A.units < cLine) : RcNeAt A s (.ref l) (.str b u) true := fun prog w E Q h =>
  rc_ne_decline_or (k := false) ⟨_, ho, rfl⟩ (typeIs_str s b u) (by decide) F.sub_str_dict F.slot_dict_ne F.slot_str_ne_refl
    (fun _ hq => call_meets F.slot_dict_ne ⟨_, ho, rfl⟩ F.entry_dict_ne (F.args_dict_ne_2 _ _) (dict_ne_declines_str l es n dd sl b u) ⟨ho, hq⟩)
    (fun _ hq => call_meets F.slot_str_ne_refl (typeIs_str s b u) F.entry_str_ne (F.args_str_ne_2 _ _) (str_ne_declines_dict b u l (.type "dict") es n dd sl) ⟨ho, hq⟩)
    (fun _ hq => wpAny_of_eq (rfl : isSame (.ref l) (.str b u) = pure false) hq) (.inr hu) h
theorem rn_str_dict (b : Str) (u : Tok) (ho : s.heap.get? l = some { cls := .type "dict", dict := dd, data := .dict es n, slots := sl }) (hu : A.units < cLine) : RcNeAt A s (.str b u) (.ref l) true := fun prog w E Q h =>
  rc_ne_decline_or (k := false) (typeIs_str s b u) ⟨_, ho, rfl⟩ (by decide) F.sub_dict_str F.slot_str_ne F.slot_dict_ne_refl
    (fun _ hq => call_meets F.slot_str_ne (typeIs_str s b u) F.entry_str_ne (F.args_str_ne_2 _ _) (str_ne_declines_dict b u l (.type "dict") es n dd sl) ⟨ho, hq⟩)
    (fun _ hq => call_meets F.slot_dict_ne_refl ⟨_, ho, rfl⟩ F.entry_dict_ne (F.args_dict_ne_2 _ _) (dict_ne_declines_str l es n dd sl b u) ⟨ho, hq⟩)
    (fun _ hq => wpAny_of_eq (rfl : isSame (.str b u) (.ref l) = pure false) hq) (.inr hu) h
end QE
namespace QL
open PySem PySem.Spec L2
theorem ops_mul {K : PySem.W.Frag} : OpS K rMul dMul := by
  intro γ O H x y v w z Q ow hx hy e hq
  unfold dMul at e
  split at e
  · rename_i i j
    split at e
    · rename_i hl
      cases e
      simp only [RE, R] at hx hy
      exact .inl ⟨i, j, hx, hy, hl, hq _ (by simp [R])⟩
    · cases e
  · rename_i i j
    split at e
    · rename_i hl
      cases e
      simp only [RE, R] at hx hy
      exact .inr (.inl ⟨i, j, hx, hy, hl, hq _ (by simp [R])⟩)
    · cases e
  · rename_i i j
    split at e
    · rename_i hl
      cases e
      obtain ⟨a, vs, q1, q2, q3⟩ := hx.tracked
      simp only [RE, R] at hy
      have e2 : (2 : Int) ^ 40 = 1099511627776 := by decide
      have e3 : (2 : Int) ^ 63 = 9223372036854775808 := by decide
      obtain ⟨h1, h2, h3⟩ := hl
      rw [e2] at h2 h3
      exact .inr (.inr ⟨a, j, vs, q1, hy, q2, by rw [e3]; omega, by rw [e3]; omega, by rw [q3.len]; exact h1, fun p hp => hq p _ hp (q3.rep _)⟩)
    · cases e
  · cases e
def dFdiv : D → D → Option OV
  | .int i, .int j => if 0 < j ∧ j < 1000000000000000000000000000000 then some (.fz (.int (i / j))) else none
  | _, _ => none
theorem ops_fdiv {K : PySem.W.Frag} : OpS K (rI CDivW fun i j => .int (i / j)) dFdiv := by
  intro γ O H x y v w z Q ow hx hy e hq
  unfold dFdiv at e
  split at e
  · rename_i i j
    split at e
    · rename_i hl
      cases e
      simp only [RE, R] at hx hy
      have e2 : (2 : Nat) ^ 100 = 1267650600228229401496703205376 := by decide
      exact ⟨i, j, hx, hy, wide_div (b := 100) hl.1 (by rw [e2]; omega) (by decide) (by decide), hq _ (by simp [R])⟩
    · cases e
  · cases e
def dMod : D → D → Option OV
  | .int i, .int j => if 0 < j then some (.fz (.int (i % j))) else none
  | _, _ => none
theorem ops_mod {K : PySem.W.Frag} : OpS K (rI (fun _ j => 0 < j) fun i j => .int (i % j)) dMod := by
  intro γ O H x y v w z Q ow hx hy e hq
  unfold dMod at e
  split at e
  · rename_i i j
    split at e
    · rename_i hl
      cases e
      simp only [RE, R] at hx hy
      exact ⟨i, j, hx, hy, hl, hq _ (by simp [R])⟩
    · cases e
  · cases e
def CPowB (i j : Int) : Prop := 0 ≤ j ∧ (bitsI i : Int) * j ≤ 2 ^ 27
theorem op_powB {X : Cx} : OpR X (binaryOp .Pow) (rI CPowB fun i j => .int (i ^ j.toNat)) := opI fun _ _ _ _ _ _ _ hc q => PyProof.Rows.pow_int hc.1 hc.2 q
def dPow : D → D → Option OV
  | .int i, .int j => if 0 ≤ j ∧ (bitsI i : Int) * j ≤ 2 ^ 27 then some (.fz (.int (i ^ j.toNat))) else none
  | _, _ => none
theorem ops_pow {K : PySem.W.Frag} : OpS K (rI CPowB fun i j => .int (i ^ j.toNat)) dPow := by
  intro γ O H x y v w z Q ow hx hy e hq
  unfold dPow at e
  split at e
  · rename_i i j
    split at e
    · rename_i hl
      cases e
      simp only [RE, R] at hx hy
      exact ⟨i, j, hx, hy, hl, hq _ (by simp [R])⟩
    · cases e
  · cases e
def okD (d : D) : Bool := d.plain && decide (d.depth ≤ 60)
section
variable {K : PySem.W.Frag} {O : List Addr} {H : Hp}
mutual
theorem R.dp : ∀ (d : D) (v : V), d.plain = true → R K O H d v → Dp K H v d
  | .none, v, _, h => by simp only [R] at h; subst h; exact .non
  | .bool b, v, _, h => by simp only [R] at h; subst h; exact .bl b
  | .int b, v, _, h => by simp only [R] at h; subst h; exact .int b
  | .str b, v, _, h => by simp only [R] at h; subst h; exact .str b
  | .list ds, v, p, h => by
    simp only [R] at h
    obtain ⟨a, vs, e, n, q, h⟩ := h
    subst e
    exact .lst (.inl (.inl q)) (Rs.dp ds vs (by simpa [PyData.plain] using p) h)
  | .tuple ds, v, p, h => by
    simp only [R] at h
    obtain ⟨a, vs, e, q, h⟩ := h
    subst e
    exact .tup (.inl (.inl q)) (Rs.dp ds vs (by simpa [PyData.plain] using p) h)
  | .dict kvs, v, p, h => by simp [PyData.plain] at p
theorem Rs.dp : ∀ (ds : List D) (vs : List V), PyData.plainAll ds = true → Rs K O H ds vs → DpAll K H vs ds
  | [], vs, _, h => by simp only [Rs] at h; subst h; exact .nil
  | d :: ds, vs, p, h => by
    simp only [Rs] at h
    obtain ⟨v, ws, e, h1, h2⟩ := h
    subst e
    have p' : d.plain = true ∧ PyData.plainAll ds = true := by simpa [PyData.plainAll] using p
    exact .cons (R.dp d v p'.1 h1) (Rs.dp ds ws p'.2 h2)
end
end
def rEqQ (K : PySem.W.Frag) (f : Bool → Bool) : R2 := fun x y H Q => ∃ d e, Dp K H x d ∧ Dp K H y e ∧ okD d = true ∧ okD e = true ∧ Q (.bl (f (PyData.eqv d e))) H
/-- a dictionary that we hold in mind -/
def IsDc (H : Hp) (a : Addr) : Prop := (∃ ws, Rd H a (.dK ws)) ∨ (∃ ws, Rd H a (.dT ws))
def rEqX (K : PySem.W.Frag) (f : Bool → Bool) : R2 := fun x y H Q =>
  ((∃ a b, x = .ref a ∧ y = .str b ∧ IsDc H a) ∨ (∃ a b, x = .str b ∧ y = .ref a ∧ IsDc H a) ∨
   (∃ a b xs ys, x = .ref a ∧ y = .ref b ∧ SqL K H a xs ∧ SqL K H b ys ∧ xs.length ≠ ys.length) ∨
   (∃ a b xs ys, x = .ref a ∧ y = .ref b ∧ SqT K H a xs ∧ SqT K H b ys ∧ xs.length ≠ ys.length ∧ (xs = [] ∨ ys = []))) ∧ Q (.bl (f false)) H
def rEqP (K : PySem.W.Frag) (f : Bool → Bool) : R2 := fun x y H Q => rEqQ K f x y H Q ∨ rEqX K f x y H Q
theorem IsDc.obj {P : PySem.Program} {w : PySem.World} {h : Heap} {H : Hp} {a : Addr} (ok : HOk P w H h) (q : IsDc H a) : ∃ dd es n sl, h.get? a = some { cls := .type "dict", dict := dd, data := .dict es n, slots := sl } := by
  rcases q with ⟨ws, q⟩ | ⟨ws, q⟩
  · obtain ⟨_, hsys, xs, rel, o, es, ep, h1, h2, h3, _, h5, _⟩ := dk_rd ok q
    obtain ⟨cls, dd, data, sl⟩ := o
    cases h2.1
    cases h3
    exact ⟨dd, es, ep, sl, h1⟩
  · obtain ⟨_, hsys, xs, rel, o, es, ep, h1, h2, h3, h4, _, _⟩ := dt_rd ok q
    obtain ⟨cls, dd, data, sl⟩ := o
    cases h2.1
    cases h3
    exact ⟨dd, es, ep, sl, h1⟩
theorem sz_ne {xs ys : List V} {is js : List Value} (h1 : Vals xs is) (h2 : Vals ys js) (h : xs.length ≠ ys.length) : (is.toArray.size != js.toArray.size) = true := by
  have a := h1.length
  have b := h2.length
  rw [bne_iff_ne]
  simp only [List.size_toArray]
  omega
theorem min_0 {xs ys : List V} {is js : List Value} (h1 : Vals xs is) (h2 : Vals ys js) (h : xs = [] ∨ ys = []) : min is.toArray.size js.toArray.size = 0 := by
  have a := h1.length
  have b := h2.length
  simp only [List.size_toArray]
  rcases h with rfl | rfl
  · simp only [List.length_nil] at a; omega
  · simp only [List.length_nil] at b; omega
theorem okD_room {A : Around} {d e : D} (hd : okD d = true) (hu : A.units + 64 < cLine) : A.units + min d.depth e.depth < cLine := by
  unfold okD at hd
  simp only [Bool.and_eq_true, decide_eq_true_eq] at hd
  have := Nat.min_le_left d.depth e.depth
  omega
theorem okD_plain {d : D} (hd : okD d = true) : d.plain = true := by
  unfold okD at hd
  simp only [Bool.and_eq_true, decide_eq_true_eq] at hd
  exact hd.1
theorem op_eqQ {X : Cx} (hu : X.A.units + 64 < cLine) : OpR X (compareOp .Eq) (rEqQ X.K id) := by
  intro pins s σ H x y v u Q I rx ry h
  obtain ⟨d, e, hd, he, h1, h2, q⟩ := h
  obtain ⟨as, r1⟩ := Dp.reads I d x v hd rx
  obtain ⟨bs, r2⟩ := Dp.reads I e y u he ry
  exact SeqAt.eq_plain r1 r2 (okD_plain h1) (okD_plain h2) (okD_room h1 hu) ⟨.bl _, H, I, rfl, q⟩
theorem op_neQ {X : Cx} (hu : X.A.units + 64 < cLine) : OpR X (compareOp .NotEq) (rEqQ X.K not) := by
  intro pins s σ H x y v u Q I rx ry h
  obtain ⟨d, e, hd, he, h1, h2, q⟩ := h
  obtain ⟨as, r1⟩ := Dp.reads I d x v hd rx
  obtain ⟨bs, r2⟩ := Dp.reads I e y u he ry
  exact SeqAt.ne_plain r1 r2 (okD_plain h1) (okD_plain h2) (okD_room h1 hu) ⟨.bl _, H, I, rfl, q⟩
theorem op_eqX {X : Cx} (hu : X.A.units + 64 < cLine) : OpR X (compareOp .Eq) (rEqX X.K id) := by
  intro pins s σ H x y v u Q I rx ry h
  have hu' : X.A.units < cLine := by omega
  obtain ⟨h, q⟩ := h
  rcases h with ⟨a, b, rfl, rfl, hd⟩ | ⟨a, b, rfl, rfl, hd⟩ | ⟨a, b, xs, ys, rfl, rfl, h1, h2, h3⟩ | ⟨a, b, xs, ys, rfl, rfl, h1, h2, h3, h4⟩
  · cases (show v = Value.ref a from rx)
    obtain ⟨t, rfl⟩ := (show ∃ t, u = Value.str b t from ry)
    obtain ⟨dd, es, n, sl, ho⟩ := hd.obj I.hok
    exact QE.rc_dict_str b t ho hu' _ _ _ _ ⟨.bl _, H, I, rfl, q⟩
  · cases (show u = Value.ref a from ry)
    obtain ⟨t, rfl⟩ := (show ∃ t, v = Value.str b t from rx)
    obtain ⟨dd, es, n, sl, ho⟩ := hd.obj I.hok
    exact QE.rc_str_dict b t ho hu' _ _ _ _ ⟨.bl _, H, I, rfl, q⟩
  · cases (show v = Value.ref a from rx)
    cases (show u = Value.ref b from ry)
    obtain ⟨is, v1, ⟨o, n, e1, c1, _, d1⟩, _⟩ := I.list h1
    obtain ⟨js, v2, ⟨o2, n2, e2, c2, _, d2⟩, _⟩ := I.list h2
    exact SeqAt.RcAt.lists_lengths (items := is.toArray) (items2 := js.toArray) ⟨o, e1, c1, n, d1⟩ ⟨o2, e2, c2, n2, d2⟩ (sz_ne v1 v2 h3) hu' _ _ _ _ ⟨.bl _, H, I, rfl, q⟩
  · cases (show v = Value.ref a from rx)
    cases (show u = Value.ref b from ry)
    obtain ⟨is, v1, ⟨o, e1, c1, n, d1⟩, _⟩ := I.tuple h1
    obtain ⟨js, v2, ⟨o2, e2, c2, n2, d2⟩, _⟩ := I.tuple h2
    have z := min_0 v1 v2 h4
    have z2 := sz_ne v1 v2 h3
    have k := SeqAt.RcAt.tuples (A := X.A) (s := s) (items := is.toArray) (items2 := js.toArray) (e := fun _ => true) ⟨o, e1, c1, n, d1⟩ ⟨o2, e2, c2, n2, d2⟩ hu' (fun j p q => absurd z (by omega))
    rw [z, show (is.toArray.size == js.toArray.size) = false from by rw [bne, Bool.not_eq_true'] at z2; exact z2] at k
    exact k _ _ _ _ ⟨.bl _, H, I, rfl, q⟩
theorem op_neX {X : Cx} (hu : X.A.units + 64 < cLine) : OpR X (compareOp .NotEq) (rEqX X.K not) := by
  intro pins s σ H x y v u Q I rx ry h
  have hu' : X.A.units < cLine := by omega
  obtain ⟨h, q⟩ := h
  rcases h with ⟨a, b, rfl, rfl, hd⟩ | ⟨a, b, rfl, rfl, hd⟩ | ⟨a, b, xs, ys, rfl, rfl, h1, h2, h3⟩ | ⟨a, b, xs, ys, rfl, rfl, h1, h2, h3, h4⟩
  · cases (show v = Value.ref a from rx)
    obtain ⟨t, rfl⟩ := (show ∃ t, u = Value.str b t from ry)
    obtain ⟨dd, es, n, sl, ho⟩ := hd.obj I.hok
    exact QE.rn_dict_str b t ho hu' _ _ _ _ ⟨.bl _, H, I, rfl, q⟩
  · cases (show u = Value.ref a from ry)
    obtain ⟨t, rfl⟩ := (show ∃ t, v = Value.str b t from rx)
    obtain ⟨dd, es, n, sl, ho⟩ := hd.obj I.hok
    exact QE.rn_str_dict b t ho hu' _ _ _ _ ⟨.bl _, H, I, rfl, q⟩
  · cases (show v = Value.ref a from rx)
    cases (show u = Value.ref b from ry)
    obtain ⟨is, v1, ⟨o, n, e1, c1, _, d1⟩, _⟩ := I.list h1
    obtain ⟨js, v2, ⟨o2, n2, e2, c2, _, d2⟩, _⟩ := I.list h2
    exact SeqAt.RcNeAt.lists_lengths (items := is.toArray) (items2 := js.toArray) ⟨o, e1, c1, n, d1⟩ ⟨o2, e2, c2, n2, d2⟩ (sz_ne v1 v2 h3) hu' _ _ _ _ ⟨.bl _, H, I, rfl, q⟩
  · cases (show v = Value.ref a from rx)
    cases (show u = Value.ref b from ry)
    obtain ⟨is, v1, ⟨o, e1, c1, n, d1⟩, _⟩ := I.tuple h1
    obtain ⟨js, v2, ⟨o2, e2, c2, n2, d2⟩, _⟩ := I.tuple h2
    have z := min_0 v1 v2 h4
    have z2 := sz_ne v1 v2 h3
    have k := SeqAt.RcNeAt.tuples (A := X.A) (s := s) (items := is.toArray) (items2 := js.toArray) (e := fun _ => true) ⟨o, e1, c1, n, d1⟩ ⟨o2, e2, c2, n2, d2⟩ hu' (fun j p q => absurd z (by omega))
    rw [z, show (is.toArray.size == js.toArray.size) = false from by rw [bne, Bool.not_eq_true'] at z2; exact z2] at k
    exact k _ _ _ _ ⟨.bl _, H, I, rfl, q⟩
theorem op_eqP {X : Cx} (hu : X.A.units + 64 < cLine) : OpR X (compareOp .Eq) (rEqP X.K id) := OpR.or (op_eqQ hu) (op_eqX hu)
theorem op_neP {X : Cx} (hu : X.A.units + 64 < cLine) : OpR X (compareOp .NotEq) (rEqP X.K not) := OpR.or (op_neQ hu) (op_neX hu)
/-- .. told fast -/
def flat0 : D → Bool
  | .list _ => false
  | .dict _ => false
  | .tuple _ => false
  | _ => true
theorem flat0_ok {d : D} (h : flat0 d = true) : d.plain = true ∧ d.depth = 0 := by
  cases d with
  | list _ => cases h
  | dict _ => cases h
  | tuple _ => cases h
  | _ => exact ⟨rfl, rfl⟩
theorem flat0_all : ∀ {ds : List D}, ds.all flat0 = true → PyData.plainAll ds = true ∧ PyData.depthAll ds = 0
  | [], _ => ⟨rfl, rfl⟩
  | d :: ds, h => by
    simp only [List.all_cons, Bool.and_eq_true] at h
    obtain ⟨a, b⟩ := flat0_ok h.1
    obtain ⟨c, e⟩ := flat0_all h.2
    simp only [PyData.plainAll, PyData.depthAll, a, b, c, e]
    exact ⟨rfl, by simp⟩
def okF : D → Bool
  | .int _ => true
  | .str _ => true
  | .bool _ => true
  | .none => true
  | .list ds => if ds.all flat0 = true then true else okD (.list ds)
  | .tuple ds => if ds.all flat0 = true then true else okD (.tuple ds)
  | d => okD d
theorem okF_eq (d : D) : okF d = okD d := by
  cases d with
  | list ds =>
    show (if ds.all flat0 = true then true else okD (.list ds)) = _
    split
    · rename_i h
      obtain ⟨a, b⟩ := flat0_all h
      simp [okD, PyData.plain, PyData.depth, a, b]
    · rfl
  | tuple ds =>
    show (if ds.all flat0 = true then true else okD (.tuple ds)) = _
    split
    · rename_i h
      obtain ⟨a, b⟩ := flat0_all h
      simp [okD, PyData.plain, PyData.depth, a, b]
    · rfl
  | _ => rfl
def eq0 : D → D → Bool
  | .int i, .int j => decide (i = j)
  | .str x, .str y => decide (x.cps.toList = y.cps.toList)
  | x, y => PyData.eqv x y
theorem eq0_eq (x y : D) : eq0 x y = PyData.eqv x y := by
  unfold eq0
  split
  · rename_i i j
    show _ = (i == j)
    rw [Bool.eq_iff_iff]; simp
  · rename_i a b
    show _ = (a == b)
    rw [Bool.eq_iff_iff, decide_eq_true_eq, beq_iff_eq]
    constructor
    · intro h
      have ea := Str.tx a
      have eb := Str.tx b
      rw [ea, eb, h]
    · intro h; rw [h]
  · rfl
def eqL : List D → List D → Bool
  | [], [] => true
  | x :: xs, y :: ys => eq0 x y && eqL xs ys
  | _, _ => false
theorem eqL_eq : ∀ xs ys : List D, eqL xs ys = PyData.eqvAll xs ys
  | [], [] => by simp [eqL, PyData.eqvAll]
  | x :: xs, y :: ys => by simp [eqL, PyData.eqvAll, eqL_eq xs ys, eq0_eq]
  | [], y :: ys => by simp [eqL, PyData.eqvAll]
  | x :: xs, [] => by simp [eqL, PyData.eqvAll]
def eqF : D → D → Bool
  | .list x, .list y => eqL x y
  | .tuple x, .tuple y => eqL x y
  | x, y => eq0 x y
theorem eqF_eq (x y : D) : eqF x y = PyData.eqv x y := by
  unfold eqF
  split
  · rw [eqL_eq]; simp [PyData.eqv]
  · rw [eqL_eq]; simp [PyData.eqv]
  · exact eq0_eq _ _
/-- an object's data -/
def isOb : List (D × D) → Bool
  | (.list _, _) :: _ => true
  | _ => false
/-- a dict that is no object -/
class NoOb (kvs : List (D × D)) : Prop where
  h : isOb kvs = false
instance : NoOb [] := ⟨rfl⟩
instance {x : Str} {d : D} {r : List (D × D)} : NoOb ((.str x, d) :: r) := ⟨rfl⟩
instance {x : Int} {d : D} {r : List (D × D)} : NoOb ((.int x, d) :: r) := ⟨rfl⟩
instance {x : Bool} {d : D} {r : List (D × D)} : NoOb ((.bool x, d) :: r) := ⟨rfl⟩
instance {x : List D} {d : D} {r : List (D × D)} : NoOb ((.tuple x, d) :: r) := ⟨rfl⟩
theorem noOb {K : PySem.W.Frag} {O : List Addr} {H : Hp} {a : Addr} {kvs : List (D × D)} (h : isOb kvs = false) {P : Prop} (q : ∃ C dx ws, H a = some (.ins C dx ws) ∧ RO' K O H C kvs ws) : P := by
  obtain ⟨C, dx, ws, _, q⟩ := q
  cases kvs with
  | nil => simp only [RO'] at q
  | cons p r =>
    obtain ⟨k, d⟩ := p
    simp only [RO'] at q
    rw [q.1] at h
    cases h
/-- x == y, x != y -/
def unEq : D → D → Bool
  | .dict kvs, .str _ => !isOb kvs
  | .str _, .dict kvs => !isOb kvs
  | .list xs, .list ys => decide (xs.length ≠ ys.length)
  | .tuple xs, .tuple ys => decide (xs.length ≠ ys.length) && (decide (xs.length = 0) || decide (ys.length = 0))
  | _, _ => false
def dEqF (f : Bool → Bool) (x y : D) : Option OV := if okF x = true ∧ okF y = true then some (.fz (.bool (f (eqF x y)))) else if unEq x y = true then some (.fz (.bool (f false))) else none
abbrev dEq := dEqF id
abbrev dNe := dEqF not
theorem ops_eq {K : PySem.W.Frag} {f : Bool → Bool} : OpS K (rEqP K f) (dEqF f) := by
  intro γ O H x y v w z Q ow hx hy e hq
  unfold dEqF at e
  rw [okF_eq, okF_eq, eqF_eq] at e
  split at e
  · rename_i hl
    cases e
    exact .inl ⟨x, y, R.dp _ _ (okD_plain hl.1) (hx.all ow), R.dp _ _ (okD_plain hl.2) (hy.all ow), hl.1, hl.2, hq _ (by simp [R])⟩
  · split at e
    · rename_i hl
      cases e
      have hq' := hq (.bl (f false)) (by simp [R])
      refine .inr ⟨?_, hq'⟩
      unfold unEq at hl
      split at hl
      · simp only [RE, R] at hx hy
        obtain ⟨a, e, _, h⟩ := hx
        refine .inl ⟨a, _, e, hy, ?_⟩
        rcases h with ⟨ws, h, _⟩ | ⟨ws, h, _⟩ | h
        · exact .inl ⟨ws, h⟩
        · exact .inr ⟨ws, h⟩
        · exact noOb (by simpa using hl) h
      · simp only [RE, R] at hx hy
        obtain ⟨a, e, _, h⟩ := hy
        refine .inr (.inl ⟨a, _, hx, e, ?_⟩)
        rcases h with ⟨ws, h, _⟩ | ⟨ws, h, _⟩ | h
        · exact .inl ⟨ws, h⟩
        · exact .inr ⟨ws, h⟩
        · exact noOb (by simpa using hl) h
      · simp only [RE] at hx hy
        obtain ⟨a, vs, e, _, h1, h2⟩ := hx
        obtain ⟨b, ws, e', _, h3, h4⟩ := hy
        refine .inr (.inr (.inl ⟨a, b, vs, ws, e, e', .of h1, .of h3, ?_⟩))
        rw [h2.len, h4.len]
        exact of_decide_eq_true hl
      · rename_i p q
        simp only [RE, R] at hx hy
        obtain ⟨a, vs, e, h1, h2⟩ := hx
        obtain ⟨b, ws, e', h3, h4⟩ := hy
        simp only [Bool.and_eq_true, Bool.or_eq_true, decide_eq_true_eq] at hl
        refine .inr (.inr (.inr ⟨a, b, vs, ws, e, e', ?_, ?_, ?_, ?_⟩))
        · exact .inl (.inl h1)
        · exact .inl (.inl h3)
        · rw [h2.len, h4.len]; exact hl.1
        · rcases hl.2 with h | h
          · exact .inl (List.length_eq_zero_iff.mp (by rw [h2.len]; exact h))
          · exact .inr (List.length_eq_zero_iff.mp (by rw [h4.len]; exact h))
      · cases hl
    · cases e
/-- < <= > >= of ints, of texts -/
def dOrd (fi : Int → Int → Bool) (ft : List Nat → List Nat → Bool) : D → D → Option OV
  | .int i, .int j => some (.fz (.bool (fi i j)))
  | .str x, .str y => some (.fz (.bool (ft x.cps.toList y.cps.toList)))
  | _, _ => none
def rOrd (fi : Int → Int → Bool) (ft : List Nat → List Nat → Bool) : R2 := fun x y H Q => (rI0 fun i j => .bl (fi i j)) x y H Q ∨ (fun x y H Q => ∃ i j : Str, x = .str i ∧ y = .str j ∧ Q (.bl (ft i.cps.toList j.cps.toList)) H) x y H Q
theorem ops_ord {K : PySem.W.Frag} {fi : Int → Int → Bool} {ft : List Nat → List Nat → Bool} : OpS K (rOrd fi ft) (dOrd fi ft) := by
  intro γ O H x y v w z Q ow hx hy e hq
  unfold dOrd at e
  split at e
  · rename_i i j
    cases e
    simp only [RE, R] at hx hy
    exact .inl ⟨i, j, hx, hy, hq _ (by simp [R])⟩
  · rename_i i j
    cases e
    simp only [RE, R] at hx hy
    exact .inr ⟨i, j, hx, hy, hq _ (by simp [R])⟩
  · cases e
abbrev dLt := dOrd (fun i j => decide (i < j)) (fun x y => decide (x < y))
abbrev dGe := dOrd (fun i j => decide (j ≤ i)) (fun x y => !decide (x < y))
theorem op_ltA {X : Cx} : OpR X (compareOp .Lt) (rOrd (fun i j => decide (i < j)) (fun x y => decide (x < y))) := OpR.or op_lt op_lt_str
theorem op_geA {X : Cx} : OpR X (compareOp .GtE) (rOrd (fun i j => decide (j ≤ i)) (fun x y => !decide (x < y))) := OpR.or op_ge op_ge_str
/-- x in y: of a text, a list, a tuple -/
def strIn (x z : Str) : Bool := QM.inF x z
def dInF (f : Bool → Bool) : D → D → Option OV
  | .str x, .str z => some (.fz (.bool (f (strIn x z))))
  | x, .list ds => if okF x = true ∧ okF (.list ds) = true then some (.fz (.bool (f (ds.any fun y => eqF y x)))) else none
  | x, .tuple ds => if okF x = true ∧ okF (.tuple ds) = true then some (.fz (.bool (f (ds.any fun y => eqF y x)))) else none
  | _, _ => none
abbrev dIn := dInF id
abbrev dNotIn := dInF not
def rInP (K : PySem.W.Frag) (f : Bool → Bool) : R2 := fun x y H Q => (∃ i j : Str, x = .str i ∧ y = .str j ∧ Q (.bl (f (strIn i j))) H) ∨
  (∃ d ds, Dp K H x d ∧ (Dp K H y (.list ds) ∨ Dp K H y (.tuple ds)) ∧ okD d = true ∧ okD (.list ds) = true ∧ Q (.bl (f (ds.any fun z => PyData.eqv z d))) H)
theorem okD_in {A : Around} {d : D} {ds : List D} (h : okD (.list ds) = true) (hu : A.units + 64 < cLine) : PyData.plainAll ds = true ∧ A.units + 1 + min (PyData.depthAll ds) d.depth < cLine := by
  unfold okD at h
  simp only [PyData.plain, PyData.depth, Bool.and_eq_true, decide_eq_true_eq] at h
  have := Nat.min_le_left (PyData.depthAll ds) d.depth
  obtain ⟨h1, h2⟩ := h
  have h3 := of_decide_eq_true h2
  exact ⟨h1, by omega⟩
theorem okD_tup (ds : List D) : okD (.tuple ds) = okD (.list ds) := by simp [okD, PyData.plain, PyData.depth]
theorem op_inP {X : Cx} (hu : X.A.units + 64 < cLine) : OpR X (compareOp .In) (rInP X.K id) := by
  intro pins s σ H x y v u Q I rx ry h
  rcases h with ⟨i, j, e1, e2, q⟩ | ⟨d, ds, hd, he, h1, h2, q⟩
  · exact op_in_str pins s σ H x y v u Q I rx ry ⟨i, j, e1, e2, by rw [← QM.inF_eq]; exact q⟩
  · obtain ⟨as, r1⟩ := Dp.reads I d x v hd rx
    obtain ⟨hp, hr⟩ := okD_in (d := d) h2 hu
    rcases he with he | he
    · obtain ⟨bs, r2⟩ := Dp.reads I _ y u he ry
      exact SeqAt.in_list_data r2 r1 hp (okD_plain h1) hr ⟨.bl _, H, I, rfl, q⟩
    · obtain ⟨bs, r2⟩ := Dp.reads I _ y u he ry
      exact SeqAt.in_tuple_data r2 r1 hp (okD_plain h1) hr ⟨.bl _, H, I, rfl, q⟩
theorem op_notInP {X : Cx} (hu : X.A.units + 64 < cLine) : OpR X (compareOp .NotIn) (rInP X.K not) := by
  intro pins s σ H x y v u Q I rx ry h
  rcases h with ⟨i, j, e1, e2, q⟩ | ⟨d, ds, hd, he, h1, h2, q⟩
  · exact op_notin_str pins s σ H x y v u Q I rx ry ⟨i, j, e1, e2, by rw [← QM.inF_eq]; exact q⟩
  · obtain ⟨as, r1⟩ := Dp.reads I d x v hd rx
    obtain ⟨hp, hr⟩ := okD_in (d := d) h2 hu
    rcases he with he | he
    · obtain ⟨bs, r2⟩ := Dp.reads I _ y u he ry
      exact SeqAt.notIn_list_data r2 r1 hp (okD_plain h1) hr ⟨.bl _, H, I, rfl, q⟩
    · obtain ⟨bs, r2⟩ := Dp.reads I _ y u he ry
      exact SeqAt.notIn_tuple_data r2 r1 hp (okD_plain h1) hr ⟨.bl _, H, I, rfl, q⟩
theorem ops_in {K : PySem.W.Frag} {f : Bool → Bool} : OpS K (rInP K f) (dInF f) := by
  intro γ O H x y v w z Q ow hx hy e hq
  unfold dInF at e
  split at e
  · rename_i i j
    cases e
    simp only [RE, R] at hx hy
    exact .inl ⟨i, j, hx, hy, hq _ (by simp [R])⟩
  · rename_i ds
    simp only [okF_eq, eqF_eq] at e
    split at e
    · rename_i hl
      cases e
      exact .inr ⟨x, ds, R.dp _ _ (okD_plain hl.1) (hx.all ow), .inl (R.dp _ _ (okD_plain hl.2) (hy.all ow)), hl.1, hl.2, hq _ (by simp [R])⟩
    · cases e
  · rename_i ds
    simp only [okF_eq, eqF_eq] at e
    split at e
    · rename_i hl
      cases e
      exact .inr ⟨x, ds, R.dp _ _ (okD_plain hl.1) (hx.all ow), .inr (R.dp _ _ (okD_plain hl.2) (hy.all ow)), hl.1, by rw [← okD_tup]; exact hl.2, hq _ (by simp [R])⟩
    · cases e
  · cases e
/-- is None, is True -/
def isD (x y : D) : Option Bool := match x, y with
  | .none, .none => some true
  | _, .none => some false
  | .bool a, .bool b => some (decide (a = b))
  | _, _ => none
def dIsF (f : Bool → Bool) (x y : D) : Option OV := (isD x y).map fun b => .fz (.bool (f b))
abbrev dIs := dIsF id
def rIsF (f : Bool → Bool) : R2 := fun x y H Q => (y = .non ∧ Q (.bl (f (decide (x = .non)))) H) ∨ (∃ a b, x = .bl a ∧ y = .bl b ∧ Q (.bl (f (decide (a = b)))) H)
theorem op_isA {X : Cx} : OpR X (compareOp .Is) (rIsF id) := OpR.or op_isN op_is_bl
def isN : D → Bool
  | .none => true
  | _ => false
theorem RE.non_iff {K : PySem.W.Frag} {γ : Gh} {O : List Addr} {H : Hp} {x : D} {v : V} (h : RE K γ O H x v) : decide (v = .non) = isN x := by
  cases x with
  | none => simp only [RE, R] at h; subst h; rfl
  | bool _ => simp only [RE, R] at h; subst h; rfl
  | int _ => simp only [RE, R] at h; subst h; rfl
  | str _ => simp only [RE, R] at h; subst h; rfl
  | list _ => obtain ⟨a, vs, e, _⟩ := h; subst e; rfl
  | tuple _ => simp only [RE, R] at h; obtain ⟨a, vs, e, _⟩ := h; subst e; rfl
  | dict _ => obtain ⟨a, e, _⟩ := h; subst e; rfl
theorem ops_is {K : PySem.W.Frag} {f : Bool → Bool} : OpS K (rIsF f) (dIsF f) := by
  intro γ O H x y v w z Q ow hx hy e hq
  unfold dIsF at e
  simp only [Option.map_eq_some_iff] at e
  obtain ⟨b, e1, e2⟩ := e
  subst e2
  have q := hq (.bl (f b)) (by simp [R])
  have nn := hx.non_iff
  unfold isD at e1
  split at e1
  · cases e1
    simp only [RE, R] at hy
    exact .inl ⟨hy, by rw [nn]; exact q⟩
  · rename_i hne
    cases e1
    simp only [RE, R] at hy
    refine .inl ⟨hy, ?_⟩
    have : isN x = false := by
      cases x with
      | none => exact absurd rfl hne
      | _ => rfl
    rw [nn, this]; exact q
  · rename_i a b' 
    cases e1
    simp only [RE, R] at hx hy
    exact .inr ⟨a, b', hx, hy, q⟩
  · cases e1
section
variable {X : Cx} {W : WX} {e a b c : Expr} {ta tb tc : TE} {fa fb fc : S → Res D} {F : S → Res SV} {pos : Pos}
/-- a < b <= c -/
def fChain (op op' : D → D → Option OV) (fa fb fc : S → Res D) : S → Res SV := fun r => (fa r).bind fun x r => (fb r).bind fun y r => match op x y with
  | some (.fz (.bool true)) => (fc r).bind fun z r => ovR (op' y z) r
  | some (.fz (.bool false)) => .ok (.fz (.bool false)) r
  | _ => .bad
/-- -a -/
def dNeg : D → Option OV
  | .int i => some (.fz (.int (-i)))
  | _ => none
def fOp1 (op : D → Option OV) (fa : S → Res D) : S → Res SV := fun r => (fa r).bind fun x r => ovR (op x) r
/-- a one-place reading -/
def Op1S (K : PySem.W.Frag) (rr : V → Hp → VK → Prop) (op : D → Option OV) : Prop :=
  ∀ (γ : Gh) (O : List Addr) (H : Hp) (x : D) (v : V) (z : OV) (Q : VK), Own O H → RE K γ O H x v → op x = some z → OVQ K O H z Q → rr v H Q
theorem sim_op1 {K : PySem.W.Frag} {mg : Str → Option Value} {rr : V → Hp → VK → Prop} {op : D → Option OV} (ho : Op1S K rr op) (ha : Sim K mg W (PB K) ta fa) : Sim K mg W (PV K) (fun σ H Q => ta σ H fun x H1 => rr x H1 Q) (fOp1 op fa) := by
  intro γ Oc r σ H fs g
  refine SimAt.bind (t2 := fun x H1 Q => rr x H1 Q) (ha γ Oc r σ H fs g) fun d r1 v H1 ⟨fs1, g1, v1, s1⟩ => ?_
  refine SimAt.tr s1 fun Q => ?_
  unfold ovR
  cases q : op d with
  | none => trivial
  | some z => exact fun hq => ho γ (fs1 ++ Oc) H1 d v z Q g1.ow v1 q (ovq_of g1 hq)
theorem ex_neg (ha : BX X W a ta fa) : EX X W (.UnaryOp .USub a pos) (tUn (rU fun i => .int (-i)) ta) (fOp1 dNeg fa) := by
  refine ⟨pe_un un_neg ha.pe, sim_op1 (rr := rU fun i => .int (-i)) (fun γ O H x v z Q ow hx e hq => ?_) ha.sim⟩
  unfold dNeg at e
  split at e
  · rename_i i
    cases e
    simp only [RE, R] at hx
    exact ⟨i, hx, hq _ (by simp [R])⟩
  · cases e
/-- a value True, False as a test -/
def tV (F : S → Res D) : S → Res Bool := fun r => (F r).bind fun d r => match d with
  | .bool b => .ok b r
  | _ => .bad
theorem tx_val (h : BX X W e ta fa) (he : ∀ whole, isTrue e X.env whole = (do let v ← whole; standAt e.pos; holding [v] (truthy v)) := by intro _; rfl) : TX X W e (tB ta) (tV fa) := by
  refine ⟨pt_val h.pe he, fun γ Oc r σ H fs g => ?_⟩
  refine SimAt.bind (t2 := fun x H1 Q => ∃ c, x = .bl c ∧ Q c H1) (h.sim γ Oc r σ H fs g) fun d r1 v H1 ⟨fs1, g1, v1, s1⟩ => ?_
  refine SimAt.tr s1 fun Q => ?_
  cases d with
  | bool b =>
    simp only [RE, R] at v1
    exact fun hq => ⟨b, v1, hq b H1 ⟨fs1, g1, rfl, Stp.refl _ _ _⟩⟩
  | _ => trivial
def tNotF (F : S → Res Bool) : S → Res Bool := fun r => (F r).bind fun b r => .ok (!b) r
def tAndF (F G : S → Res Bool) : S → Res Bool := fun r => (F r).bind fun b r => if b then G r else .ok false r
def tOrF (F G : S → Res Bool) : S → Res Bool := fun r => (F r).bind fun b r => if b then .ok true r else G r
variable {tA tB' : TT} {FA FB : S → Res Bool} {rest : List Expr}
theorem sim_tnot {K : PySem.W.Frag} {mg : Str → Option Value} (h : Sim K mg W (PTt K) tA FA) : Sim K mg W (PTt K) (tNot tA) (tNotF FA) := by
  intro γ Oc r σ H fs g
  refine SimAt.bind (t2 := fun c H1 Q => Q (!c) H1) (h γ Oc r σ H fs g) fun b r1 c H1 ⟨fs1, g1, v1, s1⟩ => ?_
  exact SimAt.tr s1 fun Q hq => hq _ _ ⟨fs1, g1, by rw [v1], Stp.refl _ _ _⟩
theorem sim_tand {K : PySem.W.Frag} {mg : Str → Option Value} (h : Sim K mg W (PTt K) tA FA) (h' : Sim K mg W (PTt K) tB' FB) : Sim K mg W (PTt K) (tAnd tA tB') (tAndF FA FB) := by
  intro γ Oc r σ H fs g
  refine SimAt.bind (t2 := fun c H1 Q => if c = true then tB' σ H1 Q else Q false H1) (h γ Oc r σ H fs g) fun b r1 c H1 ⟨fs1, g1, v1, s1⟩ => ?_
  refine SimAt.tr s1 ?_
  subst v1
  cases c with
  | true => exact h' γ Oc r1 σ H1 fs1 g1
  | false => exact fun Q hq => hq _ _ ⟨fs1, g1, rfl, Stp.refl _ _ _⟩
theorem sim_tor {K : PySem.W.Frag} {mg : Str → Option Value} (h : Sim K mg W (PTt K) tA FA) (h' : Sim K mg W (PTt K) tB' FB) : Sim K mg W (PTt K) (tOr tA tB') (tOrF FA FB) := by
  intro γ Oc r σ H fs g
  refine SimAt.bind (t2 := fun c H1 Q => if c = true then Q true H1 else tB' σ H1 Q) (h γ Oc r σ H fs g) fun b r1 c H1 ⟨fs1, g1, v1, s1⟩ => ?_
  refine SimAt.tr s1 ?_
  subst v1
  cases c with
  | false => exact h' γ Oc r1 σ H1 fs1 g1
  | true => exact fun Q hq => hq _ _ ⟨fs1, g1, rfl, Stp.refl _ _ _⟩
theorem tx_not (h : TX X W a tA FA) : TX X W (.UnaryOp .Not a pos) (tNot tA) (tNotF FA) := ⟨pt_not h.pe, sim_tnot h.sim⟩
/-- a chain of and, or, as a test -/
structure WXt (X : Cx) (W : WX) (e : Expr) (t : TT) (F : S → Res Bool) : Prop where
  pe : PW X e t
  sim : Sim X.K X.mg W (PTt X.K) t F
theorem WXt.t (h : WXt X W e tA FA) : TX X W e tA FA := ⟨h.pe.pt, h.sim⟩
theorem wx_and1 (h : TX X W a tA FA) : WXt X W (.BoolOp .And [a] pos) tA FA := ⟨pw_and1 h.pe, h.sim⟩
theorem wx_or1 (h : TX X W a tA FA) : WXt X W (.BoolOp .Or [a] pos) tA FA := ⟨pw_or1 h.pe, h.sim⟩
theorem wx_and (h : TX X W a tA FA) (h' : WXt X W (.BoolOp .And (b :: rest) pos) tB' FB) : WXt X W (.BoolOp .And (a :: b :: rest) pos) (tAnd tA tB') (tAndF FA FB) := ⟨pw_and h.pe h'.pe, sim_tand h.sim h'.sim⟩
theorem wx_or (h : TX X W a tA FA) (h' : WXt X W (.BoolOp .Or (b :: rest) pos) tB' FB) : WXt X W (.BoolOp .Or (a :: b :: rest) pos) (tOr tA tB') (tOrF FA FB) := ⟨pw_or h.pe h'.pe, sim_tor h.sim h'.sim⟩
def eAndF (fa : S → Res D) (G : S → Res SV) : S → Res SV := fun r => (fa r).bind fun x r => match x with
  | .bool true => G r
  | .bool false => Res.ok (SV.fz (PyData.bool false)) r
  | _ => Res.bad
def eOrF (fa : S → Res D) (G : S → Res SV) : S → Res SV := fun r => (fa r).bind fun x r => match x with
  | .bool false => G r
  | .bool true => Res.ok (SV.fz (PyData.bool true)) r
  | _ => Res.bad
def eNotF (fa : S → Res D) : S → Res SV := fun r => (fa r).bind fun x r => match x with
  | .bool b => Res.ok (SV.fz (PyData.bool (!b))) r
  | _ => Res.bad
theorem ex_one {op} (h : EX X W a ta F) : EX X W (.BoolOp op [a] pos) ta F := ⟨pe_one h.pe, h.sim⟩
theorem ex_and {G : S → Res SV} (h : BX X W a ta fa) (h' : EX X W (.BoolOp .And (b :: rest) pos) tb G) : EX X W (.BoolOp .And (a :: b :: rest) pos) (tAndV ta tb) (eAndF fa G) := by
  refine ⟨pe_and h.pe h'.pe, fun γ Oc r σ H fs g => ?_⟩
  refine SimAt.bind (t2 := fun x H1 Q => ∃ c, x = .bl c ∧ if c = true then tb σ H1 Q else Q (.bl false) H1) (h.sim γ Oc r σ H fs g) fun d r1 v H1 ⟨fs1, g1, v1, s1⟩ => ?_
  refine SimAt.tr s1 ?_
  cases d with
  | bool b =>
    simp only [RE, R] at v1
    cases b with
    | true =>
      exact (h'.sim γ Oc r1 σ H1 fs1 g1).imp fun Q z => ⟨true, v1, by rw [if_pos rfl]; exact z⟩
    | false => exact fun Q hq => ⟨false, v1, by rw [if_neg (by simp)]; exact hq _ _ ⟨fs1, [], g1, ⟨by simp [R], rfl⟩, Stp.refl _ _ _, by simp⟩⟩
  | _ => exact fun Q => trivial
theorem ex_not (h : BX X W a ta fa) : EX X W (.UnaryOp .Not a pos) (tNotV ta) (eNotF fa) := by
  refine ⟨pe_not h.pe, fun γ Oc r σ H fs g => ?_⟩
  refine SimAt.bind (t2 := fun (x : V) H1 (Q : VK) => ∃ c, x = V.bl c ∧ Q (V.bl (!c)) H1) (h.sim γ Oc r σ H fs g) fun d r1 v H1 ⟨fs1, g1, v1, s1⟩ => ?_
  refine SimAt.tr s1 fun Q => ?_
  cases d with
  | bool b =>
    simp only [RE, R] at v1
    exact fun hq => ⟨b, v1, hq _ _ ⟨fs1, [], g1, ⟨by simp [R], rfl⟩, Stp.refl _ _ _, by simp⟩⟩
  | _ => trivial
/-- a if t else b -/
def eIfF (T : S → Res Bool) (F G : S → Res SV) : S → Res SV := fun r => (T r).bind fun b r => if b then F r else G r
theorem ex_if {F G : S → Res SV} (hc : TX X W c tA FA) (ha : EX X W a ta F) (hb : EX X W b tb G) : EX X W (.IfExp c a b pos) (tIf tA ta tb) (eIfF FA F G) := by
  refine ⟨pe_ifExp hc.pe ha.pe hb.pe, fun γ Oc r σ H fs g => ?_⟩
  refine SimAt.bind (t2 := fun c H1 Q => if c = true then ta σ H1 Q else tb σ H1 Q) (hc.sim γ Oc r σ H fs g) fun b r1 c H1 ⟨fs1, g1, v1, s1⟩ => ?_
  refine SimAt.tr s1 ?_
  subst v1
  cases c with
  | true => exact ha.sim γ Oc r1 σ H1 fs1 g1
  | false => exact hb.sim γ Oc r1 σ H1 fs1 g1
end
end QL
namespace QL
open PySem PySem.Spec L2
section
variable {X : Cx} {W : WX} {e a b c : Expr} {es : List Expr} {ta tb tc : TE} {tl : TA} {fa fb fc : S → Res D} {F : S → Res SV} {FL : S → Res (List D)} {pos : Pos}
def aNil : S → Res (List D) := fun r => .ok [] r
def aCons (fa : S → Res D) (F : S → Res (List D)) : S → Res (List D) := fun r => (fa r).bind fun d r => (F r).bind fun ds r => .ok (d :: ds) r
theorem ax_nil : AX X W [] tNil aNil := ⟨pa_nil, fun γ Oc r σ H fs g Q hq => hq [] H ⟨fs, g, by simp [Rs], Stp.refl _ _ _⟩⟩
theorem ax_cons (h : FX X W e ta fa) (h' : AX X W es tl FL) (hs : starEach (e :: es) X.env = (false, eval e X.env) :: starEach es X.env := by rfl) : AX X W (e :: es) (tCons ta tl) (aCons fa FL) := by
  refine ⟨pa_cons h.pe h'.pe hs, fun γ Oc r σ H fs g => ?_⟩
  refine SimAt.bind (t2 := fun x H1 Q => tl σ H1 fun xs H2 => Q (x :: xs) H2) (h.sim γ Oc r σ H fs g) fun d r1 v H1 ⟨fs1, g1, v1, s1⟩ => ?_
  refine SimAt.tr s1 (SimAt.bind (t2 := fun xs H2 Q => Q (v :: xs) H2) (h'.sim γ Oc r1 σ H1 fs1 g1) fun ds r2 vs H2 ⟨fs2, g2, v2, s2⟩ => ?_)
  refine SimAt.tr s2 fun Q hq => hq _ _ ⟨fs2, g2, ?_, Stp.refl _ _ _⟩
  simp only [Rs]
  exact ⟨v, vs, rfl, R.stab g1.ow (g1.stabSub s2) _ _ v1, v2⟩
def eLst (F : S → Res (List D)) : S → Res SV := fun r => (F r).bind fun ds r => if ds.length ≤ sizeLine then .ok (.ol ds) r else .bad
def eTup (F : S → Res (List D)) : S → Res SV := fun r => (F r).bind fun ds r => if ds.length ≤ sizeLine then .ok (.fz (.tuple ds)) r else .bad
theorem ex_lst (h : AX X W es tl FL) : EX X W (.List es pos) (tLst tl) (eLst FL) := by
  refine ⟨pe_lst h.pe, fun γ Oc r σ H fs g => ?_⟩
  refine SimAt.bind (t2 := fun (xs : List V) (H1 : Hp) (Q : VK) => xs.length ≤ sizeLine ∧ ∀ p, H1 p = none → Q (V.ref p) (upd H1 p (HO.lst xs))) (h.sim γ Oc r σ H fs g) fun ds r1 vs H1 ⟨fs1, g1, v1, s1⟩ => ?_
  refine SimAt.tr s1 ?_
  split
  · rename_i hl
    intro Q hq
    exact ⟨by rw [v1.len]; exact hl, fun p hp => ovq_of (z := .nl ds) g1 hq p vs hp v1⟩
  · exact fun Q => trivial
theorem ex_tup {tp : Option Expr} (h : AX X W es tl FL) (hp : PE X e (tTup tl)) : EX X W e (tTup tl) (eTup FL) := by
  refine ⟨hp, fun γ Oc r σ H fs g => ?_⟩
  refine SimAt.bind (t2 := fun (xs : List V) (H1 : Hp) (Q : VK) => xs.length ≤ sizeLine ∧ ∀ p, H1 p = none → Q (V.ref p) (upd H1 p (HO.tup xs))) (h.sim γ Oc r σ H fs g) fun ds r1 vs H1 ⟨fs1, g1, v1, s1⟩ => ?_
  refine SimAt.tr s1 ?_
  split
  · rename_i hl
    intro Q hq
    exact ⟨by rw [v1.len]; exact hl, fun p hp => ovq_of (z := .nt ds) g1 hq p vs hp v1⟩
  · exact fun Q => trivial
/-- {} -/
def eDK : S → Res SV := fun r => .ok (.od []) r
def eDT : S → Res SV := fun r => .ok (.ot []) r
def dIx : D → D → Option OV
  | .list ds, .int i => (atI ds i).map .fz
  | .tuple ds, .int i => (atI ds i).map .fz
  | .str z, .int i => if z.length ≤ sizeLine then (atI z.cps.toList i).map fun c => .fz (.str (tx [c])) else none
  | _, _ => none
theorem ops_ix {K : PySem.W.Frag} : OpS K (rIx K) dIx := by
  intro γ O H x y v w z Q ow hx hy e hq
  unfold dIx at e
  split at e
  · rename_i ds i
    simp only [Option.map_eq_some_iff] at e
    obtain ⟨d, e1, e2⟩ := e
    subst e2
    obtain ⟨a, vs, q1, q2, q3⟩ := hx.tracked
    simp only [RE, R] at hy
    obtain ⟨u, h1, h2⟩ := q3.at e1
    exact .inl ⟨a, vs, i, u, q1, hy, .inl (.inl q2), h1, hq u h2⟩
  · rename_i ds i
    simp only [Option.map_eq_some_iff] at e
    obtain ⟨d, e1, e2⟩ := e
    subst e2
    simp only [RE, R] at hx hy
    obtain ⟨a, vs, q1, q2, q3⟩ := hx
    obtain ⟨u, h1, h2⟩ := q3.at e1
    exact .inr (.inl ⟨a, vs, i, u, q1, hy, TupAt.sq q2, h1, hq u h2⟩)
  · rename_i s i
    split at e
    · rename_i hl
      simp only [Option.map_eq_some_iff] at e
      obtain ⟨c, e1, e2⟩ := e
      subst e2
      simp only [RE, R] at hx hy
      exact .inr (.inr ⟨s, i, c, hx, hy, hl, e1, hq _ (by simp [R]; rfl)⟩)
    · cases e
  · cases e
theorem ex_ix (ha : BX X W a ta fa) (hb : BX X W b tb fb) (hs : PlainIx b) : EX X W (.Subscript a b pos) (tOp (rIx X.K) ta tb) (fOp dIx fa fb) :=
  ⟨pe_ix ix_seq ha.pe hb.pe hs, sim_op ops_ix ha.sim hb.sim⟩
def cutL {α : Type} (xs : List α) (lo hi : Option Int) : List α := (xs.drop (HT.sIx xs.length 0 lo)).take (HT.sIx xs.length xs.length hi - HT.sIx xs.length 0 lo)
def dSl (x : D) (lo hi : Option Int) : Option OV := match x with
  | .list ds => some (.nl (cutL ds lo hi))
  | .str z => if z.length ≤ sizeLine then some (.fz (.str (tx (cutL z.cps.toList lo hi)))) else none
  | .tuple ds => if HT.sIx ds.length 0 lo = 0 ∧ HT.sIx ds.length ds.length hi = ds.length then some (.fz (.tuple ds)) else some (.nt (cutL ds lo hi))
  | _ => none
/-- a slice's part -/
structure OX (X : Cx) (W : WX) (e : Option Expr) (t : TO) (F : S → Res (Option Int)) : Prop where
  pe : PO X e t
  sim : Sim X.K X.mg W (fun γ Oc r' σ H fs H' (b : Option Int) (c : Option Int) => ∃ fs', Good X.K γ Oc r' σ H' fs' ∧ c = b ∧ Stp γ.T fs H fs' H') t F
def oNon : S → Res (Option Int) := fun r => .ok none r
def oSom (fa : S → Res D) : S → Res (Option Int) := fun r => (fa r).bind fun d r => match d with
  | .int i => Res.ok (some i) r
  | _ => Res.bad
theorem ox_none : OX X W none tNoPart oNon := ⟨po_none, fun γ Oc r σ H fs g Q hq => hq _ _ ⟨fs, g, rfl, Stp.refl _ _ _⟩⟩
theorem ox_some (h : BX X W e ta fa) : OX X W (some e) (tPart ta) (oSom fa) := by
  refine ⟨po_some h.pe, fun γ Oc r σ H fs g => ?_⟩
  refine SimAt.bind (t2 := fun (x : V) H1 (Q : Option Int → Hp → Prop) => ∃ i, x = V.int i ∧ Q (some i) H1) (h.sim γ Oc r σ H fs g) fun d r1 v H1 ⟨fs1, g1, v1, s1⟩ => ?_
  intro Q
  cases d with
  | int i =>
    simp only [RE, R] at v1
    exact fun hq => ⟨i, v1, hq _ _ ⟨fs1, g1, rfl, s1⟩⟩
  | _ => trivial
def rSl (K : PySem.W.Frag) : V → Option Int → Option Int → Hp → VK → Prop := fun x lo hi H Q => rSlL K x lo hi H Q ∨ rSlS x lo hi H Q ∨ rSlA K x lo hi H Q
theorem sl_any : SlR X (rSl X.K) := SlR.or sl_list (SlR.or sl_str sl_tupA)
def fSl (fa : S → Res D) (fl fh : S → Res (Option Int)) : S → Res SV := fun r => (fa r).bind fun x r => (fl r).bind fun l r => (fh r).bind fun h r => ovR (dSl x l h) r
theorem Rs.cut {K : PySem.W.Frag} {O : List Addr} {H : Hp} {ds : List D} {vs : List V} (h : Rs K O H ds vs) (lo hi : Option Int) : Rs K O H (cutL ds lo hi) (cutV vs lo hi) := by
  unfold cutL cutV
  rw [h.len]
  exact (h.drop _).take _
theorem ex_sl {lo hi : Option Expr} {tlo thi : TO} {fl fh : S → Res (Option Int)} {p2 : Pos} (ha : BX X W a ta fa) (hl : OX X W lo tlo fl) (hh : OX X W hi thi fh) : EX X W (.Subscript a (.Slice lo hi none p2) pos) (tSl (rSl X.K) ta tlo thi) (fSl fa fl fh) := by
  refine ⟨pe_slice sl_any ha.pe hl.pe hh.pe, fun γ Oc r σ H fs g => ?_⟩
  refine SimAt.bind (t2 := fun x H1 Q => tlo σ H1 fun l H2 => thi σ H2 fun u H3 => rSl X.K x l u H3 Q) (ha.sim γ Oc r σ H fs g) fun d r1 v H1 ⟨fs1, g1, v1, s1⟩ => ?_
  refine SimAt.tr s1 (SimAt.bind (t2 := fun l H2 Q => thi σ H2 fun u H3 => rSl X.K v l u H3 Q) (hl.sim γ Oc r1 σ H1 fs1 g1) fun l r2 l' H2 ⟨fs2, g2, v2, s2⟩ => ?_)
  refine SimAt.tr s2 (SimAt.bind (t2 := fun u H3 Q => rSl X.K v l' u H3 Q) (hh.sim γ Oc r2 σ H2 fs2 g2) fun u r3 u' H3 ⟨fs3, g3, v3, s3⟩ => ?_)
  refine SimAt.tr s3 fun Q => ?_
  subst v2 v3
  have vv := (v1.keep g1 s2).keep g2 s3
  unfold ovR
  cases q : dSl d l' u' with
  | none => trivial
  | some z =>
    intro hq
    have hq := ovq_of g3 hq
    unfold dSl at q
    cases d with
    | list ds =>
      cases q
      obtain ⟨p, vs, q1, q2, q3⟩ := vv.tracked
      exact .inl ⟨p, vs, q1, .inl (.inl q2), fun p hp => hq p _ hp (q3.cut _ _)⟩
    | str s =>
      simp only at q
      split at q
      · rename_i hl
        cases q
        simp only [RE, R] at vv
        exact .inr (.inl ⟨s, vv, hl, hq _ (by simp only [R]; rfl)⟩)
      · cases q
    | tuple ds =>
      simp only [RE, R] at vv
      obtain ⟨p, vs, q1, q2, q3⟩ := vv
      refine .inr (.inr ⟨p, vs, q1, TupAt.sq q2, fun h => ?_, fun h => ?_⟩)
      · rw [q3.len] at h
        simp only [h, and_self, if_true] at q
        cases q
        exact hq _ (by simp only [R]; exact ⟨p, vs, rfl, q2, q3⟩)
      · rw [q3.len] at h
        simp only [if_neg h] at q
        cases q
        exact fun p' hp => hq p' _ hp (q3.cut _ _)
    | _ => cases q
def dRev : D → Option OV
  | .list ds => some (.nl ds.reverse)
  | .str z => if z.length ≤ sizeLine then some (.fz (.str (tx z.cps.toList.reverse))) else none
  | _ => none
end
end QL
namespace QL
open PySem PySem.Spec L2
inductive RS where
  | nx (s : S) | bk (s : S) | ct (s : S) | rt (v : SV) (s : S) | exc (c : Str) (f : List (Str × D)) (s : S) | bad
def Res.bindS {α : Type} (r : Res α) (k : α → S → RS) : RS :=
  match r with
  | .ok a s => k a s
  | .exc c f s => .exc c f s
  | .bad => .bad
variable (K : PySem.W.Frag) (mg : Str → Option Value)
def NP (γ : Gh) (Oc : List Addr) (r' : S) (H : Hp) (fs : List Addr) (σ' : St) (H' : Hp) : Prop := ∃ fs', Good K γ Oc r' σ' H' fs' ∧ Evo fs H fs' H'
def RP (γ : Gh) (Oc : List Addr) (r' : S) (H : Hp) (fs : List Addr) (x : SV) (v : V) (H' : Hp) : Prop :=
  ∃ σ' fs' fp, Good K γ (fp ++ Oc) r' σ' H' fs' ∧ SVR K γ (fs' ++ (fp ++ Oc)) H' x v fp ∧ Evo fs H (fs' ++ fp) H'
def XPs (γ : Gh) (Oc : List Addr) (r' : S) (H : Hp) (fs : List Addr) (σ' : St) (H' : Hp) (c : Str) (f : List (Str × D)) (C : Addr) (d : Option Addr) : Prop :=
  ∃ fs', Good K γ Oc r' σ' H' fs' ∧ Evo fs H fs' H' ∧ mg c = some (.ref C) ∧ XR K (fs' ++ Oc) H' f d
def SimSAt (W : WX) (γ : Gh) (Oc : List Addr) (H : Hp) (fs : List Addr) (t : Ends → Prop) (R : RS) : Prop :=
  ∀ E : Ends, match R with
    | .nx r' => (∀ σ' H', NP K γ Oc r' H fs σ' H' → E.nx σ' H') → t E
    | .bk r' => (∀ σ' H', NP K γ Oc r' H fs σ' H' → E.bk σ' H') → t E
    | .ct r' => (∀ σ' H', NP K γ Oc r' H fs σ' H' → E.ct σ' H') → t E
    | .rt x r' => (∀ v H', RP K γ Oc r' H fs x v H' → E.rt v H') → t E
    | .exc c f r' => (∀ C d σ' H', XPs K mg γ Oc r' H fs σ' H' c f C d → W (.ref C) d σ' H') → t E
    | .bad => True
def SimS (W : WX) (t : TS) (F : S → RS) : Prop :=
  ∀ γ Oc r σ H fs, Good K γ Oc r σ H fs → SimSAt K mg W γ Oc H fs (fun E => t E σ H) (F r)
section
variable {K : PySem.W.Frag} {mg : Str → Option Value} {W : WX} {γ : Gh} {Oc : List Addr} {r r1 r2 : S} {σ : St} {H H' H1 H2 : Hp} {fs fs1 fp : List Addr}
theorem NP.tr {r' : S} {σ' : St} (s : Evo fs H fs1 H1) (h : NP K γ Oc r' H1 fs1 σ' H') : NP K γ Oc r' H fs σ' H' := by
  obtain ⟨f, g, e⟩ := h
  exact ⟨f, g, s.trans e⟩
theorem RP.tr {r' : S} {x : SV} {v : V} (s : Evo fs H fs1 H1) (h : RP K γ Oc r' H1 fs1 x v H') : RP K γ Oc r' H fs x v H' := by
  obtain ⟨σ', f, p, g, z, e⟩ := h
  exact ⟨σ', f, p, g, z, s.trans e⟩
theorem XPs.tr {r' : S} {σ' : St} {c : Str} {f : List (Str × D)} {C : Addr} {d : Option Addr} (s : Evo fs H fs1 H1) (h : XPs K mg γ Oc r' H1 fs1 σ' H' c f C d) : XPs K mg γ Oc r' H fs σ' H' c f C d := by
  obtain ⟨f, g, e, z⟩ := h
  exact ⟨f, g, s.trans e, z⟩
theorem XP.ps {r' : S} {c : Str} {f : List (Str × D)} {C : Addr} {d : Option Addr} (h : XP K mg γ Oc r' σ H fs H' c f C d) : XPs K mg γ Oc r' H fs σ H' c f C d := by
  obtain ⟨f, g, e, z⟩ := h
  exact ⟨f, g, e.evo, z⟩
theorem SimSAt.tr {t : Ends → Prop} {R : RS} (s : Evo fs H fs1 H1) (h : SimSAt K mg W γ Oc H1 fs1 t R) : SimSAt K mg W γ Oc H fs t R := by
  intro E
  have z := h E
  cases R with
  | bad => trivial
  | nx r' => exact fun q => z fun σ' H' p => q _ _ (p.tr s)
  | bk r' => exact fun q => z fun σ' H' p => q _ _ (p.tr s)
  | ct r' => exact fun q => z fun σ' H' p => q _ _ (p.tr s)
  | rt x r' => exact fun q => z fun σ' H' p => q _ _ (p.tr s)
  | exc c f r' => exact fun q => z fun C d σ' H' p => q _ _ _ _ (p.tr s)
theorem SimSAt.imp {t t' : Ends → Prop} {R : RS} (h : SimSAt K mg W γ Oc H fs t R) (hi : ∀ E, t E → t' E) : SimSAt K mg W γ Oc H fs t' R := by
  intro E
  have z := h E
  cases R with
  | bad => trivial
  | nx r' => exact fun q => hi _ (z q)
  | bk r' => exact fun q => hi _ (z q)
  | ct r' => exact fun q => hi _ (z q)
  | rt x r' => exact fun q => hi _ (z q)
  | exc c f r' => exact fun q => hi _ (z q)
/-- an expression ahead of a statement's end -/
theorem SimSAt.bindE {α β : Type} {P : Pst α β} {t1 : (β → Hp → Prop) → Prop} {t2 : β → Hp → Ends → Prop} {x : Res α} {F2 : α → S → RS}
    (h1 : SimAt K mg W P γ Oc σ H fs t1 x) (h2 : ∀ a r1 y H1, P γ Oc r1 σ H fs H1 a y → SimSAt K mg W γ Oc H fs (t2 y H1) (F2 a r1)) :
    SimSAt K mg W γ Oc H fs (fun E => t1 fun y H1 => t2 y H1 E) (x.bindS F2) := by
  intro E
  cases x with
  | bad => trivial
  | exc c f r' => exact fun hw => h1 _ fun C d H' p => hw C d σ H' p.ps
  | ok a r1 =>
    have eb : (Res.ok a r1).bindS F2 = F2 a r1 := rfl
    rw [eb]
    have k := fun y H1 p => h2 a r1 y H1 p E
    generalize F2 a r1 = z at k ⊢
    cases z with
    | bad => trivial
    | nx r' => exact fun q => h1 _ fun y H1 p => k y H1 p q
    | bk r' => exact fun q => h1 _ fun y H1 p => k y H1 p q
    | ct r' => exact fun q => h1 _ fun y H1 p => k y H1 p q
    | rt x r' => exact fun q => h1 _ fun y H1 p => k y H1 p q
    | exc c f r' => exact fun q => h1 _ fun y H1 p => k y H1 p q
/-- count's way to "no address twice" -/
theorem nd_of {l l' : List Addr} (h : ∀ a, l'.count a ≤ l.count a) (n : l.Nodup) : l'.Nodup :=
  List.nodup_iff_count.mpr fun a => Nat.le_trans (h a) (List.nodup_iff_count.mp n a)
/-- a value goes into a slot -/
theorem Good.store {x : SV} {v : V} {i : Nat} (g : Good K γ (fp ++ Oc) r σ H fs) (hv : SVR K γ (fs ++ (fp ++ Oc)) H x v fp) (hi : i < r.sl.length) :
    ∃ fs', Good K γ Oc { r with sl := r.sl.set i (some x) } (σ.set i (some v)) H fs' ∧ ∀ a ∈ fs', a ∈ fs ∨ a ∈ fp := by
  obtain ⟨⟨f1, f2, e, sl, tp⟩, nd, ow, tt⟩ := g
  obtain ⟨a1, a2, a3, e2, _, hset, _⟩ := sl.upd hi
  have sub : ∀ a ∈ ((a1 ++ (fp ++ a3)) ++ f2) ++ Oc, a ∈ fs ++ (fp ++ Oc) := fun a z => by
    rw [e, e2]
    simp only [List.mem_append] at z ⊢
    rcases z with ((z | z | z) | z) | z <;> simp [z]
  have st : Stab (fs ++ (fp ++ Oc)) H (((a1 ++ (fp ++ a3)) ++ f2) ++ Oc) H := Stab.weak sub fun _ _ z => z
  refine ⟨(a1 ++ (fp ++ a3)) ++ f2, ⟨⟨_, f2, rfl, hset ow st (fun _ _ => rfl) (hv.stab ow st fun _ _ => rfl), tp⟩, ?_, ow.mono sub, tt⟩, fun a z => ?_⟩
  · refine nd_of (fun a => ?_) nd
    rw [e, e2]
    simp only [List.count_append]
    omega
  · rw [e, e2]
    simp only [List.mem_append] at z ⊢
    rcases z with (z | z | z) | z <;> simp [z]
/-- a slot's value is taken out -/
theorem Good.take {x : SV} {i : Nat} (g : Good K γ Oc r σ H fs) (h : r.sl[i]? = some (some x)) :
    ∃ v fs' fp, σ[i]? = some (some v) ∧ Good K γ (fp ++ Oc) { r with sl := r.sl.set i none } σ H fs' ∧ SVR K γ (fs' ++ (fp ++ Oc)) H x v fp ∧ ∀ a ∈ fs' ++ fp, a ∈ fs := by
  obtain ⟨⟨f1, f2, e, sl, tp⟩, nd, ow, tt⟩ := g
  have hi : i < r.sl.length := (List.getElem?_eq_some_iff.mp h).1
  obtain ⟨a1, a2, a3, e2, hy, _, hlet⟩ := sl.upd hi
  obtain ⟨v, e3, hv⟩ := hy _ h
  have sub : ∀ a ∈ ((a1 ++ a3) ++ f2) ++ (a2 ++ Oc), a ∈ fs ++ Oc := fun a z => by
    rw [e, e2]
    simp only [List.mem_append] at z ⊢
    rcases z with ((z | z) | z) | z | z <;> simp [z]
  have st : Stab (fs ++ Oc) H (((a1 ++ a3) ++ f2) ++ (a2 ++ Oc)) H := Stab.weak sub fun _ _ z => z
  refine ⟨v, (a1 ++ a3) ++ f2, a2, e3, ⟨⟨_, f2, rfl, hlet ow st fun _ _ => rfl, tp⟩, ?_, ow.mono sub, tt⟩, hv.stab ow st fun _ _ => rfl, fun a z => ?_⟩
  · refine nd_of (fun a => ?_) nd
    rw [e, e2]
    simp only [List.count_append]
    omega
  · rw [e, e2]
    simp only [List.mem_append] at z ⊢
    rcases z with ((z | z) | z) | z <;> simp [z]
end
/-- a statement: its rule and its mirror -/
structure SX (X : Cx) (W : WX) (st : Stmt) (t : TS) (F : S → RS) : Prop where
  ps : PS X st t
  sim : SimS X.K X.mg W t F
structure SSX (X : Cx) (W : WX) (st : List Stmt) (t : TS) (F : S → RS) : Prop where
  ps : PSs X st t
  sim : SimS X.K X.mg W t F
/-- a target -/
structure GX (X : Cx) (tg : Expr) (g : TG) (G : D → S → Option S) : Prop where
  pg : PG X tg g
  sim : ∀ γ Oc r σ H fs d v r', Good X.K γ Oc r σ H fs → R X.K (fs ++ Oc) H d v → G d r = some r' → ∀ Q, (∀ σ' fs', Good X.K γ Oc r' σ' H fs' → (∀ a ∈ fs', a ∈ fs) → Q σ' H) → g v σ H Q
section
variable {X : Cx} {W : WX} {e a b c : Expr} {es : List Expr} {st : Stmt} {rest : List Stmt} {ta tb tc : TE} {tl : TA} {tA : TT} {fa fb fc : S → Res D} {F G : S → Res SV} {B B2 : S → RS} {FA : S → Res Bool} {t u : TS} {pos : Pos}
def sNext : S → RS := fun r => .nx r
def sBad : S → RS := fun _ => .bad
def RS.go (x : RS) (k : S → RS) : RS := match x with
  | .nx r => k r
  | .bk r => .bk r
  | .ct r => .ct r
  | .rt v r => .rt v r
  | .exc c f r => .exc c f r
  | .bad => .bad
def sSeq (F G : S → RS) : S → RS := fun r => (F r).go G
theorem sim_seq {K : PySem.W.Frag} {mg : Str → Option Value} (h1 : SimS K mg W t B) (h2 : SimS K mg W u B2) : SimS K mg W (tSeq t u) (sSeq B B2) := by
  intro γ Oc r σ H fs g E
  have z := h1 γ Oc r σ H fs g { E with nx := u E }
  unfold sSeq
  cases e : B r with
  | bad => trivial
  | bk r' => rw [e] at z; exact z
  | ct r' => rw [e] at z; exact z
  | rt x r' => rw [e] at z; exact z
  | exc c f r' => rw [e] at z; exact z
  | nx r' =>
    rw [e] at z
    have k := fun σ' H' fs' g' (v : Evo fs H fs' H') => SimSAt.tr v (h2 γ Oc r' σ' H' fs' g') E
    have eg : (RS.nx r').go B2 = B2 r' := rfl
    rw [eg]
    generalize B2 r' = y at k ⊢
    cases y with
    | bad => trivial
    | nx r2 => exact fun q => z fun σ' H' ⟨fs', g', v⟩ => k σ' H' fs' g' v q
    | bk r2 => exact fun q => z fun σ' H' ⟨fs', g', v⟩ => k σ' H' fs' g' v q
    | ct r2 => exact fun q => z fun σ' H' ⟨fs', g', v⟩ => k σ' H' fs' g' v q
    | rt x r2 => exact fun q => z fun σ' H' ⟨fs', g', v⟩ => k σ' H' fs' g' v q
    | exc c f r2 => exact fun q => z fun σ' H' ⟨fs', g', v⟩ => k σ' H' fs' g' v q
theorem sim_next {K : PySem.W.Frag} {mg : Str → Option Value} : SimS K mg W tNext sNext := fun γ Oc r σ H fs g E q => q σ H ⟨fs, g, Evo.refl _ _⟩
theorem ssx_nil : SSX X W [] tNext sNext := ⟨pss_nil, sim_next⟩
theorem ssx_one (h : SX X W st t B) : SSX X W [st] t B := ⟨pss_one h.ps, h.sim⟩
theorem ssx_cons (h : SX X W st t B) (h2 : SSX X W rest u B2) : SSX X W (st :: rest) (tSeq t u) (sSeq B B2) := ⟨pss_cons h.ps h2.ps, sim_seq h.sim h2.sim⟩
theorem sx_never : SX X W st tNever sBad := ⟨ps_never, fun γ Oc r σ H fs g E => trivial⟩
/-- an expression as a statement -/
def sExp (F : S → Res SV) : S → RS := fun r => (F r).bindS fun _ r => .nx r
theorem sx_expr (h : EX X W e ta F) (hs : swapsWith e none pos.line X.env = pure false := by rfl) : SX X W (.Expr e pos) (tDrop ta) (sExp F) := by
  refine ⟨ps_expr h.pe hs, fun γ Oc r σ H fs g => ?_⟩
  refine SimSAt.bindE (t2 := fun (y : V) (H1 : Hp) (E : Ends) => E.nx σ H1) (h.sim γ Oc r σ H fs g) fun x r1 y H1 p => ?_
  obtain ⟨fs', fp, g', v', s, n⟩ := p
  exact fun E q => q _ _ ⟨fs', g'.drop, s.evo⟩
/-- return -/
def sRet (F : S → Res SV) : S → RS := fun r => (F r).bindS fun x r => .rt x r
theorem sx_ret (h : EX X W e ta F) : SX X W (.Return (some e) pos) (tRet ta) (sRet F) := by
  refine ⟨ps_ret h.pe, fun γ Oc r σ H fs g => ?_⟩
  refine SimSAt.bindE (t2 := fun (y : V) (H1 : Hp) (E : Ends) => E.rt y H1) (h.sim γ Oc r σ H fs g) fun x r1 y H1 p => ?_
  obtain ⟨fs', fp, g', v', s, n⟩ := p
  refine fun E q => q _ _ ⟨σ, fs', fp, g', v', ⟨fun a h => ?_, fun a o e hn ht => s.keep a o e (fun _ => hn) ht, s.there, s.tb⟩⟩
  rcases List.mem_append.mp h with h | h
  · exact .inl (s.sub a h)
  · exact .inr (n a h)
def sRetN : S → RS := fun r => .rt (.fz .none) r
/-- return x: what the name owns goes along -/
def sRetV (i : Nat) : S → RS := fun r => match r.sl[i]? with
  | some (some x) => .rt x { r with sl := r.sl.set i none }
  | _ => .bad
theorem sx_retV {i : Nat} (h : PE X e (tVar i)) : SX X W (.Return (some e) pos) (tRet (tVar i)) (sRetV i) := by
  refine ⟨ps_ret h, fun γ Oc r σ H fs g E => ?_⟩
  unfold sRetV
  cases q : r.sl[i]? with
  | none => trivial
  | some o =>
    cases o with
    | none => trivial
    | some x =>
      intro hq
      obtain ⟨v, fs', fp, e1, g', v', sub⟩ := g.take q
      exact ⟨v, e1, hq _ _ ⟨σ, fs', fp, g', v', fun a h => .inl (sub a h), fun a o z _ _ => z, fun a z => z, fun _ z => z⟩⟩
/-- if -/
def sIf (T : S → Res Bool) (A B : S → RS) : S → RS := fun r => (T r).bindS fun b r => if b then A r else B r
theorem sx_if {p q : List Stmt} (hc : TX X W c tA FA) (h1 : SSX X W p t B) (h2 : SSX X W q u B2) : SX X W (.If c p q pos) (tIfS tA t u) (sIf FA B B2) := by
  refine ⟨ps_if hc.pe h1.ps h2.ps, fun γ Oc r σ H fs g => ?_⟩
  refine SimSAt.bindE (t2 := fun (c : Bool) (H1 : Hp) (E : Ends) => if c = true then t E σ H1 else u E σ H1) (hc.sim γ Oc r σ H fs g) fun b r1 c H1 ⟨fs1, g1, v1, s1⟩ => ?_
  refine SimSAt.tr s1.evo ?_
  subst v1
  cases c with
  | true => exact h1.sim γ Oc r1 σ H1 fs1 g1
  | false => exact h2.sim γ Oc r1 σ H1 fs1 g1
/-- a slot is set -/
def setS (i : Nat) (x : SV) (r : S) : RS := if i < r.sl.length then .nx { r with sl := r.sl.set i (some x) } else .bad
def sAsg (i : Nat) (F : S → Res SV) : S → RS := fun r => (F r).bindS fun x r => setS i x r
theorem sim_setS {K : PySem.W.Frag} {mg : Str → Option Value} {γ : Gh} {Oc fs fp fs0 : List Addr} {r : S} {σ : St} {H H0 : Hp} {i : Nat} {x : SV} {v : V} (g : Good K γ (fp ++ Oc) r σ H fs) (hv : SVR K γ (fs ++ (fp ++ Oc)) H x v fp) (s : Evo fs0 H0 (fs ++ fp) H) :
    SimSAt K mg W γ Oc H0 fs0 (fun E => E.nx (σ.set i (some v)) H) (setS i x r) := by
  unfold setS
  split
  · rename_i hi
    intro E q
    obtain ⟨fs', g', sub⟩ := g.store hv hi
    refine q _ _ ⟨fs', g', fun a h => s.sub a ?_, @Evo.keep _ _ _ _ s, s.there, s.tb⟩
    exact List.mem_append.mpr (sub a h)
  · exact fun E => trivial
theorem Stp.evo2 {T : Option Addr} {fs fs' fp : List Addr} {H H' : Hp} (s : Stp T fs H fs' H') (n : ∀ a ∈ fp, H a = Option.none) : Evo fs H (fs' ++ fp) H' :=
  ⟨fun a h => (List.mem_append.mp h).elim (fun z => .inl (s.sub a z)) fun z => .inr (n a z), fun a o e hn ht => s.keep a o e (fun _ => hn) ht, s.there, s.tb⟩
theorem sx_asg {i : Nat} {tg : Expr} (h : EX X W e ta F) (hp : PS X (.Assign [tg] e pos) (tAsg ta (gName i))) : SX X W (.Assign [tg] e pos) (tAsg ta (gName i)) (sAsg i F) := by
  refine ⟨hp, fun γ Oc r σ H fs g => ?_⟩
  refine SimSAt.bindE (t2 := fun (y : V) (H1 : Hp) (E : Ends) => E.nx (σ.set i (some y)) H1) (h.sim γ Oc r σ H fs g) fun x r1 y H1 p => ?_
  obtain ⟨fs', fp, g', v', s, n⟩ := p
  exact sim_setS g' v' (s.evo2 n)
end
section
variable {K : PySem.W.Frag} {mg : Str → Option Value} {W : WX} {γ : Gh} {Oc Oc' : List Addr} {r r1 r2 : S} {σ : St} {H H' H1 H2 : Hp} {fs fs1 fp : List Addr}
theorem Good.perm (g : Good K γ Oc r σ H fs) (p : Oc.Perm Oc') : Good K γ Oc' r σ H fs := by
  obtain ⟨⟨f1, f2, e, sl, tp⟩, nd, ow, tt⟩ := g
  have sub : ∀ a ∈ fs ++ Oc', a ∈ fs ++ Oc := fun a h => by
    simp only [List.mem_append] at h ⊢
    exact h.imp id fun z => p.mem_iff.mpr z
  refine ⟨⟨f1, f2, e, sl.stab ow (Stab.weak sub fun _ _ z => z) fun _ _ => rfl, tp⟩, ?_, ow.mono sub, tt⟩
  exact (List.Perm.nodup_iff (List.Perm.append_left fs p)).mp nd
theorem SVR.mono {O O' : List Addr} {x : SV} {v : V} (ow : Own O H) (s : ∀ a ∈ O', a ∈ O) (h : SVR K γ O H x v fp) : SVR K γ O' H x v fp := h.stab ow (Stab.weak s fun _ _ z => z) fun _ _ => rfl
def SVRs (K : PySem.W.Frag) (γ : Gh) (O : List Addr) (H : Hp) : List SV → List V → List Addr → Prop
  | [], vs, fp => vs = [] ∧ fp = []
  | x :: xs, vs, fp => ∃ v ws f1 f2, vs = v :: ws ∧ fp = f1 ++ f2 ∧ SVR K γ O H x v f1 ∧ SVRs K γ O H xs ws f2
theorem SVRs.stab {O O' : List Addr} (ow : Own O H) (st : Stab O H O' H') : ∀ {xs : List SV} {vs : List V} {fp : List Addr}, (∀ a ∈ fp, H' a = H a) → SVRs K γ O H xs vs fp → SVRs K γ O' H' xs vs fp
  | [], vs, fp, _, h => h
  | x :: xs, vs, fp, k, h => by
    obtain ⟨v, ws, f1, f2, e1, e2, h1, h2⟩ := h
    subst e2
    exact ⟨v, ws, f1, f2, e1, rfl, h1.stab ow st fun a z => k a (List.mem_append_left _ z), SVRs.stab ow st (fun a z => k a (List.mem_append_right _ z)) h2⟩
def POL (K : PySem.W.Frag) : Pst (List SV) (List V) := fun γ Oc r' σ H fs H' xs vs => ∃ fs' fp, Good K γ (fp ++ Oc) r' σ H' fs' ∧ SVRs K γ (fs' ++ (fp ++ Oc)) H' xs vs fp ∧ Stp γ.T fs H fs' H' ∧ ∀ a ∈ fp, H a = none
instance : PstT (POL K) := ⟨fun s ⟨f, p, a, b, c, d⟩ => ⟨f, p, a, b, s.trans c, fun x hx => s.none (d x hx)⟩⟩
/-- what stands while new objects come -/
theorem Good.stabNew {f2 : List Addr} (s : Stp γ.T fs H fs1 H1) (n : ∀ a ∈ f2, H a = none) : Stab (fs ++ (fp ++ Oc)) H (fs1 ++ ((fp ++ f2) ++ Oc)) H1 := fun a h e => by
  simp only [List.mem_append, not_or] at h ⊢
  have nf : a ∉ fs := h.1
  refine ⟨⟨fun z => nf (s.sub a z), ⟨h.2.1, fun z => e (n a z)⟩, h.2.2⟩, fun u hu q => ?_, fun u hu q => s.keep a _ q (fun _ => nf) hu.nt⟩
  rcases q with q | ⟨o, q⟩
  · exact .inl (s.keep a _ q (fun _ => nf) hu.nt)
  · exact .inr ⟨o, s.keep a _ q fun _ => nf⟩
theorem Good.tmp (g : Good K γ (fp ++ Oc) r σ H fs) (s : Stp γ.T fs H fs1 H1) : ∀ a ∈ fp, H1 a = H a := fun a h => by
  obtain ⟨o, ho, ld⟩ := g.ow a (by simp [h])
  rw [ho]
  refine s.keep a o ho (fun hT hf => ?_) ld.nt
  exact (List.nodup_append.mp g.nd).2.2 a hf a (by simp [h]) rfl
end
/-- owned arguments: their rule and their mirror -/
structure OAX (X : Cx) (W : WX) (es : List Expr) (t : TA) (F : S → Res (List SV)) : Prop where
  pe : PA X es t
  sim : Sim X.K X.mg W (POL X.K) t F
section
variable {X : Cx} {W : WX} {e a b c : Expr} {es : List Expr} {st : Stmt} {rest : List Stmt} {ta tb tc : TE} {tl : TA} {tA : TT} {fa fb fc : S → Res D} {F G : S → Res SV} {FL : S → Res (List SV)} {B B2 : S → RS} {FA : S → Res Bool} {t u : TS} {pos : Pos}
def oNil : S → Res (List SV) := fun r => .ok [] r
def oCons (F : S → Res SV) (G : S → Res (List SV)) : S → Res (List SV) := fun r => (F r).bind fun x r => (G r).bind fun xs r => .ok (x :: xs) r
theorem oax_nil : OAX X W [] tNil oNil := ⟨pa_nil, fun γ Oc r σ H fs g Q hq => hq [] H ⟨fs, [], g, ⟨rfl, rfl⟩, Stp.refl _ _ _, by simp⟩⟩
theorem oax_cons (h : EX X W e ta F) (h' : OAX X W es tl FL) (hs : starEach (e :: es) X.env = (false, eval e X.env) :: starEach es X.env := by rfl) : OAX X W (e :: es) (tCons ta tl) (oCons F FL) := by
  refine ⟨pa_cons h.pe h'.pe hs, fun γ Oc r σ H fs g => ?_⟩
  refine SimAt.bind (t2 := fun (x : V) (H1 : Hp) (Q : List V → Hp → Prop) => tl σ H1 fun xs H2 => Q (x :: xs) H2) (h.sim γ Oc r σ H fs g) fun x r1 v H1 ⟨fs1, f1, g1, v1, s1, n1⟩ => ?_
  intro Q
  have z := h'.sim γ (f1 ++ Oc) r1 σ H1 fs1 g1
  have sub : ∀ {f2 : List Addr}, ∀ a ∈ f2 ++ Oc, a ∈ f2 ++ (f1 ++ Oc) := fun {f2} a h => by
    simp only [List.mem_append] at h ⊢
    rcases h with h | h <;> simp [h]
  cases q : FL r1 with
  | bad => trivial
  | exc c f r' =>
    rw [q] at z
    refine fun hw => z _ fun C d H2 p => hw C d H2 ?_
    obtain ⟨fs2, g2, s2, m, y⟩ := p
    refine ⟨fs2, g2.drop, s1.trans s2, m, ?_⟩
    rcases y with y | ⟨dd, ws, e1, e2, e3, e4⟩
    · exact .inl y
    · exact .inr ⟨dd, ws, e1, e2, e3, Rs.stab g2.ow (Stab.weak sub fun _ _ z => z) _ _ e4⟩
  | ok xs r2 =>
    rw [q] at z
    refine fun hq => z _ fun ws H2 p => hq (v :: ws) H2 ?_
    obtain ⟨fs2, f2, g2, v2, s2, n2⟩ := p
    have pm : (f2 ++ (f1 ++ Oc)).Perm ((f1 ++ f2) ++ Oc) := by
      rw [← List.append_assoc]
      exact List.Perm.append_right Oc List.perm_append_comm
    refine ⟨fs2, f1 ++ f2, g2.perm pm, ⟨v, ws, f1, f2, rfl, rfl, v1.stab g1.ow (Good.stabNew s2 n2) (g1.tmp s2), v2.stab g2.ow (Stab.weak (fun a h => ?_) fun _ _ z => z) fun _ _ => rfl⟩, s1.trans s2, fun a h => ?_⟩
    · simp only [List.mem_append] at h ⊢
      rcases h with h | (h | h) | h <;> simp [h]
    · rcases List.mem_append.mp h with h | h
      · exact n1 a h
      · exact s1.none (n2 a h)
/-- x, y = a, b -/
def sPar2 (i j : Nat) (F : S → Res (List SV)) : S → RS := fun r => (F r).bindS fun xs r => match xs with
  | [x, y] => (setS i x r).go fun r => setS j y r
  | _ => .bad
def sPar3 (i j l : Nat) (F : S → Res (List SV)) : S → RS := fun r => (F r).bindS fun xs r => match xs with
  | [x, y, z] => (setS i x r).go fun r => (setS j y r).go fun r => setS l z r
  | _ => .bad
theorem sim_set2 {K : PySem.W.Frag} {mg : Str → Option Value} {γ : Gh} {Oc fs fs0 f1 f2 : List Addr} {r : S} {σ : St} {H H0 : Hp} {i : Nat} {x : SV} {v : V} {R2 : S → RS} {k : St → Ends → Prop} (g : Good K γ ((f1 ++ f2) ++ Oc) r σ H fs) (hv : SVR K γ (fs ++ ((f1 ++ f2) ++ Oc)) H x v f1) (s : Evo fs0 H0 (fs ++ (f1 ++ f2)) H)
    (h : ∀ fs', Good K γ (f2 ++ Oc) { r with sl := r.sl.set i (some x) } (σ.set i (some v)) H fs' → (∀ a ∈ fs', a ∈ fs ++ f1) → Evo fs0 H0 (fs' ++ f2) H → SimSAt K mg W γ Oc H0 fs0 (k (σ.set i (some v))) (R2 { r with sl := r.sl.set i (some x) })) :
    SimSAt K mg W γ Oc H0 fs0 (k (σ.set i (some v))) ((setS i x r).go R2) := by
  unfold setS
  split
  · rename_i hi
    rw [List.append_assoc] at g hv
    obtain ⟨fs', g', sub⟩ := g.store hv hi
    refine h fs' g' (fun a z => List.mem_append.mpr (sub a z)) ⟨fun a z => s.sub a ?_, @Evo.keep _ _ _ _ s, s.there, s.tb⟩
    simp only [List.mem_append] at z ⊢
    rcases z with z | z
    · rcases sub a z with z | z <;> simp [z]
    · simp [z]
  · exact fun E => trivial
theorem sx_par2 {i j : Nat} {tg : Expr} (h : OAX X W [a, b] tl FL) (hp : PS X (.Assign [tg] c pos) (tPar i j tl)) : SX X W (.Assign [tg] c pos) (tPar i j tl) (sPar2 i j FL) := by
  refine ⟨hp, fun γ Oc r σ H fs g => ?_⟩
  refine SimSAt.bindE (t2 := fun (vs : List V) (H1 : Hp) (E : Ends) => ∃ v w, vs = [v, w] ∧ E.nx ((σ.set i (some v)).set j (some w)) H1) (h.sim γ Oc r σ H fs g) fun xs r1 vs H1 p => ?_
  obtain ⟨fs1, fp, g1, v1, s1, n1⟩ := p
  split
  · rename_i x y
    obtain ⟨v, ws, f1, f2', e1, e2, h1, h2⟩ := v1
    obtain ⟨w, ws', f2, f3, e3, e4, h3, h4⟩ := h2
    obtain ⟨e5, e6⟩ := h4
    subst e6 e5 e4 e3 e2 e1
    rw [List.append_nil] at *
    refine SimSAt.imp (t := fun E => E.nx ((σ.set i (some v)).set j (some w)) H1) ?_ fun E q => ⟨v, w, rfl, q⟩
    refine sim_set2 (k := fun σ' E => E.nx (σ'.set j (some w)) H1) g1 h1 (s1.evo2 n1) fun fs2 g2 sub s2 => ?_
    refine sim_setS g2 (h3.mono g1.ow fun a z => ?_) s2
    simp only [List.mem_append] at z ⊢
    rcases z with z | z | z
    · rcases List.mem_append.mp (sub a z) with z | z <;> simp [z]
    · simp [z]
    · simp [z]
  · exact fun E => trivial
def whileF (T : S → Res Bool) (B : S → RS) : Nat → S → RS
  | 0, _ => .bad
  | n + 1, r => (T r).bindS fun b r => if b then (match B r with
    | .nx r => whileF T B n r
    | .ct r => whileF T B n r
    | .bk r => .nx r
    | .rt v r => .rt v r
    | .exc c f r => .exc c f r
    | .bad => .bad) else .nx r
def fuel : Nat := 1000000000000
def sWhile (T : S → Res Bool) (B : S → RS) : S → RS := whileF T B fuel
/-- what is wanted of a run, as a wish about its mirror's end -/
def Goal (K : PySem.W.Frag) (mg : Str → Option Value) (W : WX) (γ : Gh) (Oc : List Addr) (H : Hp) (fs : List Addr) (E : Ends) : RS → Prop
  | .nx r' => ∀ σ' H', NP K γ Oc r' H fs σ' H' → E.nx σ' H'
  | .bk r' => ∀ σ' H', NP K γ Oc r' H fs σ' H' → E.bk σ' H'
  | .ct r' => ∀ σ' H', NP K γ Oc r' H fs σ' H' → E.ct σ' H'
  | .rt x r' => ∀ v H', RP K γ Oc r' H fs x v H' → E.rt v H'
  | .exc c f r' => ∀ C d σ' H', XPs K mg γ Oc r' H fs σ' H' c f C d → W (.ref C) d σ' H'
  | .bad => False
theorem SimSAt.use {K : PySem.W.Frag} {mg : Str → Option Value} {γ : Gh} {Oc : List Addr} {H : Hp} {fs : List Addr} {t : Ends → Prop} {R : RS} (h : SimSAt K mg W γ Oc H fs t R) {E : Ends} (g : Goal K mg W γ Oc H fs E R) : t E := by
  have z := h E
  cases R with
  | bad => exact False.elim g
  | nx r' => exact z g
  | bk r' => exact z g
  | ct r' => exact z g
  | rt x r' => exact z g
  | exc c f r' => exact z g
theorem SimSAt.mk {K : PySem.W.Frag} {mg : Str → Option Value} {γ : Gh} {Oc : List Addr} {H : Hp} {fs : List Addr} {t : Ends → Prop} {R : RS} (h : ∀ E : Ends, Goal K mg W γ Oc H fs E R → t E) : SimSAt K mg W γ Oc H fs t R := by
  intro E
  have z := h E
  cases R with
  | bad => trivial
  | nx r' => exact z
  | bk r' => exact z
  | ct r' => exact z
  | rt x r' => exact z
  | exc c f r' => exact z
theorem Goal.tr {K : PySem.W.Frag} {mg : Str → Option Value} {γ : Gh} {Oc : List Addr} {H H1 : Hp} {fs fs1 : List Addr} {E : Ends} {R : RS} (s : Evo fs H fs1 H1) (h : Goal K mg W γ Oc H fs E R) : Goal K mg W γ Oc H1 fs1 E R := by
  cases R with
  | bad => exact h
  | nx r' => exact fun σ' H' p => h _ _ (p.tr s)
  | bk r' => exact fun σ' H' p => h _ _ (p.tr s)
  | ct r' => exact fun σ' H' p => h _ _ (p.tr s)
  | rt x r' => exact fun σ' H' p => h _ _ (p.tr s)
  | exc c f r' => exact fun C d σ' H' p => h _ _ _ _ (p.tr s)
/-- a test by its mirror's end -/
theorem SimAt.useT {K : PySem.W.Frag} {mg : Str → Option Value} {γ : Gh} {Oc : List Addr} {σ : St} {H H0 : Hp} {fs fs0 : List Addr} {E : Ends} {t1 : (Bool → Hp → Prop) → Prop} {x : Res Bool} {k : Bool → S → RS} {Q : Bool → Hp → Prop} (h : SimAt K mg W (PTt K) γ Oc σ H fs t1 x) (ev : Evo fs0 H0 fs H) (g : Goal K mg W γ Oc H0 fs0 E (x.bindS k))
    (hq : ∀ b r1 H1 fs1, Good K γ Oc r1 σ H1 fs1 → Evo fs H fs1 H1 → Goal K mg W γ Oc H0 fs0 E (k b r1) → Q b H1) : t1 Q := by
  have z := h Q
  cases x with
  | bad => exact False.elim g
  | exc c f r' => exact z fun C d H' p => g C d σ H' (p.ps.tr ev)
  | ok b r1 =>
    refine z fun c H1 p => ?_
    obtain ⟨fs1, g1, e, s1⟩ := p
    subst e
    exact hq c r1 H1 fs1 g1 s1.evo g
theorem sim_while {K : PySem.W.Frag} {mg : Str → Option Value} {T : S → Res Bool} (hc : Sim K mg W (PTt K) tA T) (hb : SimS K mg W t B) : SimS K mg W (tWhile tA t) (sWhile T B) := by
  intro γ Oc r0 σ0 H0 fs0 g0
  refine SimSAt.mk fun E hE => ?_
  refine ⟨fun m σ H => ∃ r fs, Good K γ Oc r σ H fs ∧ Evo fs0 H0 fs H ∧ Goal K mg W γ Oc H0 fs0 E (whileF T B m r), ⟨fuel, r0, fs0, g0, Evo.refl _ _, hE⟩, ?_⟩
  rintro m σ H ⟨r, fs, g, ev, hG⟩
  cases m with
  | zero => exact False.elim hG
  | succ n =>
    refine SimAt.useT (hc γ Oc r σ H fs g) ev hG fun b r1 H1 fs1 g1 e1 hG1 => ?_
    cases b with
    | false =>
      rw [if_neg (by simp)] at hG1 ⊢
      exact hG1 _ _ ⟨fs1, g1, ev.trans e1⟩
    | true =>
      rw [if_pos rfl] at hG1 ⊢
      refine ⟨fun σ' H' => ∃ r' fs', Good K γ Oc r' σ' H' fs' ∧ Evo fs0 H0 fs' H' ∧ Goal K mg W γ Oc H0 fs0 E (whileF T B n r'), fun σ' H' h => ⟨n, Nat.lt_succ_self n, h⟩, ?_⟩
      refine SimSAt.use (SimSAt.tr (ev.trans e1) (hb γ Oc r1 σ H1 fs1 g1)) ?_
      cases eB : B r1 with
      | bad => rw [eB] at hG1; exact hG1
      | nx r2 => rw [eB] at hG1; exact fun σ' H' ⟨fs2, g2, e2⟩ => ⟨r2, fs2, g2, e2, hG1⟩
      | ct r2 => rw [eB] at hG1; exact fun σ' H' ⟨fs2, g2, e2⟩ => ⟨r2, fs2, g2, e2, hG1⟩
      | bk r2 => rw [eB] at hG1; exact hG1
      | rt x r2 => rw [eB] at hG1; exact hG1
      | exc c f r2 => rw [eB] at hG1; exact hG1
theorem sx_while {body : List Stmt} (hp : PassesOwn (model X.prog X.w) X.A X.env X.xe) (hc : TX X W c tA FA) (hb : SSX X W body t B) : SX X W (.While c body [] pos) (tWhile tA t) (sWhile FA B) := ⟨ps_while hp hc.pe hb.ps, sim_while hc.sim hb.sim⟩
/-- the turns tell the items -/
def Ylds (K : PySem.W.Frag) (O : List Addr) (H : Hp) (J : It) (ds : List D) : Prop :=
  ∀ O' H', Own O' H' → Stab O H O' H' → ∀ i, (i < ds.length → J.go i H' ∧ ∀ x H2, J.yld i H' x H2 → (∀ a o, H' a = some o → H2 a = some o) ∧ ∀ d, ds[i]? = some d → R K O' H2 d x) ∧ (i = ds.length → J.stop i H')
def PIt (K : PySem.W.Frag) : Pst (List D) It := fun γ Oc r' σ H fs H' ds J => ∃ fs', Good K γ Oc r' σ H' fs' ∧ Ylds K (fs' ++ Oc) H' J ds ∧ Stp γ.T fs H fs' H'
end
/-- what is walked: its rule and its mirror -/
structure IX (X : Cx) (W : WX) (tg iter : Expr) (t : TI) (F : S → Res (List D)) : Prop where
  pi : PI X tg iter t
  sim : Sim X.K X.mg W (PIt X.K) t F
section
variable {X : Cx} {W : WX} {e a b c tg : Expr} {es : List Expr} {st : Stmt} {rest : List Stmt} {ta tb tc : TE} {tl : TA} {tA : TT} {fa fb fc : S → Res D} {F G : S → Res SV} {FL : S → Res (List SV)} {B B2 : S → RS} {FA : S → Res Bool} {t u : TS} {wi : TI} {gt : TG} {pos : Pos}
def forF (G : D → S → Option S) (B : S → RS) : List D → S → RS
  | [], r => .nx r
  | d :: ds, r => match G d r with
    | none => .bad
    | some r => match B r with
      | .nx r => forF G B ds r
      | .ct r => forF G B ds r
      | .bk r => .nx r
      | .rt v r => .rt v r
      | .exc c f r => .exc c f r
      | .bad => .bad
def sFor (I : S → Res (List D)) (G : D → S → Option S) (B : S → RS) : S → RS := fun r => (I r).bindS fun ds r => forF G B ds r
theorem Evo.own {K : PySem.W.Frag} {γ : Gh} {Oc fs fs' : List Addr} {r : S} {σ : St} {H H' : Hp} (g : Good K γ Oc r σ H' fs') : Own (fs' ++ Oc) H' := g.ow
theorem Good.kept {K : PySem.W.Frag} {γ : Gh} {Oc fs : List Addr} {r : S} {σ : St} {H H' : Hp} (g : Good K γ Oc r σ H fs) (k : SameT H H') : Good K γ Oc r σ H' fs := by
  have := g.grow (fp := []) k (by simp) (by simp) (by simp [Own])
  simpa using this
theorem Evo.kept {fs : List Addr} {H H' : Hp} (k : SameT H H') : Evo fs H fs H' := (Stp.same none fs k).evo
theorem sx_for {body : List Stmt} {IF : S → Res (List D)} {GF : D → S → Option S} (hp : PassesOwn (model X.prog X.w) X.A X.env X.xe) (hc : X.calm = true) (hi : IX X W tg a wi IF) (hg : GX X tg gt GF) (hb : SSX X W body t B)
    (hs : ∀ x, foldedSetIterable a X.env x = pure x := by intro _; rfl) : SX X W (.For tg a body [] pos) (tFor wi gt t) (sFor IF GF B) := by
  refine ⟨ps_for hp hc hi.pi hg.pg hb.ps hs, fun γ Oc r0 σ0 H00 fs00 g00 => ?_⟩
  refine SimSAt.imp (SimSAt.bindE (t2 := fun (J : It) (H1 : Hp) (E : Ends) => ∃ W : Nat → Nat → St → Hp → Prop, (∃ m, W 0 m σ0 H1) ∧ ∀ i m σ H, W i m σ H →
    (J.stop i H ∧ E.nx σ H) ∨ (J.go i H ∧ ∃ N : St → Hp → Prop, (∀ σ' H', N σ' H' → ∃ m', m' < m ∧ W (i + 1) m' σ' H') ∧ ∀ x H', J.yld i H x H' → gt x σ H' fun σ2 H2 => t { E with nx := N, ct := N, bk := E.nx } σ2 H2)) (hi.sim γ Oc r0 σ0 H00 fs00 g00) fun ds r1 J H0 p => ?_) fun E h => h
  obtain ⟨fs0, g0, yl, s0⟩ := p
  refine SimSAt.tr s0.evo (SimSAt.mk fun E hE => ?_)
  refine ⟨fun i m σ H => m = ds.length - i ∧ i ≤ ds.length ∧ ∃ r fs, Good X.K γ Oc r σ H fs ∧ Evo fs0 H0 fs H ∧ Goal X.K X.mg W γ Oc H0 fs0 E (forF GF B (ds.drop i) r), ⟨ds.length, by simp, Nat.zero_le _, r1, fs0, g0, Evo.refl _ _, by simpa using hE⟩, ?_⟩
  rintro i m σ H ⟨rfl, hil, r, fs, g, ev, hG⟩
  obtain ⟨go, stop⟩ := yl (fs ++ Oc) H g.ow ev.stab i
  by_cases hlt : i < ds.length
  · obtain ⟨hgo, hy⟩ := go hlt
    rw [List.drop_eq_getElem_cons hlt] at hG
    refine .inr ⟨hgo, fun σ' H' => ∃ r' fs', Good X.K γ Oc r' σ' H' fs' ∧ Evo fs0 H0 fs' H' ∧ Goal X.K X.mg W γ Oc H0 fs0 E (forF GF B (ds.drop (i + 1)) r'), fun σ' H' h => ⟨ds.length - (i + 1), by omega, rfl, hlt, h⟩, fun x H2 y => ?_⟩
    obtain ⟨kp, hx⟩ := hy x H2 y
    replace kp := SameT.of kp
    have rx := hx ds[i] (List.getElem?_eq_getElem hlt)
    have g2 := g.kept kp
    have ev2 := ev.trans (Evo.kept (fs := fs) kp)
    unfold forF at hG
    cases eG : GF ds[i] r with
    | none => rw [eG] at hG; exact False.elim hG
    | some r2 =>
      rw [eG] at hG
      refine hg.sim γ Oc r σ H2 fs ds[i] x r2 g2 rx eG _ fun σ2 fs2 g3 sub => ?_
      have ev3 : Evo fs0 H0 fs2 H2 := ⟨fun a h => ev2.sub a (sub a h), @Evo.keep _ _ _ _ ev2, ev2.there, ev2.tb⟩
      refine SimSAt.use (SimSAt.tr ev3 (hb.sim γ Oc r2 σ2 H2 fs2 g3)) ?_
      dsimp only at hG
      cases eB : B r2 with
      | bad => rw [eB] at hG; exact hG
      | nx r3 => rw [eB] at hG; exact fun σ' H' ⟨fs4, g4, e4⟩ => ⟨r3, fs4, g4, e4, hG⟩
      | ct r3 => rw [eB] at hG; exact fun σ' H' ⟨fs4, g4, e4⟩ => ⟨r3, fs4, g4, e4, hG⟩
      | bk r3 => rw [eB] at hG; exact hG
      | rt x r3 => rw [eB] at hG; exact hG
      | exc c f r3 => rw [eB] at hG; exact hG
  · have e : ds.drop i = [] := List.drop_eq_nil_of_le (by omega)
    rw [e] at hG
    exact .inl ⟨stop (by omega), hG _ _ ⟨fs, g, ev⟩⟩
end
end QL
namespace QL
open PySem PySem.Spec L2
structure FnG (P : Program) (w : World) (K : PySem.W.Frag) (mg : Str → Option Value) (base : Heap) (k : Nat) (f : Addr) (fd : FuncData) (ps : List Str) (sp : Sp) : Prop where
  len : ∀ vs H Q E, sp vs H Q E → vs.length = ps.length
  run : ∀ (A : Around) (out : List Env) (s : Shared) (H : Hp) (gs : Args) (us : List Value) (vs : List V) (Q : VK) (E : XK), A.guards = some [] → Room k A → Env0 P w K mg base A out s H →
    BindsTo s fd gs (ps.zip us) → Vals vs us → sp vs H Q E → codeAny (model P w) A (.call (.ref f) gs) (CR (L2.CX P w) out P w H s Q E) s
section
variable {P : Program} {w : World} {K : PySem.W.Frag} {mg : Str → Option Value} {base : Heap} {j k : Nat} {f : Addr} {fd : FuncData} {ps : List Str} {sp sp' : Sp}
theorem FnG.mono (F : FnG P w K mg base j f fd ps sp) (h : j ≤ k) : FnG P w K mg base k f fd ps sp :=
  ⟨F.len, fun A out s H gs us vs Q E hG hr => F.run A out s H gs us vs Q E hG (hr.mono h)⟩
theorem FnG.imp (F : FnG P w K mg base k f fd ps sp) (h : ∀ vs H Q E, sp' vs H Q E → sp vs H Q E) : FnG P w K mg base k f fd ps sp' :=
  ⟨fun vs H Q E q => F.len vs H Q E (h _ _ _ _ q), fun A out s H gs us vs Q E hG hr he hb hv q => F.run A out s H gs us vs Q E hG hr he hb hv (h _ _ _ _ q)⟩
/-- a def's body keeps the promise -/
theorem fg_ofC {qual x : Str} {st : Stmt} {N : List Str} (F : Fun K x qual st f fd) (S : FnScope N ps (defScope st)) (len : ∀ vs H Q E, sp vs H Q E → vs.length = ps.length)
    (hbody : ∀ (cdv : Value), fd.code = cdv → ∀ (A : Around) (out : List Env) (s : Shared) (H : Hp) (vs : List V) (Q : VK) (E : XK), A.guards = some [] → Room k (A.deeper (PyProof.Rows.envOfC qual (defScope st) s.heap.objs.size f cdv)) → sp vs H Q E →
      ∃ t, PSs (cxOf (L2.CX P w) P w K mg base N qual (defScope st) f cdv A out s H E) (defBody st) t ∧ t { nx := fun _ H' => Q .non H', rt := Q } (L2.start N vs) H) : FnG P w K mg base (k + 1) f fd ps sp := by
  obtain ⟨ocl, odi, kv, dv, mv, ann, cv, tv, osl, rfl, hlk, hcode⟩ := F.ex
  refine ⟨len, fun A out s H gs us vs Q E hG hr e0 hbind rv hsp => ?_⟩
  have hl := len _ _ _ _ hsp
  have kin : K.In s.heap := e0.mod.kin.keeps fun a u e => (e0.bs a u e).1
  have nol : s.heap.NoLimit := e0.mod.nolimit.keeps fun a u e => (e0.bs a u e).1
  have kinds : ∀ q ∈ ps.zip us, (defScope st).names.lookup q.1 = some .local ∨ ((defScope st).names.lookup q.1 = some .cell ∧ ((cellsFrom (s.heap.objs.size + 1) (defScope st).names []).lookup q.1).isSome = true) := fun ⟨nm, u⟩ hq => by
    rcases S.par nm (List.of_mem_zip hq).1 with z | z
    · exact .inl z
    · exact .inr ⟨z, PySem.W.cellsFrom_some _ _ _ (.inl z)⟩
  refine codeAny_call_function hr.depth (kin _ _ hlk) rfl S.co S.gen rfl (PySem.W.codeRec_of kin hcode) (hbind _ _ _ _ ?_)
  refine wpAny_newFunctionEnv_cells S.kind kinds fun env henv s2 y => ?_
  subst henv
  refine ⟨nol.keeps y.toInCall.keep, codeAny_func ?_⟩
  obtain ⟨t, ht, hq⟩ := hbody cv rfl A out s H vs Q E hG (hr.deeper _) hsp
  have J0 : Inv (cxOf (L2.CX P w) P w K mg base N qual (defScope st) f cv A out s H E) [] (L2.start N vs) H s2 := inv_start S hr.hd e0 hl rv y
  refine wpAny_mono (ht.run [] s2 (L2.start N vs) H _ J0 hq) (fun fl s' hs => ?_) fun e s' hs => hs
  cases fl with
  | ret u =>
    obtain ⟨v, σ', H', J, ru, q⟩ := hs
    exact ⟨v, H', J.os, J.bare, J.base, J.hok, ru, q⟩
  | next =>
    obtain ⟨σ', H', J, q⟩ := hs
    exact ⟨V.non, H', J.os, J.bare, J.base, J.hok, rfl, q⟩
  | brk => obtain ⟨_, _, _, q⟩ := hs; exact q.elim
  | cont => obtain ⟨_, _, _, q⟩ := hs; exact q.elim
theorem fg_of {qual x : Str} {st : Stmt} {N : List Str} (F : Fun K x qual st f fd) (S : FnScope N ps (defScope st)) (len : ∀ vs H Q E, sp vs H Q E → vs.length = ps.length)
    (hbody : ∀ (cdv : Value) (A : Around) (out : List Env) (s : Shared) (H : Hp) (vs : List V) (Q : VK) (E : XK), A.guards = some [] → Room k (A.deeper (PyProof.Rows.envOfC qual (defScope st) s.heap.objs.size f cdv)) → sp vs H Q E →
      ∃ t, PSs (cxOf (L2.CX P w) P w K mg base N qual (defScope st) f cdv A out s H E) (defBody st) t ∧ t { nx := fun _ H' => Q .non H', rt := Q } (L2.start N vs) H) : FnG P w K mg base (k + 1) f fd ps sp :=
  fg_ofC F S len fun cdv _ A out s H vs Q E hG hr h => hbody cdv A out s H vs Q E hG hr h
end
inductive FR where
  | ok (x : SV) (tp : Option (Int × Int)) | exc (c : Str) (f : List (Str × D)) (tp : Option (Int × Int)) | bad
/-- a value that may be handed out -/
def SV.out : SV → Bool
  | .tape => false
  | .scr _ => false
  | .ob _ _ => false
  | _ => true
abbrev g0 : Gh := ⟨none, 0, [], []⟩
theorem tabs0 {H : Hp} : TabsL [] H := fun p hp => nomatch hp
theorem SVR.ghost {K : PySem.W.Frag} {γ γ' : Gh} {O : List Addr} {H : Hp} {x : SV} {v : V} {fp : List Addr} (hx : x.out = true) (h : SVR K γ O H x v fp) : SVR K γ' O H x v fp := by
  cases x with
  | fz d => exact h
  | ol d => exact h
  | od d => exact h
  | ot d => exact h
  | ob c d => cases hx
  | tape => cases hx
  | scr => cases hx
/-- .. but the object at T, too -/
structure SameU (T : Addr) (H H' : Hp) : Prop where
  kp : ∀ a o, H a = some o → a ≠ T → (ht : isTbl o = false := by rfl) → H' a = some o
  th : ∀ x, NN H x → NN H' x
  tb : ∀ P, TabL H P → TabL H' P
/-- a def without the tape: n its arguments -/
def spF (K : PySem.W.Frag) (mg : Str → Option Value) (n : Nat) (F : List D → FR) : Sp := fun vs H Q E => ∃ (ds : List D) (O : List Addr), vs.length = n ∧ Own O H ∧ O.Nodup ∧ Rs K O H ds vs ∧ match F ds with
  | .ok x _ => x.out = true ∧ ∀ H' v fp, SameT H H' → fp.Nodup → (∀ a ∈ fp, H a = none) → Own fp H' → SVR K g0 (fp ++ O) H' x v fp → Q v H'
  | .exc c f _ => ∀ C d H', SameT H H' → mg c = some (.ref C) → XR K O H' f d → E (.ref C) d H'
  | .bad => False
/-- a def that takes the tape first -/
def spT (K : PySem.W.Frag) (mg : Str → Option Value) (n : Nat) (F : Int × Int → List D → FR) : Sp := fun vs H Q E => ∃ (T : Addr) (t : Int × Int) (vs' : List V) (ds : List D) (O : List Addr), vs = .ref T :: vs' ∧ vs'.length = n ∧ H T = some (tapeO t) ∧
  Own O H ∧ (T :: O).Nodup ∧ Rs K (T :: O) H ds vs' ∧ match F t ds with
  | .ok x (some t') => x.out = true ∧ ∀ H' v fp, SameU T H H' → H' T = some (tapeO t') → fp.Nodup → (∀ a ∈ fp, H a = none) → Own fp H' → SVR K g0 (fp ++ (T :: O)) H' x v fp → Q v H'
  | .exc c f (some t') => ∀ C d H', SameU T H H' → H' T = some (tapeO t') → mg c = some (.ref C) → XR K (T :: O) H' f d → E (.ref C) d H'
  | _ => False
/-- from a body's mirror: the slots at its start -/
def mkS (n : Nat) (ds : List SV) (tp : Option (Int × Int)) : S := ⟨ds.map some ++ List.replicate (n - ds.length) none, tp⟩
def outF (R : RS) : FR := match R with
  | .nx r => .ok (.fz .none) r.tp
  | .rt x r => if x.out then .ok x r.tp else .bad
  | .exc c f r => .exc c f r.tp
  | _ => .bad
def bodyF (n : Nat) (B : S → RS) (ds : List D) : FR := outF (B (mkS n (ds.map .fz) none))
def bodyT (n : Nat) (B : S → RS) (t : Int × Int) (ds : List D) : FR := outF (B (mkS n (.tape :: ds.map .fz) (some t)))
section
variable {K : PySem.W.Frag} {mg : Str → Option Value} {W : WX} {γ : Gh} {Oc : List Addr} {r r1 r2 : S} {σ : St} {H H' H1 H2 : Hp} {fs fs1 fp : List Addr}
theorem Slots.nones {O : List Addr} : ∀ (n : Nat) (σ : St), σ.length = n → Slots K γ O H (List.replicate n none) σ []
  | 0, σ, h => ⟨List.length_eq_zero_iff.mp h, rfl⟩
  | n + 1, [], h => by simp at h
  | n + 1, x :: σ, h => ⟨x, σ, rfl, Slots.nones n σ (by simpa using h)⟩
theorem Slots.start {O : List Addr} : ∀ {ds : List D} {vs : List V} {n : Nat}, Rs K O H ds vs → Slots K γ O H (ds.map (some ∘ SV.fz) ++ List.replicate n none) (vs.map some ++ List.replicate n none) []
  | [], vs, n, h => by
    simp only [Rs] at h
    subst h
    exact Slots.nones n _ (by simp)
  | d :: ds, vs, n, h => by
    simp only [Rs] at h
    obtain ⟨v, ws, e, h1, h2⟩ := h
    subst e
    exact ⟨v, _, [], [], rfl, rfl, ⟨h1, rfl⟩, Slots.start h2⟩
theorem Good.start0 {O : List Addr} {N : List Str} {ds : List D} {vs : List V} (ow : Own O H) (nd : O.Nodup) (h : Rs K O H ds vs) : Good K g0 O (mkS N.length (ds.map .fz) none) (L2.start N vs) H [] := by
  refine ⟨⟨[], [], rfl, ?_, rfl⟩, nd, ow, fun z => absurd rfl z, tabs0⟩
  unfold mkS L2.start
  rw [h.len, List.map_map, List.length_map]
  exact Slots.start h
theorem Good.startT {O : List Addr} {N : List Str} {ds : List D} {vs : List V} {T : Addr} {t : Int × Int} (ow : Own O H) (nd : (T :: O).Nodup) (hT : H T = some (tapeO t)) (h : Rs K (T :: O) H ds vs) :
    Good K ⟨some T, 0, [], []⟩ O (mkS N.length (.tape :: ds.map .fz) (some t)) (L2.start N (.ref T :: vs)) H [T] := by
  refine ⟨⟨[], [T], rfl, ?_, ⟨T, rfl, hT, rfl⟩⟩, nd, fun a z => ?_, fun _ z => (by cases z), tabs0⟩
  · unfold mkS L2.start
    rw [List.map_cons, List.map_cons, List.map_map, List.length_cons, List.length_cons, h.len, List.length_map]
    exact ⟨.ref T, _, [], [], rfl, rfl, ⟨⟨T, rfl, rfl⟩, rfl⟩, Slots.start h⟩
  · rcases List.mem_append.mp z with z | z
    · rw [List.mem_singleton.mp z]
      exact ⟨_, hT, trivial⟩
    · exact ow a z
end
section
variable {P : Program} {w : World} {K : PySem.W.Frag} {mg : Str → Option Value} {base : Heap} {k n : Nat} {f : Addr} {fd : FuncData} {ps N : List Str} {qual x : Str} {st : Stmt} {B : S → RS}
/-- a def without the tape, by its body's mirror -/
theorem fg_body (F : Fun K x qual st f fd) (S : FnScope N ps (defScope st)) (hn : ps.length = n)
    (hb : ∀ (cdv : Value) (A : Around) (out : List Env) (s : Shared) (H : Hp) (E : XK), A.guards = some [] → Room k (A.deeper (PyProof.Rows.envOfC qual (defScope st) s.heap.objs.size f cdv)) →
      ∃ t, SSX (cxOf (L2.CX P w) P w K mg base N qual (defScope st) f cdv A out s H E) (fun c d _ H' => E c d H') (defBody st) t B) : FnG P w K mg base (k + 1) f fd ps (spF K mg n (bodyF N.length B)) := by
  refine fg_of F S (fun vs H Q E h => ?_) fun cdv A out s H vs Q E hG hr h => ?_
  · obtain ⟨ds, O, hl, _⟩ := h
    rw [hl, hn]
  · obtain ⟨t, ht⟩ := hb cdv A out s H E hG hr
    refine ⟨t, ht.ps, ?_⟩
    obtain ⟨ds, O, hl, ow, nd, rs, h⟩ := h
    have g := Good.start0 (N := N) ow nd rs
    refine SimSAt.use (ht.sim _ _ _ _ _ _ g) ?_
    unfold bodyF at h
    have same : ∀ {fs' : List Addr} {H' : Hp}, Evo [] H fs' H' → SameT H H' := fun e => ⟨fun a o ho ht => e.keep a o ho (by simp) ht, e.there, e.tb⟩
    cases eB : B (mkS N.length (ds.map .fz) none) with
    | bad => rw [eB] at h; exact False.elim h
    | bk r => rw [eB] at h; exact False.elim h
    | ct r => rw [eB] at h; exact False.elim h
    | nx r =>
      rw [eB] at h
      intro σ' H' ⟨fs', g', e⟩
      exact h.2 H' .non [] (same e) (by simp) (by simp) (by simp [Own]) ⟨by simp [R], rfl⟩
    | rt y r =>
      rw [eB] at h
      intro v H' ⟨σ', fs', fp, g', hv, e⟩
      unfold outF at h
      dsimp only at h
      by_cases ho : y.out = true
      · rw [if_pos ho] at h
        have nd' := g'.nd
        have sub : ∀ a ∈ fp ++ O, a ∈ fs' ++ (fp ++ O) := fun a z => List.mem_append_right _ z
        refine h.2 H' v fp (same e) ((List.nodup_append.mp (List.nodup_append.mp nd').2.1).1) (fun a z => ?_) (g'.ow.mono fun a z => by simp [z]) (SVR.ghost ho (hv.mono g'.ow sub))
        rcases e.sub a (by simp [z]) with q | q
        · simp at q
        · exact q
      · rw [if_neg ho] at h
        exact False.elim h
    | exc c fl r =>
      rw [eB] at h
      intro C d σ' H' ⟨fs', g', e, m, xr⟩
      refine h C d H' (same e) m ?_
      rcases xr with z | ⟨dd, ws, e1, e2, e3, e4⟩
      · exact .inl z
      · exact .inr ⟨dd, ws, e1, e2, e3, Rs.stab g'.ow (Stab.weak (fun a z => List.mem_append_right _ z) fun _ _ z => z) _ _ e4⟩
/-- a def that takes the tape -/
theorem fg_bodyT (F : Fun K x qual st f fd) (S : FnScope N ps (defScope st)) (hn : ps.length = n + 1)
    (hb : ∀ (cdv : Value) (A : Around) (out : List Env) (s : Shared) (H : Hp) (E : XK), A.guards = some [] → Room k (A.deeper (PyProof.Rows.envOfC qual (defScope st) s.heap.objs.size f cdv)) →
      ∃ t, SSX (cxOf (L2.CX P w) P w K mg base N qual (defScope st) f cdv A out s H E) (fun c d _ H' => E c d H') (defBody st) t B) : FnG P w K mg base (k + 1) f fd ps (spT K mg n (bodyT N.length B)) := by
  refine fg_of F S (fun vs H Q E h => ?_) fun cdv A out s H vs Q E hG hr h => ?_
  · obtain ⟨T, t, vs', ds, O, e, hl, _⟩ := h
    rw [e, List.length_cons, hl, hn]
  · obtain ⟨t, ht⟩ := hb cdv A out s H E hG hr
    refine ⟨t, ht.ps, ?_⟩
    obtain ⟨T, t0, vs', ds, O, e0, hl, hT, ow, nd, rs, h⟩ := h
    subst e0
    have g := Good.startT (N := N) ow nd hT rs
    refine SimSAt.use (ht.sim _ _ _ _ _ _ g) ?_
    unfold bodyT at h
    have same : ∀ {fs' : List Addr} {H' : Hp}, Evo [T] H fs' H' → SameU T H H' := fun e => ⟨fun a o ho n ht => e.keep a o ho (by simpa using n) ht, e.there, e.tb⟩
    have top : ∀ {r : QL.S} {σ' : St} {fs' O' : List Addr} {H' : Hp}, Good K ⟨some T, 0, [], []⟩ O' r σ' H' fs' → ∃ t', r.tp = some t' ∧ H' T = some (tapeO t') ∧ T ∈ fs' := fun g => by
      obtain ⟨h1, t', h2, h3⟩ := g.tape rfl
      exact ⟨t', h2, h3, h1⟩
    cases eB : B (mkS N.length (.tape :: ds.map .fz) (some t0)) with
    | bad => rw [eB] at h; exact False.elim h
    | bk r => rw [eB] at h; exact False.elim h
    | ct r => rw [eB] at h; exact False.elim h
    | nx r =>
      rw [eB] at h
      intro σ' H' ⟨fs', g', e⟩
      obtain ⟨t', e1, e2, e3⟩ := top g'
      unfold outF at h
      dsimp only at h
      rw [e1] at h
      exact h.2 H' .non [] (same e) e2 (by simp) (by simp) (by simp [Own]) ⟨by simp [R], rfl⟩
    | rt y r =>
      rw [eB] at h
      intro v H' ⟨σ', fs', fp, g', hv, e⟩
      obtain ⟨t', e1, e2, e3⟩ := top g'
      unfold outF at h
      dsimp only at h
      rw [e1] at h
      by_cases ho : y.out = true
      · rw [if_pos ho] at h
        have nd' := g'.nd
        have sub : ∀ a ∈ fp ++ (T :: O), a ∈ fs' ++ (fp ++ O) := fun a z => by
          simp only [List.mem_append, List.mem_cons] at z ⊢
          rcases z with z | z | z
          · simp [z]
          · subst z; simp [e3]
          · simp [z]
        have nT : T ∉ fp := fun z => (List.nodup_append.mp nd').2.2 T e3 T (by simp [z]) rfl
        refine h.2 H' v fp (same e) e2 ((List.nodup_append.mp (List.nodup_append.mp nd').2.1).1) (fun a z => ?_) (g'.ow.mono fun a z => by simp [z]) (SVR.ghost ho (hv.mono g'.ow sub))
        rcases e.sub a (by simp [z]) with q | q
        · rw [List.mem_singleton.mp q] at z
          exact absurd z nT
        · exact q
      · rw [if_neg ho] at h
        exact False.elim h
    | exc c fl r =>
      rw [eB] at h
      intro C d σ' H' ⟨fs', g', e, m, xr⟩
      obtain ⟨t', e1, e2, e3⟩ := top g'
      unfold outF at h
      dsimp only at h
      rw [e1] at h
      refine h C d H' (same e) e2 m ?_
      rcases xr with z | ⟨dd, ws, q1, q2, q3, q4⟩
      · exact .inl z
      · refine .inr ⟨dd, ws, q1, q2, q3, Rs.stab g'.ow (Stab.weak (fun a z => ?_) fun _ _ z => z) _ _ q4⟩
        rcases List.mem_cons.mp z with z | z
        · subst z; simp [e3]
        · simp [z]
end
end QL
namespace QL
open PySem PySem.Spec L2
section
variable {X : Cx} {k n : Nat} {f : Addr} {fd : FuncData} {ps : List Str} {sp : Sp} {x : Str} {p pos : Pos} {e : Expr} {es : List Expr} {t : TA} {W : WX}
theorem run_fg {pins : List (Addr × Obj)} {σ : St} {H : Hp} {s : Shared} {Q : VK} {us : List Value} {vs : List V} (F : FnG X.prog X.w X.K X.mg X.base k f fd ps sp) (hG : X.A.guards = some []) (hr : Room k X.A) (hb : Binds X.K fd ps []) (tk : Takes X W)
    (I : Inv X pins σ H s) (rv : Vals vs us) (h : sp vs H Q (WE W σ)) : wpAny (model X.prog X.w) X.A (call (.ref f) us) (EP X pins σ Q) X.xe s := by
  have hl : us.length = ps.length := by rw [← rv.length]; exact F.len _ _ _ _ h
  have hbs := hb s us I.kIn (by simpa using hl)
  rw [List.append_nil] at hbs
  refine wpAny_call (codeAny_mono (F.run X.A X.stack s H ⟨us, []⟩ us vs Q (WE W σ) hG hr I.env0 hbs rv h) fun res s' hq => ?_)
  cases res with
  | error exn => exact passAt tk σ pins H s exn s' I hq
  | ok fl => cases fl with
    | ret u => exact I.after hq
    | next => exact False.elim hq
    | brk => exact False.elim hq
    | cont => exact False.elim hq
theorem pe_callF (F : FnG X.prog X.w X.K X.mg X.base k f fd ps sp) (hG : X.A.guards = some []) (hr : Room k X.A) (hg : Gl X x) (hm : X.mg x = some (.ref f)) (hk : PySem.W.keepIn X.K (.ref f) = true) (hb : Binds X.K fd ps []) (tk : Takes X W)
    (ha : PA X (e :: es) t) (hdb : (x == ("__debug__" : Str)) = false := by decide) (he : starEach (e :: es) X.env = (false, eval e X.env) :: starEach es X.env := by rfl) (hpl : (backTo pos (starEach es X.env)).any (·.1) = false := by rfl) :
    PE X (.Call (.Name x p) (e :: es) [] pos) (tCallS sp (WE W) t) :=
  ⟨fun pins s σ H Q I h => wpAny_Call_Name_kw (ld_glob I hg hm (PySem.W.callWith_K (h₀ := X.base) I.ok.mod.kin hk (thn (ha.run pos pins s σ H _ I h) fun us s1 ⟨vs, H1, I1, rv, q⟩ => ⟨I1.kIn, run_fg F hG hr hb tk I1 rv q⟩) he hpl) hdb)⟩
end
/-- what a call's mirror yields -/
def outR (R : FR) (r : S) : Res SV := match R with
  | .ok x _ => if x.out then .ok x r else .bad
  | .exc c f _ => .exc c f r
  | .bad => .bad
def fCall (n : Nat) (F : List D → FR) (FL : S → Res (List D)) : S → Res SV := fun r => (FL r).bind fun ds r => if ds.length = n then outR (F ds) r else .bad
section
variable {K : PySem.W.Frag} {mg : Str → Option Value} {W : WX} {γ : Gh} {Oc : List Addr} {r r1 r2 : S} {σ : St} {H H' H1 H2 : Hp} {fs fs1 fp : List Addr} {tl : TA} {n : Nat} {F : List D → FR} {FL : S → Res (List D)}
theorem xr_sub {O O' : List Addr} {f : List (Str × D)} {d : Option Addr} (ow : Own O H) (s : ∀ a ∈ O', a ∈ O) (h : XR K O H f d) : XR K O' H f d := by
  rcases h with z | ⟨dd, ws, q1, q2, q3, q4⟩
  · exact .inl z
  · exact .inr ⟨dd, ws, q1, q2, q3, Rs.stab ow (Stab.weak s fun _ _ z => z) _ _ q4⟩
theorem Own.app {A B : List Addr} (h : Own A H) (h2 : Own B H) : Own (A ++ B) H := fun a z => (List.mem_append.mp z).elim (h a) (h2 a)
theorem sim_call (h : Sim K mg W (PL K) tl FL) : Sim K mg W (PV K) (tCallS (spF K mg n F) (WE W) tl) (fCall n F FL) := by
  intro γ Oc r σ H fs g
  refine SimAt.bind (t2 := fun (vs : List V) (H1 : Hp) (Q : VK) => spF K mg n F vs H1 Q (WE W σ)) (h γ Oc r σ H fs g) fun ds r1 vs H1 ⟨fs1, g1, v1, s1⟩ => ?_
  refine SimAt.tr s1 ?_
  split
  · rename_i hn
    intro Q
    unfold outR
    cases eF : F ds with
    | bad => trivial
    | ok y tp =>
      dsimp only
      by_cases ho : y.out = true
      · rw [if_pos ho]
        intro hq
        refine ⟨ds, fs1 ++ Oc, by rw [v1.len, hn], g1.ow, g1.nd, v1, ?_⟩
        rw [eF]
        refine ⟨ho, fun H' v fp kp nd nw ow hv => hq v H' ?_⟩
        have g2 := g1.grow kp nw nd ow
        refine ⟨fs1, fp, g2, SVR.ghost ho (hv.mono (ow.app (g1.kept kp).ow) fun a z => ?_), Stp.same _ _ kp, nw⟩
        simp only [List.mem_append] at z ⊢
        rcases z with z | z | z <;> simp [z]
      · rw [if_neg ho]; trivial
    | exc c fl tp =>
      dsimp only
      intro hw
      refine ⟨ds, fs1 ++ Oc, by rw [v1.len, hn], g1.ow, g1.nd, v1, ?_⟩
      rw [eF]
      exact fun C d H' kp m x => hw C d H' ⟨fs1, g1.kept kp, Stp.same _ _ kp, m, x⟩
  · exact fun Q => trivial
theorem tabs_unupd {T : Addr} {t : Int × Int} {P : Addr} (h : TabL (upd H T (tapeO t)) P) : TabL H P := by
  obtain ⟨ps, h1, h2, h3⟩ := h
  have n1 : P ≠ T := fun z => by
    rw [z, upd_same] at h1
    cases h1
  rw [upd_ne n1] at h1
  refine ⟨ps, h1, h2, fun pos cv hc => ?_⟩
  obtain ⟨c, e1, e2⟩ := h3 pos cv hc
  have n2 : c ≠ T := fun z => by
    rw [z, upd_same] at e2
    cases e2
  rw [upd_ne n2] at e2
  exact ⟨c, e1, e2⟩
/-- the tape has changed -/
theorem Good.tapeSet {T : Addr} {t' : Int × Int} (g : Good K γ Oc r σ H fs) (hT : γ.T = some T) : Good K γ Oc { r with tp := some t' } σ (upd H T (tapeO t')) fs := by
  obtain ⟨⟨f1, f2, e, sl, tp⟩, nd, ow, tt⟩ := id g
  obtain ⟨hm, t, q1, q2⟩ := g.tape hT
  rw [q1] at tp
  obtain ⟨b, b1, b2, b3⟩ := tp
  rw [hT] at b1; cases b1
  have n1 := (List.nodup_append.mp nd).1
  rw [e] at n1
  have nf : T ∉ f1 := fun z => (List.nodup_append.mp n1).2.2 T z T (by rw [b3]; simp) rfl
  have ne : ∀ a, a ∉ fs ++ Oc → a ≠ T := fun a n z => n (by rw [z]; simp [hm])
  have st : Stab (fs ++ Oc) H (fs ++ Oc) (upd H T (tapeO t')) := fun a n _ => ⟨n, fun u _ q => by
    rcases q with q | ⟨o, q⟩
    · exact .inl (by rw [upd_ne (ne a n)]; exact q)
    · exact .inr ⟨o, by rw [upd_ne (ne a n)]; exact q⟩, fun u _ q => by rw [upd_ne (ne a n)]; exact q⟩
  refine ⟨⟨f1, f2, e, sl.stab ow st fun a z => upd_ne fun y => nf (y ▸ z), ⟨T, hT, upd_same, b3⟩⟩, nd, fun a z => ?_, fun _ z => (by cases z), fun p hp => tabs_upd q2 trivial (tt.2 p hp)⟩
  by_cases ha : a = T
  · subst ha; exact ⟨_, upd_same, trivial⟩
  · obtain ⟨o, ho, l⟩ := ow a z
    exact ⟨o, by rw [upd_ne ha]; exact ho, l⟩
def outT (R : FR) (r : S) : Res SV := match R with
  | .ok x (some t) => if x.out then .ok x { r with tp := some t } else .bad
  | .exc c f (some t) => .exc c f { r with tp := some t }
  | _ => .bad
def fCallT (i n : Nat) (F : Int × Int → List D → FR) (FL : S → Res (List D)) : S → Res SV := fun r => match r.sl[i]? with
  | some (some .tape) => (FL r).bind fun ds r => match r.tp with
    | some t => if ds.length = n then outT (F t ds) r else .bad
    | none => .bad
  | _ => .bad
theorem sim_callT {i : Nat} {F : Int × Int → List D → FR} (h : Sim K mg W (PL K) tl FL) : Sim K mg W (PV K) (tCallS (spT K mg n F) (WE W) (tCons (tVar i) tl)) (fCallT i n F FL) := by
  intro γ Oc r σ H fs g
  unfold fCallT
  split
  · rename_i eT
    obtain ⟨⟨f1, f2, e, sl, tp⟩, nd, ow, tt⟩ := id g
    obtain ⟨v, a1, a2, a3, e1, e2, ⟨T, hT, ev⟩, e4⟩ := sl.at eT
    subst ev
    refine SimAt.imp (t := fun Q => tl σ H fun vs H1 => spT K mg n F (.ref T :: vs) H1 Q (WE W σ)) ?_ fun Q q => ⟨.ref T, e1, q⟩
    refine SimAt.bind (t2 := fun (vs : List V) (H1 : Hp) (Q : VK) => spT K mg n F (.ref T :: vs) H1 Q (WE W σ)) (h γ Oc r σ H fs g) fun ds r1 vs H1 ⟨fs1, g1, v1, s1⟩ => ?_
    refine SimAt.tr s1 ?_
    clear e sl tp nd ow tt e1 e2 e4
    obtain ⟨⟨b1, b2, e, sl, tp⟩, nd, ow, tt⟩ := id g1
    obtain ⟨hm, t, q1, q2⟩ := g1.tape hT
    rw [q1] at tp ⊢
    obtain ⟨b, c1, c2, c3⟩ := tp
    rw [hT] at c1; cases c1
    dsimp only
    have mem : ∀ a, a ∈ T :: (b1 ++ Oc) ↔ a ∈ fs1 ++ Oc := fun a => by
      rw [e, c3]
      simp only [List.mem_cons, List.mem_append, List.mem_singleton]
      constructor
      · rintro (z | z | z)
        · simp [z]
        · simp [z]
        · simp [z]
      · rintro ((z | z | z) | z)
        · simp [z]
        · simp [z]
        · simp at z
        · simp [z]
    have nd1 : (T :: (b1 ++ Oc)).Nodup := by
      refine nd_of (fun a => ?_) nd
      rw [e, c3]
      simp only [List.count_append, List.count_cons, List.count_nil]
      omega
    have rs1 : Rs K (T :: (b1 ++ Oc)) H1 ds vs := Rs.stab ow (Stab.weak (fun a z => (mem a).mp z) fun _ _ z => z) _ _ v1
    have ow1 : Own (b1 ++ Oc) H1 := ow.mono fun a z => (mem a).mp (List.mem_cons_of_mem _ z)
    have kept : ∀ {H' : Hp} {t' : Int × Int}, SameU T H1 H' → H' T = some (tapeO t') → SameT (upd H1 T (tapeO t')) H' := fun kp hT' => ⟨fun a o q ht => (by
      by_cases ha : a = T
      · subst ha; rw [upd_same] at q; rw [hT']; exact q
      · rw [upd_ne ha] at q; exact kp.kp a o q ha ht), fun x h => (by
      obtain ⟨a, b⟩ := x
      by_cases ha : a = T
      · subst ha
        cases b with
        | false => exact NN.of hT'
        | true =>
          obtain ⟨ps, q⟩ := h
          have q : upd H1 a (tapeO _) a = some (.tbl ps) := q
          rw [upd_same] at q; cases q
      · refine kp.th (a, b) ?_
        cases b with
        | false =>
          have h : upd H1 T (tapeO _) a ≠ none := h
          rw [upd_ne ha] at h; exact h
        | true =>
          obtain ⟨ps, q⟩ := h
          have q : upd H1 T (tapeO _) a = some (.tbl ps) := q
          rw [upd_ne ha] at q; exact ⟨ps, q⟩), fun P h => kp.tb P (tabs_unupd h)⟩
    have stp : ∀ {H' : Hp} {t' : Int × Int}, SameU T H1 H' → H' T = some (tapeO t') → Stp γ.T fs1 H1 fs1 H' := fun kp hT' => ⟨fun _ z => z, fun a o q n ht => kp.kp a o q (fun z => by subst z; exact n hT hm) ht, kp.th, kp.tb⟩
    by_cases hn : ds.length = n
    · rw [if_pos hn]
      intro Q
      unfold outT
      cases eF : F t ds with
      | bad => trivial
      | ok y tp =>
        cases tp with
        | none => trivial
        | some t' =>
          dsimp only
          by_cases ho : y.out = true
          · rw [if_pos ho]
            intro hq
            refine ⟨T, t, vs, ds, b1 ++ Oc, rfl, by rw [v1.len, hn], q2, ow1, nd1, rs1, ?_⟩
            rw [eF]
            refine ⟨ho, fun H' v fp kp hT' ndp nw owp hv => hq v H' ?_⟩
            have nw' : ∀ a ∈ fp, upd H1 T (tapeO t') a = none := fun a z => by
              have := nw a z
              rw [upd_ne fun y => by rw [y, q2] at this; cases this]; exact this
            have g2 := (g1.tapeSet (t' := t') hT).grow (kept kp hT') nw' ndp owp
            have ow3 : Own (fp ++ (T :: (b1 ++ Oc))) H' := g2.ow.mono fun a z => by
              simp only [List.mem_append] at z ⊢
              rcases z with z | z
              · simp [z]
              · have := (mem a).mp z
                simp only [List.mem_append] at this
                rcases this with z | z <;> simp [z]
            refine ⟨fs1, fp, g2, SVR.ghost ho (hv.mono ow3 fun a z => ?_), stp kp hT', nw⟩
            simp only [List.mem_append] at z
            rcases z with z | z | z
            · exact List.mem_append_right _ ((mem a).mpr (by simp [z]))
            · simp [z]
            · exact List.mem_append_right _ ((mem a).mpr (by simp [z]))
          · rw [if_neg ho]; trivial
      | exc c fl tp =>
        cases tp with
        | none => trivial
        | some t' =>
          dsimp only
          intro hw
          refine ⟨T, t, vs, ds, b1 ++ Oc, rfl, by rw [v1.len, hn], q2, ow1, nd1, rs1, ?_⟩
          rw [eF]
          refine fun C d H' kp hT' m x => hw C d H' ?_
          have g2 := (g1.tapeSet (t' := t') hT).kept (kept kp hT')
          exact ⟨fs1, g2, stp kp hT', m, xr_sub (g2.ow.mono fun a z => (mem a).mp z) (fun a z => (mem a).mpr z) x⟩
    · rw [if_neg hn]; exact fun Q => trivial
  · exact fun Q => trivial
end
section
variable {X : Cx} {k n i : Nat} {f : Addr} {fd : FuncData} {ps : List Str} {sp : Sp} {x y : Str} {p p2 pos : Pos} {e : Expr} {es : List Expr} {tl : TA} {W : WX} {F : List D → FR} {F2 : Int × Int → List D → FR} {FL : S → Res (List D)}
theorem ex_call (Fn : FnG X.prog X.w X.K X.mg X.base k f fd ps (spF X.K X.mg n F)) (hG : X.A.guards = some []) (hr : Room k X.A) (hg : Gl X x) (hm : X.mg x = some (.ref f)) (hk : PySem.W.keepIn X.K (.ref f) = true) (hb : Binds X.K fd ps []) (tk : Takes X W)
    (ha : AX X W (e :: es) tl FL) (hdb : (x == ("__debug__" : Str)) = false := by decide) (he : starEach (e :: es) X.env = (false, eval e X.env) :: starEach es X.env := by rfl) (hpl : (backTo pos (starEach es X.env)).any (·.1) = false := by rfl) :
    EX X W (.Call (.Name x p) (e :: es) [] pos) (tCallS (spF X.K X.mg n F) (WE W) tl) (fCall n F FL) := ⟨pe_callF Fn hG hr hg hm hk hb tk ha.pe hdb he hpl, sim_call ha.sim⟩
theorem ex_callT (Fn : FnG X.prog X.w X.K X.mg X.base k f fd ps (spT X.K X.mg n F2)) (hG : X.A.guards = some []) (hr : Room k X.A) (hg : Gl X x) (hm : X.mg x = some (.ref f)) (hk : PySem.W.keepIn X.K (.ref f) = true) (hb : Binds X.K fd ps []) (tk : Takes X W)
    (hv : PE X e (tVar i)) (ha : AX X W es tl FL) (hdb : (x == ("__debug__" : Str)) = false := by decide) (he : starEach (e :: es) X.env = (false, eval e X.env) :: starEach es X.env := by rfl) (hpl : (backTo pos (starEach es X.env)).any (·.1) = false := by rfl) :
    EX X W (.Call (.Name x p) (e :: es) [] pos) (tCallS (spT X.K X.mg n F2) (WE W) (tCons (tVar i) tl)) (fCallT i n F2 FL) := ⟨pe_callF Fn hG hr hg hm hk hb tk (pa_cons hv ha.pe he) hdb he hpl, sim_callT ha.sim⟩
end
end QL
namespace QL
open PySem PySem.Spec L2
def gNm (i : Nat) : D → S → Option S := fun d r => if i < r.sl.length then some { r with sl := r.sl.set i (some (.fz d)) } else none
structure GXs (X : Cx) (tg : List Expr) (g : TGs) (G : List D → S → Option S) : Prop where
  pg : PGs X tg g
  sim : ∀ γ Oc r σ H fs ds vs r', Good X.K γ Oc r σ H fs → Rs X.K (fs ++ Oc) H ds vs → G ds r = some r' → ∀ Q, (∀ σ' fs', Good X.K γ Oc r' σ' H fs' → (∀ a ∈ fs', a ∈ fs) → Q σ' H) → g vs σ H Q
section
variable {X : Cx} {tg e : Expr} {tgs : List Expr} {g : TG} {gs : TGs} {G : D → S → Option S} {Gs : List D → S → Option S} {i k n : Nat} {x : Str} {pos : Pos}
theorem gx_name (h : PG X tg (gName i)) : GX X tg (gName i) (gNm i) := by
  refine ⟨h, fun γ Oc r σ H fs d v r' g hr e Q hq => ?_⟩
  unfold gNm at e
  split at e
  · rename_i hi
    cases e
    have g0 : Good X.K γ ([] ++ Oc) r σ H fs := g
    obtain ⟨fs', g', sub⟩ := g0.store (x := .fz d) ⟨hr, rfl⟩ hi
    exact hq _ fs' g' fun a z => (sub a z).elim id fun z => by cases z
  · cases e
def gNilF : List D → S → Option S := fun ds r => match ds with
  | [] => some r
  | _ => none
def gConsF (G : D → S → Option S) (Gs : List D → S → Option S) : List D → S → Option S := fun ds r => match ds with
  | d :: ds => match G d r with
    | some r => Gs ds r
    | none => none
  | [] => none
theorem gxs_nil : GXs X [] gNil gNilF := by
  refine ⟨pgs_nil, fun γ Oc r σ H fs ds vs r' g hr e Q hq => ?_⟩
  cases ds with
  | nil =>
    cases e
    simp only [Rs] at hr
    exact ⟨hr, hq σ fs g fun _ z => z⟩
  | cons d ds => cases e
theorem gxs_cons (h : GX X e g G) (h2 : GXs X tgs gs Gs) (hs : (assignEach (e :: tgs) X.env).map (·.2) = assign e X.env :: (assignEach tgs X.env).map (·.2) := by rfl) : GXs X (e :: tgs) (gCons g gs) (gConsF G Gs) := by
  refine ⟨pgs_cons h.pg h2.pg hs, fun γ Oc r σ H fs ds vs r' g0 hr ee Q hq => ?_⟩
  cases ds with
  | nil => cases ee
  | cons d ds =>
    simp only [Rs] at hr
    obtain ⟨v, ws, e1, r1, r2⟩ := hr
    unfold gConsF at ee
    dsimp only at ee
    split at ee
    · rename_i r3 eG
      refine ⟨v, ws, e1, h.sim γ Oc r σ H fs d v r3 g0 r1 eG _ fun σ2 fs2 g2 sub => ?_⟩
      refine h2.sim γ Oc r3 σ2 H fs2 ds ws r' g2 (Rs.stab g0.ow (Stab.weak (fun a z => ?_) fun _ _ z => z) _ _ r2) ee _ fun σ3 fs3 g3 sub3 => hq σ3 fs3 g3 fun a z => sub a (sub3 a z)
      rcases List.mem_append.mp z with z | z
      · exact List.mem_append_left _ (sub a z)
      · exact List.mem_append_right _ z
    · cases ee
def gTupF (n : Nat) (Gs : List D → S → Option S) : D → S → Option S := fun d r => match d with
  | .tuple ds => if ds.length = n then Gs ds r else none
  | _ => none
theorem gx_tup (h : GXs X tgs gs Gs) (hp : PG X tg (gTup X.K n gs)) : GX X tg (gTup X.K n gs) (gTupF n Gs) := by
  refine ⟨hp, fun γ Oc r σ H fs d v r' g hr e Q hq => ?_⟩
  unfold gTupF at e
  split at e
  · rename_i ds
    split at e
    · rename_i hn
      simp only [R] at hr
      obtain ⟨a, vs, ev, hs, hr⟩ := hr
      exact ⟨a, vs, ev, TupAt.sq hs, by rw [hr.len, hn], h.sim γ Oc r σ H fs ds vs r' g hr e Q hq⟩
    · cases e
  · cases e
end
section
variable {X : Cx} {W : WX} {tg e a b c : Expr} {es : List Expr} {ta tb : TE} {tl : TA} {fa fb : S → Res D} {FL : S → Res (List D)} {w1 w2 : TI} {p pos : Pos}
theorem pi_or (h1 : PI X tg e w1) (h2 : PI X tg e w2) : PI X tg e (fun σ H R => w1 σ H R ∨ w2 σ H R) :=
  ⟨fun pins s σ H R I h => h.elim (h1.run pins s σ H R I) (h2.run pins s σ H R I)⟩
/-- the items -/
def itemsD : D → Option (List D)
  | .list ds => some ds
  | .tuple ds => some ds
  | .str z => some (z.cps.toList.map fun c => .str (tx [c]))
  | _ => none
def iSeq (K : PySem.W.Frag) (te : TE) : TI := fun σ H R => iList K te σ H R ∨ iTup K te σ H R ∨ iStr te σ H R
def fItems (fa : S → Res D) : S → Res (List D) := fun r => (fa r).bind fun d r => match itemsD d with
  | some ds => Res.ok ds r
  | none => Res.bad
theorem SqL.stab {K : PySem.W.Frag} {O O' : List Addr} {H H' : Hp} {a : Addr} {vs : List V} (n : a ∉ O) (q : H a = some (.lst vs)) (st : Stab O H O' H') : SqL K H' a vs := .inl (.inl ((st a n (by rw [q]; simp)).2.2 _ trivial q))
theorem SqT.stab {K : PySem.W.Frag} {O O' : List Addr} {H H' : Hp} {a : Addr} {vs : List V} (ow : Own O H) (q : SqT K H a vs) (st : Stab O H O' H') : SqT K H' a vs := by
  rcases q with q | q
  · exact .inl ((st a (ow.ntup q) (Rd.ne q)).2.1 _ trivial q)
  · exact .inr q
theorem SqL.uniq {K : PySem.W.Frag} {H : Hp} {a : Addr} {xs : List V} (q : H a = some (.lst xs)) {P : List V → Prop} {x : V} {i : Nat} (h : ∀ ys, SqL K H a ys → ys[i]? = some x) : xs[i]? = some x := h xs (.inl (.inl q))
/-- one expression whose items are walked, read by w, chosen by its value -/
theorem sim_items {K : PySem.W.Frag} {mg : Str → Option Value} (h : Sim K mg W (PF K) ta fa) : Sim K mg W (PIt K) (iSeq K ta) (fItems fa) := by
  intro γ Oc r σ H fs g Q
  unfold fItems
  have z := h γ Oc r σ H fs g
  cases eF : fa r with
  | bad => trivial
  | exc c f r' => rw [eF] at z; exact fun hw => .inl (z _ hw)
  | ok d r' =>
    rw [eF] at z
    unfold Res.bind
    dsimp only
    cases d with
    | list ds =>
      refine fun hq => .inl (z _ fun y H1 ⟨fs1, g1, v1, s1⟩ => ?_)
      simp only [R] at v1
      obtain ⟨a, vs, e1, n, q, rs⟩ := v1
      refine ⟨a, e1, ⟨vs, .inl (.inl q)⟩, hq _ _ ⟨fs1, g1, fun O' H' ow' st i => ⟨fun hi => ?_, fun hi => ⟨vs, SqL.stab n q st, by rw [rs.len]; omega⟩⟩, s1⟩⟩
      have q' : H' a = some (.lst vs) := (st a n (by rw [q]; simp)).2.2 (.lst vs) trivial q
      obtain ⟨v, hv, _⟩ := rs.get (List.getElem?_eq_getElem hi)
      refine ⟨⟨vs, v, SqL.stab n q st, hv⟩, fun x H2 ⟨eH, hx⟩ => ?_⟩
      subst eH
      refine ⟨fun _ _ z => z, fun d hd => ?_⟩
      have hx' := hx vs (.inl (.inl q'))
      obtain ⟨u, hu, ru⟩ := (Rs.stab g1.ow st _ _ rs).get hd
      rw [hx'] at hu; cases hu
      exact ru
    | tuple ds =>
      refine fun hq => .inr (.inl (z _ fun y H1 ⟨fs1, g1, v1, s1⟩ => ?_))
      simp only [R] at v1
      obtain ⟨a, vs, e1, q, rs⟩ := v1
      replace q := TupAt.sq q
      refine ⟨a, e1, ⟨vs, q⟩, hq _ _ ⟨fs1, g1, fun O' H' ow' st i => ⟨fun hi => ?_, fun hi => ⟨vs, SqT.stab g1.ow q st, by rw [rs.len]; omega⟩⟩, s1⟩⟩
      have q' := SqT.stab g1.ow q st
      obtain ⟨v, hv, _⟩ := rs.get (List.getElem?_eq_getElem hi)
      refine ⟨⟨vs, v, q', hv⟩, fun x H2 ⟨eH, hx⟩ => ?_⟩
      subst eH
      refine ⟨fun _ _ z => z, fun d hd => ?_⟩
      have hx' := hx vs q'
      obtain ⟨u, hu, ru⟩ := (Rs.stab g1.ow st _ _ rs).get hd
      rw [hx'] at hu; cases hu
      exact ru
    | str zt =>
      refine fun hq => .inr (.inr (z _ fun y H1 ⟨fs1, g1, v1, s1⟩ => ?_))
      simp only [R] at v1
      refine ⟨zt, v1, hq _ _ ⟨fs1, g1, fun O' H' ow' st i => ⟨fun hi => ?_, fun hi => ?_⟩, s1⟩⟩
      · simp only [List.length_map, Array.length_toList] at hi
        refine ⟨hi, fun x H2 ⟨eH, c, hc, ex⟩ => ?_⟩
        subst eH ex
        refine ⟨fun _ _ z => z, fun d hd => ?_⟩
        rw [List.getElem?_map, Array.getElem?_toList, hc] at hd
        cases hd
        simp only [R]; rfl
      · simp only [List.length_map, Array.length_toList] at hi
        exact Nat.le_of_eq hi.symm
    | _ => trivial
theorem ix_seq (h : FX X W a ta fa) : IX X W tg a (iSeq X.K ta) (fItems fa) := ⟨pi_or (pi_list h.pe) (pi_or (pi_tup h.pe) (pi_str h.pe)), sim_items h.sim⟩
def rngL (lo : Int) (n : Nat) : List D := (List.range n).map fun i => .int (lo + (i : Nat))
@[irreducible] def sml (i : Int) : Bool := decide (-(2 ^ 62) ≤ i ∧ i < 2 ^ 62)
def fRng1 (FL : S → Res (List D)) : S → Res (List D) := fun r => (FL r).bind fun ds r => match intsD ds with
  | some [j] => if sml j = true then Res.ok (rngL 0 j.toNat) r else Res.bad
  | _ => Res.bad
def fRng2 (FL : S → Res (List D)) : S → Res (List D) := fun r => (FL r).bind fun ds r => match intsD ds with
  | some [i, j] => if sml i = true ∧ sml j = true then Res.ok (rngL i (j - i).toNat) r else Res.bad
  | _ => Res.bad
def fRng3 (FL : S → Res (List D)) : S → Res (List D) := fun r => (FL r).bind fun ds r => match intsD ds with
  | some [i, j, c] => if sml i = true ∧ sml j = true ∧ c = -1 then Res.ok ((List.range (i - j).toNat).map fun k => .int (i - (k : Nat))) r else Res.bad
  | _ => Res.bad
theorem sml_ok {i : Int} (h : sml i = true) : -(2 ^ 62) ≤ i ∧ i < 2 ^ 62 := by simpa [sml] using h
theorem ylds_rng {K : PySem.W.Frag} {O : List Addr} {H : Hp} (lo : Int) (n : Nat) : Ylds K O H (Itr lo n) (rngL lo n) := by
  intro O' H' ow' st i
  unfold rngL
  rw [List.length_map, List.length_range]
  refine ⟨fun hi => ⟨hi, fun x H2 ⟨eH, ex⟩ => ?_⟩, fun hi => ?_⟩
  · subst eH ex
    refine ⟨fun _ _ z => z, fun d hd => ?_⟩
    rw [List.getElem?_map, List.getElem?_range hi] at hd
    cases hd
    simp only [R]
  · exact Nat.le_of_eq hi.symm
theorem sim_rng1 {K : PySem.W.Frag} {mg : Str → Option Value} (h : Sim K mg W (PL K) tl FL) : Sim K mg W (PIt K) (iRng1 tl) (fRng1 FL) := by
  intro γ Oc r σ H fs g
  refine SimAt.bind (t2 := fun (vs : List V) (H1 : Hp) (Q : It → Hp → Prop) => ∃ j : Int, vs = [.int j] ∧ -(2 ^ 62) ≤ j ∧ j < 2 ^ 62 ∧ Q (Itr 0 j.toNat) H1) (h γ Oc r σ H fs g) fun ds r1 vs H1 ⟨fs1, g1, v1, s1⟩ => ?_
  split
  · rename_i j ei
    split
    · rename_i hj
      obtain ⟨h1, h2⟩ := sml_ok hj
      exact fun Q hq => ⟨j, v1.ints ei, h1, h2, hq _ _ ⟨fs1, g1, ylds_rng _ _, s1⟩⟩
    · exact fun Q => trivial
  · exact fun Q => trivial
theorem ix_rng1 (hg : Gl X "range") (hm : X.mg "range" = none) (ha : AX X W [a] tl FL) (hs : starEach [a] X.env = [(false, eval a X.env)] := by rfl) : IX X W tg (.Call (.Name "range" p) [a] [] pos) (iRng1 tl) (fRng1 FL) := ⟨pi_range1 hg hm ha.pe hs, sim_rng1 ha.sim⟩
end
end QL
namespace QL
open PySem PySem.Spec L2
inductive Sr where
  | l (a : Addr) | t (a : Addr) | s (x : Str)
def Sr.addr : Sr → List Addr
  | .l a => [a]
  | .t a => [a]
  | .s _ => []
def SrAt (K : PySem.W.Frag) (H : Hp) : Sr → List V → Prop
  | .l a, xs => SqL K H a xs
  | .t a, xs => SqT K H a xs
  | .s x, xs => xs = x.cps.toList.map fun c => .str ⟨#[c]⟩
def SrIt (c : Sr) (it : Addr) (i : Nat) (h : Heap) : Prop := match c with
  | .l a => h.IsListIter it a i
  | .t a => h.IsTupleIter it a i
  | .s x => ∃ t, h.IsStrIter it (strIterType x) x t i
theorem SrIt.lives {c : Sr} {it : Addr} {i : Nat} {h : Heap} (x : SrIt c it i h) : ∃ o, h.get? it = some o ∧ ∀ v, o.data ≠ .cell v := by
  cases c with
  | l a => obtain ⟨o, e, _, d⟩ := x; exact ⟨o, e, fun v z => by rw [d] at z; cases z⟩
  | t a => obtain ⟨o, e, _, d⟩ := x; exact ⟨o, e, fun v z => by rw [d] at z; cases z⟩
  | s y => obtain ⟨t, o, e, _, d⟩ := x; exact ⟨o, e, fun v z => by rw [d] at z; cases z⟩
theorem SrIt.keep {c : Sr} {it : Addr} {i : Nat} {h h' : Heap} (x : SrIt c it i h) (k : ∀ o, h.get? it = some o → h'.get? it = some o) : SrIt c it i h' := by
  cases c with
  | l a => obtain ⟨o, e, r⟩ := x; exact ⟨o, k _ e, r⟩
  | t a => obtain ⟨o, e, r⟩ := x; exact ⟨o, k _ e, r⟩
  | s y => obtain ⟨t, o, e, r⟩ := x; exact ⟨t, o, k _ e, r⟩
section
variable {X : Cx} {pins : List (Addr × Obj)} {σ : St} {H : Hp} {s : Shared} {c d : Sr} {xs ys : List V} {it : Addr} {i : Nat}
theorem SrAt.uniq (I : Inv X pins σ H s) (h : SrAt X.K H c xs) (h' : SrAt X.K H c ys) : xs = ys := by
  cases c with
  | l a => exact I.list_inj h h'
  | t a => exact I.tuple_inj h h'
  | s x => exact Eq.trans h (Eq.symm h')
theorem src_draws (I : Inv X pins σ H s) (hh : X.A.handled = none) (h : SrAt X.K H c xs) (st : SrIt c it i s.heap) (ne : it ∉ c.addr) :
    ∃ (P : Nat → Value → Prop) (T : Nat → Heap → Prop), Draws X.prog X.w X.A.in1 it (it :: c.addr) xs.length P T ∧ T i s.heap ∧ (∀ j h, T j h → SrIt c it j h) ∧ ∀ v, P i v → ∃ x, xs[i]? = some x ∧ RelV x v := by
  cases c with
  | l a =>
    obtain ⟨its, rv, p, hz⟩ := I.list h
    have hl := rv.length
    have D := Draws.list (prog := X.prog) (w := X.w) (A := X.A.in1) hh it a (fun e => ne (by simp [Sr.addr, e])) its.toArray
    rw [show its.toArray.size = xs.length by simp [hl]] at D
    refine ⟨_, _, D, ⟨st, p.isList⟩, fun j h z => z.1, fun v hv => ?_⟩
    have hv' : its[i]? = some v := by simpa using hv
    have hi : i < xs.length := by rw [hl]; exact (List.getElem?_eq_some_iff.mp hv').1
    obtain ⟨u, hu, ru⟩ := rv.get (List.getElem?_eq_getElem hi)
    rw [hv'] at hu; cases hu
    exact ⟨_, List.getElem?_eq_getElem hi, ru⟩
  | t a =>
    obtain ⟨its, rv, p, hz⟩ := I.tuple h
    have hl := rv.length
    have D := Draws.tuple (prog := X.prog) (w := X.w) (A := X.A.in1) hh it a (fun e => ne (by simp [Sr.addr, e])) its.toArray
    rw [show its.toArray.size = xs.length by simp [hl]] at D
    refine ⟨_, _, D, ⟨st, p⟩, fun j h z => z.1, fun v hv => ?_⟩
    have hv' : its[i]? = some v := by simpa using hv
    have hi : i < xs.length := by rw [hl]; exact (List.getElem?_eq_some_iff.mp hv').1
    obtain ⟨u, hu, ru⟩ := rv.get (List.getElem?_eq_getElem hi)
    rw [hv'] at hu; cases hu
    exact ⟨_, List.getElem?_eq_getElem hi, ru⟩
  | s x =>
    obtain ⟨t, st⟩ := st
    have hx : xs = x.cps.toList.map fun c => .str ⟨#[c]⟩ := h
    have D := Draws.text (prog := X.prog) (w := X.w) (A := X.A.in1) hh it x t
    rw [show x.cps.size = xs.length by simp [hx]] at D
    refine ⟨_, _, D, st, fun j h z => ⟨t, z⟩, fun v ⟨c, u, hc, ev⟩ => ⟨.str ⟨#[c]⟩, by rw [hx, List.getElem?_map, Array.getElem?_toList, hc]; rfl, by subst ev; exact ⟨u, rfl⟩⟩⟩
end
def ItE (K : PySem.W.Frag) (c : Sr) : It :=
  ⟨fun i H => ∃ xs, SrAt K H c xs ∧ i < xs.length, fun i H v H' => ∃ T x, v = .ref T ∧ H T = none ∧ H' = upd H T (.tup [.int (i : Nat), x]) ∧ ∀ xs, SrAt K H c xs → xs[i]? = some x, fun i H => ∃ xs, SrAt K H c xs ∧ xs.length = i⟩
theorem turn_enumS {P : Program} {w : World} {K : PySem.W.Frag} {elts : List Expr} {kk : Nat} {tpos : Pos} {c : Sr} {e it : Addr} (hne : e ≠ it) (h1 : it ∉ c.addr) (h2 : e ∉ c.addr) :
    Turn P w K (.Tuple elts kk tpos) (ItE K c) [e, it] e (fun i h => (∃ old, IsEnum h e it (0 + ((i : Nat) : Int)) old) ∧ SrIt c it i h) where
  mem := by simp
  obj := fun i h st b hb => by
    obtain ⟨⟨old, he⟩, hi⟩ := st
    have e' : b = e ∨ b = it := by simpa using hb
    rcases e' with z | z
    · rw [z]; exact ⟨_, he, fun v q => nomatch q⟩
    · rw [z]; exact hi.lives
  keep := fun i h h' st k => ⟨⟨_, k e (by simp) _ st.1.choose_spec⟩, st.2.keep fun o q => k it (by simp) o q⟩
  item := by
    intro X hP hw hK hc i pins s σ H E I hf st hg
    subst hP hw hK
    obtain ⟨xs, hat, hi⟩ := hg
    obtain ⟨Pd, Td, D, T0, Tit, hv⟩ := src_draws I (I.ok.hd hc) hat st.2 h1
    have G := GoesN.enumFrom (elts := elts) (x1 := kk) (pos := tpos) 0 D e hne (by simp only [List.mem_cons, not_or]; exact ⟨hne, h2⟩) List.mem_cons_self
    refine G.goes i s _ E hi ⟨st.1, T0⟩ fun v h' tk hY st' hk _ => ?_
    obtain ⟨T, t, x, ev, hT, hx, htup⟩ := hY
    subst ev
    obtain ⟨y, hy, ry⟩ := hv x hx
    have new : ObjOk X.prog X.w (upd H T (.tup [.int (i : Nat), y])) h' T (.tup [.int (i : Nat), y]) :=
      ⟨by show 2 ≤ sizeLine; decide, [.int (0 + (i : Int)) t, x], .cons ⟨t, by rw [Int.zero_add]⟩ (.cons ry .nil), htup⟩
    have hel : e < s.heap.objs.size := Heap.lt_size st.1.choose_spec
    have hil : it < s.heap.objs.size := by obtain ⟨o, q, _⟩ := st.2.lives; exact Heap.lt_size q
    refine ⟨.ref T, _, I.turnedNew (t' := tk) (ch := [e, it]) hk hf hT new, rfl, ⟨T, y, rfl, I.hok.fresh hT, rfl, fun zs hz => by rw [← SrAt.uniq I hat hz]; exact hy⟩, ⟨st'.1, Tit _ _ st'.2⟩, fun b hb => ?_⟩
    have hb' : b < s.heap.objs.size := by
      have e' : b = e ∨ b = it := by simpa using hb
      rcases e' with z | z
      · rw [z]; exact hel
      · rw [z]; exact hil
    rw [upd_ne (Nat.ne_of_lt (Nat.lt_of_lt_of_le hb' hT))]
    exact (hf b hb).1
  done := by
    intro X hP hw hK hc i pins s σ H E I hf st hg
    subst hP hw hK
    obtain ⟨xs, hat, hi⟩ := hg
    subst hi
    obtain ⟨Pd, Td, D, T0, Tit, hv⟩ := src_draws I (I.ok.hd hc) hat st.2 h1
    have G := GoesN.enumFrom (elts := elts) (x1 := kk) (pos := tpos) 0 D e hne (by simp only [List.mem_cons, not_or]; exact ⟨hne, h2⟩) List.mem_cons_self
    refine G.stops s _ E ⟨st.1, T0⟩ fun h' tk hk _ => ?_
    exact I.turnedL (t' := tk) (ch := [e, it]) hk hf
  self := fun A i s Q E st h => wpAny_pyIter_enum st.1.choose_spec h
section
variable {X : Cx} {e e2 e3 : Expr} {te : TE} {tl : TA} {p pos tpos : Pos} {elts : List Expr} {kk : Nat}
/-- enumerate of a text or a list -/
def iEnumS (K : PySem.W.Frag) (ta : TA) : TI := fun σ H R => ta σ H fun vs H1 => (∃ x, vs = [.str x] ∧ R (ItE K (.s x)) H1) ∨ ∃ a xs, vs = [.ref a] ∧ SqL K H1 a xs ∧ R (ItE K (.l a)) H1
theorem pi_enumS (hg : Gl X "enumerate") (hm : X.mg "enumerate" = none) (ha : PA X [e] tl) (hs : starEach [e] X.env = [(false, eval e X.env)] := by rfl) : PI X (.Tuple elts kk tpos) (.Call (.Name "enumerate" p) [e] [] pos) (iEnumS X.K tl) := by
  refine ⟨fun pins s σ H R I h => ?_⟩
  refine PyProof.Rows.Call_ (ld_blt I hg hm PyProof.Rows.boot_enumerate (PyProof.Rows.callWith_type1 (thn (ha.run pos pins s σ H _ I h) fun us s1 ⟨vs, H1, I1, rv, q1⟩ => ?_) hs rfl))
  have fp2 : ∀ b, b ∈ [s1.heap.objs.size + 1, s1.heap.objs.size] → FpOk X pins H1 b := fun b hb => by
    have hle : s1.heap.objs.size ≤ b := by
      have e' : b = s1.heap.objs.size + 1 ∨ b = s1.heap.objs.size := by simpa using hb
      omega
    exact I1.fpOk hle (I1.hok.fresh hle)
  rcases q1 with ⟨x, ev, q⟩ | ⟨a, xs, ev, hq, q⟩
  · subst ev
    cases rv with
    | cons r rr =>
      cases rr
      obtain ⟨t, rfl⟩ := r
      refine call_enumerate_str fun h' he hit hsz hk => wpAny_pyIter_enum he ?_
      exact ⟨s1.heap.objs.size + 1, [s1.heap.objs.size + 1, s1.heap.objs.size], _, _, H1, rfl, I1.kept (t' := s1.toks) hk, turn_enumS (c := .s x) (Nat.succ_ne_self _) (by simp [Sr.addr]) (by simp [Sr.addr]), ⟨⟨.none, he⟩, t, hit⟩, fp2, q⟩
  · subst ev
    cases rv with
    | cons r rr =>
      cases rr
      cases r
      obtain ⟨its, rv, p', hz⟩ := I1.list hq
      have hal : a < s1.heap.objs.size := p'.lt
      refine call_enumerate_list p'.isList fun h' he hit hsz hk => wpAny_pyIter_enum he ?_
      refine ⟨s1.heap.objs.size + 1, [s1.heap.objs.size + 1, s1.heap.objs.size], _, _, H1, rfl, I1.kept (t' := s1.toks) hk, turn_enumS (c := .l a) (Nat.succ_ne_self _) (fun z => ?_) (fun z => ?_), ⟨⟨.none, he⟩, hit⟩, fp2, q⟩
      · have z : s1.heap.objs.size = a := by simpa [Sr.addr] using z
        exact absurd hal (by rw [← z]; exact Nat.lt_irrefl _)
      · have z : s1.heap.objs.size + 1 = a := by simpa [Sr.addr] using z
        exact absurd hal (by rw [← z]; exact Nat.not_lt.mpr (Nat.le_succ _))
end
theorem SrAt.stab {K : PySem.W.Frag} {O O' : List Addr} {H H' : Hp} {c : Sr} {d : D} {ds : List D} {vs : List V} : True := trivial
/-- a source of data, frozen -/
def SrD (K : PySem.W.Frag) (O : List Addr) (H : Hp) (c : Sr) (ds : List D) : Prop := match c with
  | .l a => ∃ vs, a ∉ O ∧ H a = some (.lst vs) ∧ Rs K O H ds vs
  | .t a => ∃ vs, SqT K H a vs ∧ Rs K O H ds vs
  | .s x => ds = x.cps.toList.map fun c => .str (tx [c])
theorem SrD.stab {K : PySem.W.Frag} {O O' : List Addr} {H H' : Hp} {c : Sr} {ds : List D} (ow : Own O H) (st : Stab O H O' H') (h : SrD K O H c ds) : SrD K O' H' c ds := by
  cases c with
  | l a =>
    obtain ⟨vs, n, q, h⟩ := h
    obtain ⟨n', _, k⟩ := st a n (by rw [q]; simp)
    exact ⟨vs, n', k _ trivial q, Rs.stab ow st _ _ h⟩
  | t a =>
    obtain ⟨vs, q, h⟩ := h
    exact ⟨vs, SqT.stab ow q st, Rs.stab ow st _ _ h⟩
  | s x => exact h
theorem SrD.at {K : PySem.W.Frag} {O : List Addr} {H : Hp} {c : Sr} {ds : List D} (h : SrD K O H c ds) : ∃ vs, SrAt K H c vs ∧ Rs K O H ds vs := by
  cases c with
  | l a => obtain ⟨vs, n, q, h⟩ := h; exact ⟨vs, .inl (.inl q), h⟩
  | t a => obtain ⟨vs, q, h⟩ := h; exact ⟨vs, q, h⟩
  | s x =>
    refine ⟨_, rfl, ?_⟩
    have h : ds = x.cps.toList.map fun c => .str (tx [c]) := h
    rw [h]
    have e1 : (x.cps.toList.map fun c => PyData.str (tx [c])) = (x.cps.toList.map fun c => tx [c]).map PyData.str := by rw [List.map_map]; rfl
    have e2 : (x.cps.toList.map fun c => V.str ⟨#[c]⟩) = (x.cps.toList.map fun c => tx [c]).map V.str := by rw [List.map_map]; rfl
    rw [e1, e2]
    exact Rs.ofStrs _
/-- the sources of data -/
theorem srD_of {K : PySem.W.Frag} {O : List Addr} {H : Hp} {d : D} {ds : List D} {v : V} (h : R K O H d v) (e : itemsD d = some ds) : (∃ a, v = .ref a ∧ SrD K O H (.l a) ds ∧ ∃ x, d = .list x) ∨ (∃ a, v = .ref a ∧ SrD K O H (.t a) ds ∧ ∃ x, d = .tuple x) ∨ ∃ x, v = .str x ∧ SrD K O H (.s x) ds ∧ d = .str x := by
  cases d with
  | list xs =>
    cases e
    simp only [R] at h
    obtain ⟨a, vs, e1, n, q, h⟩ := h
    exact .inl ⟨a, e1, ⟨vs, n, q, h⟩, _, rfl⟩
  | tuple xs =>
    cases e
    simp only [R] at h
    obtain ⟨a, vs, e1, q, h⟩ := h
    exact .inr (.inl ⟨a, e1, ⟨vs, TupAt.sq q, h⟩, _, rfl⟩)
  | str x =>
    cases e
    simp only [R] at h
    exact .inr (.inr ⟨x, h, rfl, rfl⟩)
  | _ => cases e
def enumL (ds : List D) : List D := (List.range ds.length).zipWith (fun i d => .tuple [.int (i : Nat), d]) ds
def fEnum (FL : S → Res (List D)) : S → Res (List D) := fun r => (FL r).bind fun ds r => match ds with
  | [.list ds] => Res.ok (enumL ds) r
  | [.str z] => Res.ok (enumL (z.cps.toList.map fun c => .str (tx [c]))) r
  | _ => Res.bad
theorem enumL_len (ds : List D) : (enumL ds).length = ds.length := by simp [enumL]
theorem enumL_get {ds : List D} {i : Nat} {d : D} (h : (enumL ds)[i]? = some d) : ∃ d', ds[i]? = some d' ∧ d = .tuple [.int (i : Nat), d'] := by
  unfold enumL at h
  rw [List.getElem?_zipWith] at h
  cases e : ds[i]? with
  | none =>
    rw [e] at h
    cases e2 : (List.range ds.length)[i]? <;> rw [e2] at h <;> cases h
  | some d' =>
    have hi := (List.getElem?_eq_some_iff.mp e).1
    rw [e, List.getElem?_range hi] at h
    cases h
    exact ⟨d', rfl, rfl⟩
theorem ylds_enum {K : PySem.W.Frag} {O : List Addr} {H : Hp} {c : Sr} {ds : List D} (ow : Own O H) (h : SrD K O H c ds) : Ylds K O H (ItE K c) (enumL ds) := by
  intro O' H' ow' st i
  have h' := h.stab ow st
  obtain ⟨vs, ha, rs⟩ := h'.at
  rw [enumL_len]
  refine ⟨fun hi => ⟨⟨vs, ha, by rw [rs.len]; exact hi⟩, fun x H2 ⟨T, y, ex, hT, eH, hy⟩ => ?_⟩, fun hi => ⟨vs, ha, by rw [rs.len, hi]⟩⟩
  subst ex eH
  refine ⟨upd_kept hT, fun d hd => ?_⟩
  obtain ⟨d', hd', ed⟩ := enumL_get hd
  subst ed
  obtain ⟨u, hu, ru⟩ := rs.get hd'
  have hq := hy vs ha
  rw [hu] at hq
  obtain rfl : u = y := Option.some.inj hq
  have st2 : Stab O' H' O' (upd H' T (.tup [.int (i : Nat), u])) := Stab.weak (fun _ z => z) (upd_kept hT)
  simp only [R]
  refine ⟨T, _, rfl, upd_same, ?_⟩
  simp only [Rs, R]
  exact ⟨_, _, rfl, rfl, _, _, rfl, R.stab ow' st2 _ _ ru, rfl⟩
section
variable {X : Cx} {W : WX} {e e2 e3 : Expr} {te : TE} {tl : TA} {FL : S → Res (List D)} {p pos tpos : Pos} {elts : List Expr} {kk : Nat}
theorem sim_enum {K : PySem.W.Frag} {mg : Str → Option Value} (h : Sim K mg W (PL K) tl FL) : Sim K mg W (PIt K) (iEnumS K tl) (fEnum FL) := by
  intro γ Oc r σ H fs g
  refine SimAt.bind (t2 := fun (vs : List V) (H1 : Hp) (R : It → Hp → Prop) => (∃ x, vs = [.str x] ∧ R (ItE K (.s x)) H1) ∨ ∃ a xs, vs = [.ref a] ∧ SqL K H1 a xs ∧ R (ItE K (.l a)) H1) (h γ Oc r σ H fs g) fun ds r1 vs H1 pp => ?_
  split
  · obtain ⟨fs1, g1, v1, s1⟩ := pp
    simp only [Rs, R] at v1
    obtain ⟨v, ws, e1, ⟨a, us, e2, n, q, rs⟩, e3⟩ := v1
    subst e1 e2 e3
    exact fun Q hq => .inr ⟨a, us, rfl, .inl (.inl q), hq _ _ ⟨fs1, g1, ylds_enum g1.ow ⟨us, n, q, rs⟩, s1⟩⟩
  · obtain ⟨fs1, g1, v1, s1⟩ := pp
    simp only [Rs, R] at v1
    obtain ⟨v, ws, e1, e2, e3⟩ := v1
    subst e1 e2 e3
    exact fun Q hq => .inl ⟨_, rfl, hq _ _ ⟨fs1, g1, ylds_enum g1.ow rfl, s1⟩⟩
  · exact fun Q => trivial
theorem ix_enum (hg : Gl X "enumerate") (hm : X.mg "enumerate" = none) (ha : AX X W [e] tl FL) (hs : starEach [e] X.env = [(false, eval e X.env)] := by rfl) : IX X W (.Tuple elts kk tpos) (.Call (.Name "enumerate" p) [e] [] pos) (iEnumS X.K tl) (fEnum FL) := ⟨pi_enumS hg hm ha.pe hs, sim_enum ha.sim⟩
end
end QL
namespace QL
open PySem PySem.Spec L2
abbrev WN : WX := fun _ _ _ _ => False
theorem wipe_at (σ : St) : ∀ (vs : List Nat) (j : Nat), (L2.wipe σ vs)[j]? = if j ∈ vs ∧ j < σ.length then some none else σ[j]?
  | [], j => by simp [L2.wipe]
  | v :: vs, j => by
    show ((L2.wipe σ vs).set v none)[j]? = _
    rw [List.getElem?_set, wipe_at σ vs j, L2.wipe_length]
    by_cases h : v = j
    · subst h
      by_cases hl : v < σ.length
      · simp [hl]
      · have : σ[v]? = none := List.getElem?_eq_none (by omega)
        simp [hl, this]
    · have h' : j ≠ v := fun e => h e.symm
      simp [h, h']
theorem wipe_set {σ : St} {i : Nat} {x : Option V} {vs : List Nat} (h : i ∈ vs) : L2.wipe (σ.set i x) vs = L2.wipe σ vs := by
  apply List.ext_getElem?
  intro j
  rw [wipe_at, wipe_at, List.length_set, List.getElem?_set]
  by_cases hj : i = j
  · subst hj
    by_cases hl : i < σ.length
    · simp [h, hl]
    · simp [hl]
  · simp [hj]
theorem wipe_wipe {σ : St} {vs : List Nat} : L2.wipe (L2.wipe σ vs) vs = L2.wipe σ vs := by
  apply List.ext_getElem?
  intro j
  rw [wipe_at, wipe_at, L2.wipe_length]
  by_cases h : j ∈ vs ∧ j < σ.length
  · simp [h]
  · simp [h]
/-- a target writes the block's own names alone -/
structure GWipe (vs : List Nat) (g : TG) : Prop where
  mono : ∀ v σ H (Q Q' : St → Hp → Prop), (∀ s h, Q s h → Q' s h) → g v σ H Q → g v σ H Q'
  own : ∀ v σ H Q, g v σ H Q → g v σ H fun σ2 H2 => Q σ2 H2 ∧ L2.wipe σ2 vs = L2.wipe σ vs
structure GWipes (vs : List Nat) (g : TGs) : Prop where
  mono : ∀ us σ H (Q Q' : St → Hp → Prop), (∀ s h, Q s h → Q' s h) → g us σ H Q → g us σ H Q'
  own : ∀ us σ H Q, g us σ H Q → g us σ H fun σ2 H2 => Q σ2 H2 ∧ L2.wipe σ2 vs = L2.wipe σ vs
theorem gw_name {vs : List Nat} {i : Nat} (h : i ∈ vs) : GWipe vs (gName i) := ⟨fun _ _ _ _ _ k q => k _ _ q, fun v σ H Q q => ⟨q, wipe_set h⟩⟩
theorem gw_nil {vs : List Nat} : GWipes vs gNil := ⟨fun _ _ _ _ _ k q => ⟨q.1, k _ _ q.2⟩, fun us σ H Q q => ⟨q.1, q.2, rfl⟩⟩
theorem gw_cons {vs : List Nat} {g : TG} {gs : TGs} (h : GWipe vs g) (h2 : GWipes vs gs) : GWipes vs (gCons g gs) := by
  refine ⟨fun us σ H Q Q' k q => ?_, fun us σ H Q q => ?_⟩
  · obtain ⟨v, r, e, q⟩ := q
    exact ⟨v, r, e, h.mono _ _ _ _ _ (fun s h' => h2.mono _ _ _ _ _ k) q⟩
  · obtain ⟨v, r, e, q⟩ := q
    refine ⟨v, r, e, h.mono _ _ _ _ _ (fun σ2 H2 ⟨q2, e2⟩ => ?_) (h.own _ _ _ _ q)⟩
    exact h2.mono _ _ _ _ _ (fun σ3 H3 ⟨q3, e3⟩ => ⟨q3, e3.trans e2⟩) (h2.own _ _ _ _ q2)
theorem gw_tup {vs : List Nat} {K : PySem.W.Frag} {n : Nat} {gs : TGs} (h : GWipes vs gs) : GWipe vs (gTup K n gs) := by
  refine ⟨fun v σ H Q Q' k q => ?_, fun v σ H Q q => ?_⟩
  · obtain ⟨a, xs, e1, e2, e3, q⟩ := q
    exact ⟨a, xs, e1, e2, e3, h.mono _ _ _ _ _ k q⟩
  · obtain ⟨a, xs, e1, e2, e3, q⟩ := q
    exact ⟨a, xs, e1, e2, e3, h.own _ _ _ _ q⟩
/-- the slots of the own names forgotten -/
def wipeS : List Nat → List (Option SV) → List (Option SV)
  | [], sl => sl
  | v :: vs, sl => (wipeS vs sl).set v none
theorem wipeS_len (sl : List (Option SV)) : ∀ vs, (wipeS vs sl).length = sl.length
  | [] => rfl
  | v :: vs => by unfold wipeS; rw [List.length_set, wipeS_len sl vs]
/-- .. and as they were, where frozen -/
def restS : List Nat → List (Option SV) → List (Option SV) → List (Option SV)
  | [], _, sl => sl
  | v :: vs, old, sl => match old[v]? with
    | some (some (.fz d)) => (restS vs old sl).set v (some (.fz d))
    | _ => restS vs old sl
section
variable {K : PySem.W.Frag} {mg : Str → Option Value} {W : WX} {γ : Gh} {Oc : List Addr} {r r1 r2 : S} {σ : St} {H H' H1 H2 : Hp} {fs fs1 fp : List Addr}
theorem Slots.any {O : List Addr} : ∀ {sl : List (Option SV)} {σ : St} {fp : List Addr} {i : Nat} {y : Option V}, Slots K γ O H sl σ fp → sl[i]? = some none → Slots K γ O H sl (σ.set i y) fp
  | [], σ, fp, i, y, h, e => by simp at e
  | none :: r, σ, fp, 0, y, h, e => by
    obtain ⟨x, σ', e1, h⟩ := h
    exact ⟨y, σ', by rw [e1]; rfl, h⟩
  | none :: r, σ, fp, i + 1, y, h, e => by
    obtain ⟨x, σ', e1, h⟩ := h
    exact ⟨x, σ'.set i y, by rw [e1]; rfl, Slots.any h (by simpa using e)⟩
  | some s :: r, σ, fp, 0, y, h, e => by simp at e
  | some s :: r, σ, fp, i + 1, y, h, e => by
    obtain ⟨v, σ', f1, f2, e1, e2, h1, h2⟩ := h
    exact ⟨v, σ'.set i y, f1, f2, by rw [e1]; rfl, e2, h1, Slots.any h2 (by simpa using e)⟩
/-- one slot forgotten -/
theorem Good.forget1 {i : Nat} (g : Good K γ Oc r σ H fs) : ∃ fs', Good K γ Oc { r with sl := r.sl.set i none } (σ.set i none) H fs' ∧ ∀ a ∈ fs', a ∈ fs := by
  obtain ⟨⟨f1, f2, e, sl, tp⟩, nd, ow, tt⟩ := id g
  by_cases hi : i < r.sl.length
  · obtain ⟨a1, a2, a3, e2, _, _, hlet⟩ := sl.upd hi
    have sub : ∀ a ∈ ((a1 ++ a3) ++ f2) ++ Oc, a ∈ fs ++ Oc := fun a z => by
      rw [e, e2]
      simp only [List.mem_append] at z ⊢
      rcases z with ((z | z) | z) | z <;> simp [z]
    refine ⟨(a1 ++ a3) ++ f2, ⟨⟨a1 ++ a3, f2, rfl, ?_, tp⟩, ?_, ow.mono sub, tt⟩, fun a z => ?_⟩
    · exact Slots.any (hlet ow (Stab.weak sub fun _ _ z => z) fun _ _ => rfl) (by rw [List.getElem?_set_self hi])
    · refine nd_of (fun a => ?_) nd
      rw [e, e2]
      simp only [List.count_append]
      omega
    · rw [e, e2]
      simp only [List.mem_append] at z ⊢
      rcases z with (z | z) | z <;> simp [z]
  · have hl := sl.len
    rw [List.set_eq_of_length_le (by omega), List.set_eq_of_length_le (by omega)]
    exact ⟨fs, g, fun _ z => z⟩
theorem Good.wipe (g : Good K γ Oc r σ H fs) : ∀ vs : List Nat, ∃ fs', Good K γ Oc { r with sl := wipeS vs r.sl } (L2.wipe σ vs) H fs' ∧ ∀ a ∈ fs', a ∈ fs
  | [] => ⟨fs, g, fun _ z => z⟩
  | v :: vs => by
    obtain ⟨f1, g1, s1⟩ := Good.wipe g vs
    obtain ⟨f2, g2, s2⟩ := g1.forget1 (i := v)
    exact ⟨f2, g2, fun a z => s1 a (s2 a z)⟩
/-- a frozen slot is known again -/
theorem Good.know {i : Nat} {u : V} {d : D} (g : Good K γ Oc r σ H fs) (e : σ[i]? = some (some u)) (h : R K (fs ++ Oc) H d u) : ∃ fs', Good K γ Oc { r with sl := r.sl.set i (some (.fz d)) } σ H fs' ∧ ∀ a ∈ fs', a ∈ fs := by
  have g0 : Good K γ ([] ++ Oc) r σ H fs := g
  have hl : i < r.sl.length := by
    obtain ⟨⟨f1, f2, _, sl, _⟩, _⟩ := g
    rw [← sl.len]
    exact (List.getElem?_eq_some_iff.mp e).1
  obtain ⟨fs', g', sub⟩ := g0.store (x := .fz d) ⟨h, rfl⟩ hl
  have : σ.set i (some u) = σ := by
    obtain ⟨hj, e4⟩ := List.getElem?_eq_some_iff.mp e
    rw [← e4, List.set_getElem_self]
  rw [this] at g'
  exact ⟨fs', g', fun a z => (sub a z).elim id fun z => by cases z⟩
/-- what stood frozen at the names, told to the end -/
def Old (K : PySem.W.Frag) (O : List Addr) (H : Hp) (σ : St) (old : List (Option SV)) : Prop := ∀ (i : Nat) (d : D), old[i]? = some (some (SV.fz d)) → ∃ u, σ[i]? = some (some u) ∧ R K O H d u
theorem Good.old (g : Good K γ Oc r σ H fs) : Old K (fs ++ Oc) H σ r.sl := fun i d h => by
  obtain ⟨⟨f1, f2, _, sl, _⟩, _⟩ := g
  obtain ⟨v, a1, a2, a3, e1, e2, e3⟩ := sl.at h
  exact ⟨v, e1, e3.1⟩
theorem Good.rest {old : List (Option SV)} (g : Good K γ Oc r σ H fs) (ho : Old K (fs ++ Oc) H σ old) : ∀ vs : List Nat, ∃ fs', Good K γ Oc { r with sl := restS vs old r.sl } σ H fs' ∧ ∀ a ∈ fs', a ∈ fs
  | [] => ⟨fs, g, fun _ z => z⟩
  | v :: vs => by
    obtain ⟨f1, g1, s1⟩ := Good.rest g ho vs
    unfold restS
    split
    · rename_i d e
      obtain ⟨u, e1, ru⟩ := ho v d e
      have ru' : R K (f1 ++ Oc) H d u := R.stab g.ow (Stab.weak (fun a z => by
        rcases List.mem_append.mp z with z | z
        · exact List.mem_append_left _ (s1 a z)
        · exact List.mem_append_right _ z) fun _ _ z => z) _ _ ru
      obtain ⟨f2, g2, s2⟩ := g1.know e1 ru'
      exact ⟨f2, g2, fun a z => s1 a (s2 a z)⟩
    · exact ⟨f1, g1, s1⟩
/-- a state whose slots no longer tell the names: σ is put back -/
theorem Slots.unwipe {O : List Addr} {sl : List (Option SV)} {σ : St} : ∀ (vs : List Nat) {fp : List Addr}, Slots K γ O H sl (L2.wipe σ vs) fp → (∀ v ∈ vs, v < sl.length → sl[v]? = some none) → Slots K γ O H sl σ fp
  | [], fp, h, _ => h
  | v :: vs, fp, h, hn => by
    refine Slots.unwipe vs (fp := fp) ?_ fun u hu => hn u (List.mem_cons_of_mem _ hu)
    have hl := h.len
    have h : Slots K γ O H sl ((L2.wipe σ vs).set v none) fp := h
    by_cases hv : v < sl.length
    · have hv' : v < (L2.wipe σ vs).length := by
        have : ((L2.wipe σ vs).set v none).length = sl.length := h.len
        rw [List.length_set] at this
        omega
      have z := Slots.any (y := (L2.wipe σ vs)[v]) h (hn v List.mem_cons_self hv)
      rw [List.set_set, List.set_getElem_self] at z
      exact z
    · have : (L2.wipe σ vs).length ≤ v := by
        have : ((L2.wipe σ vs).set v none).length = sl.length := h.len
        rw [List.length_set] at this
        omega
      rw [List.set_eq_of_length_le this] at h
      exact h
theorem wipeS_none (sl : List (Option SV)) : ∀ (vs : List Nat) (v : Nat), v ∈ vs → v < sl.length → (wipeS vs sl)[v]? = some none
  | [], v, h, _ => by cases h
  | u :: vs, v, h, hl => by
    unfold wipeS
    rw [List.getElem?_set]
    by_cases e : u = v
    · subst e
      simp [wipeS_len, hl]
    · rw [if_neg e]
      exact wipeS_none sl vs v ((List.mem_cons.mp h).resolve_left fun z => e z.symm) hl
theorem Good.unwipe {vs : List Nat} {r : S} {sl : List (Option SV)} (g : Good K γ Oc r (L2.wipe σ vs) H fs) (e : r.sl = wipeS vs sl) : Good K γ Oc r σ H fs := by
  obtain ⟨⟨f1, f2, e0, sl0, tp⟩, nd, ow, tt⟩ := g
  refine ⟨⟨f1, f2, e0, Slots.unwipe vs sl0 fun v hv hl => ?_, tp⟩, nd, ow, tt⟩
  rw [e] at hl ⊢
  rw [wipeS_len] at hl
  exact wipeS_none sl vs v hv hl
/-- a temporary list gets a new content -/
theorem Good.setTmp {p : Addr} {vs : List V} (g : Good K γ ([p] ++ Oc) r σ H fs) : Good K γ ([p] ++ Oc) r σ (upd H p (.lst vs)) fs ∧ Stab (fs ++ ([p] ++ Oc)) H (fs ++ ([p] ++ Oc)) (upd H p (.lst vs)) ∧ p ∉ fs := by
  have g' := g
  obtain ⟨⟨f1, f2, e, sl, tp⟩, nd, ow, tt⟩ := g
  have np : p ∉ fs := fun z => (List.nodup_append.mp nd).2.2 p z p (by simp) rfl
  have ne : ∀ a, a ∉ fs ++ ([p] ++ Oc) → a ≠ p := fun a n z => n (by rw [z]; simp)
  have st : Stab (fs ++ ([p] ++ Oc)) H (fs ++ ([p] ++ Oc)) (upd H p (.lst vs)) := fun a n _ => ⟨n, fun u _ q => by
    rcases q with q | ⟨o, q⟩
    · exact .inl (by rw [upd_ne (ne a n)]; exact q)
    · exact .inr ⟨o, by rw [upd_ne (ne a n)]; exact q⟩, fun u _ q => by rw [upd_ne (ne a n)]; exact q⟩
  have nf : ∀ a ∈ fs, a ≠ p := fun a z y => np (y ▸ z)
  refine ⟨⟨⟨f1, f2, e, sl.stab ow st fun a z => upd_ne (nf a (by rw [e]; simp [z])), ?_⟩, nd, fun a z => ?_, tt.1, fun q hq => (by
    obtain ⟨o, ho, l⟩ := ow p (by simp)
    exact tabs_upd ho l (tt.2 q hq))⟩, st, np⟩
  · cases q : r.tp with
    | none => rw [q] at tp; exact tp
    | some t =>
      rw [q] at tp
      obtain ⟨a, e1, e2, e3⟩ := tp
      exact ⟨a, e1, by rw [upd_ne (nf a (by rw [e, e3]; simp))]; exact e2, e3⟩
  · by_cases ha : a = p
    · subst ha; exact ⟨_, upd_same, trivial⟩
    · obtain ⟨o, ho, l⟩ := ow a z
      exact ⟨o, by rw [upd_ne ha]; exact ho, l⟩
end
def lcF (vs : List Nat) (G : D → S → Option S) (T : S → Res Bool) (F : S → Res D) : List D → List D → S → Res (List D)
  | [], acc, r => .ok acc r
  | d :: ds, acc, r => match G d r with
    | none => .bad
    | some r => match T r with
      | .ok true r => match F r with
        | .ok y r => if acc.length < sizeLine then lcF vs G T F ds (acc ++ [y]) { r with sl := wipeS vs r.sl } else .bad
        | _ => .bad
      | .ok false r => lcF vs G T F ds acc { r with sl := wipeS vs r.sl }
      | _ => .bad
def fLc (vs : List Nat) (I : S → Res (List D)) (G : D → S → Option S) (T : S → Res Bool) (F : S → Res D) : S → Res SV := fun r => (I r).bind fun ds r => match lcF vs G T F ds [] { r with sl := wipeS vs r.sl } with
  | .ok acc r' => Res.ok (SV.ol acc) { r' with sl := restS vs r.sl r'.sl }
  | _ => Res.bad
/-- the mirror's slots stay wiped -/
theorem lcF_wiped {vs : List Nat} {G : D → S → Option S} {T : S → Res Bool} {F : S → Res D} : ∀ (ds acc : List D) (r : S) (acc' : List D) (r' : S), (∃ sl, r.sl = wipeS vs sl) → lcF vs G T F ds acc r = .ok acc' r' → ∃ sl, r'.sl = wipeS vs sl
  | [], acc, r, acc', r', h, e => by
    unfold lcF at e
    cases e
    exact h
  | d :: ds, acc, r, acc', r', h, e => by
    unfold lcF at e
    split at e
    · cases e
    · split at e
      · split at e
        · split at e
          · exact lcF_wiped ds _ _ acc' r' ⟨_, rfl⟩ e
          · cases e
        · cases e
      · exact lcF_wiped ds _ _ acc' r' ⟨_, rfl⟩ e
      · cases e
theorem sim_lc {K : PySem.W.Frag} {mg : Str → Option Value} {W : WX} {wi : TI} {g : TG} {tt : TT} {te : TE} {vs : List Nat} {I : S → Res (List D)} {G : D → S → Option S} {T : S → Res Bool} {F : S → Res D}
    (hi : Sim K mg W (PIt K) wi I) (hg : ∀ γ Oc r σ H fs d v r', Good K γ Oc r σ H fs → R K (fs ++ Oc) H d v → G d r = some r' → ∀ Q, (∀ σ' fs', Good K γ Oc r' σ' H fs' → (∀ a ∈ fs', a ∈ fs) → Q σ' H) → g v σ H Q) (hw : GWipe vs g)
    (ht : Sim K mg WN (PTt K) tt T) (he : Sim K mg WN (PF K) te F) : Sim K mg W (PV K) (tLc wi g tt te vs) (fLc vs I G T F) := by
  intro γ Oc r σ H fs g0
  refine SimAt.bind (t2 := fun (J : It) (H1 : Hp) (Q : VK) => ∀ D, H1 D = none → ∃ W : Nat → Nat → Hp → Prop, (∃ m, W 0 m (upd H1 D (.lst []))) ∧ ∀ i m H, W i m H →
    (J.stop i H ∧ Q (.ref D) H) ∨ (J.go i H ∧ ∃ Nx : Hp → Prop, (∀ H', Nx H' → ∃ m', m' < m ∧ W (i + 1) m' H') ∧ ∀ x H', J.yld i H x H' → g x (L2.wipe σ vs) H' fun σ2 H2 => L2.wipe σ2 vs = L2.wipe σ vs ∧ tt σ2 H2 fun b H3 =>
      if b = true then te σ2 H3 fun y H4 => ∃ acc, H4 D = some (.lst acc) ∧ acc.length < sizeLine ∧ Nx (upd H4 D (.lst (acc ++ [y]))) else Nx H3)) (hi γ Oc r σ H fs g0) fun ds r1 J H1 ⟨fs1, g1, yl, s1⟩ => ?_
  refine SimAt.tr s1 ?_
  cases eL : lcF vs G T F ds [] { r1 with sl := wipeS vs r1.sl } with
  | exc _ _ _ => exact fun Q => trivial
  | bad => exact fun Q => trivial
  | ok accE rE =>
    obtain ⟨slE, eslE⟩ := lcF_wiped _ _ _ _ _ ⟨_, rfl⟩ eL
    intro Q hq p hp
    have k0 := upd_kept (o := .lst []) hp
    obtain ⟨fw, gw, sw⟩ := g1.wipe vs
    have gw1 : Good K γ ([p] ++ Oc) { r1 with sl := wipeS vs r1.sl } (L2.wipe σ vs) (upd H1 p (.lst [])) fw := gw.grow k0 (by simpa using hp) (by simp) (by simp [Own, upd_same, LD])
    refine ⟨fun i m H => m = ds.length - i ∧ i ≤ ds.length ∧ ∃ r fs acc us, Good K γ ([p] ++ Oc) r (L2.wipe σ vs) H fs ∧ H p = some (.lst us) ∧ Rs K (fs ++ ([p] ++ Oc)) H acc us ∧ Stp γ.T fs1 H1 fs H ∧ lcF vs G T F (ds.drop i) acc r = .ok accE rE,
      ⟨ds.length, rfl, Nat.zero_le _, _, fw, [], [], gw1, upd_same, by simp [Rs], ⟨sw, fun a o e _ _ => k0 a o e, (SameT.of k0).th, (SameT.of k0).tb⟩, by simpa using eL⟩, ?_⟩
    rintro i m H ⟨rfl, hil, r, fs, acc, us, g, hD, racc, st, eF⟩
    have stab : Stab (fs1 ++ Oc) H1 (fs ++ ([p] ++ Oc)) H := fun a n e => by
      have nf : a ∉ fs1 := fun z => n (List.mem_append_left _ z)
      have np : a ≠ p := fun z => e (z ▸ hp)
      refine ⟨fun z => ?_, fun u hu q => ?_, fun u hu q => st.keep a _ q (fun _ => nf) hu.nt⟩
      · simp only [List.mem_append, List.mem_singleton] at z
        rcases z with z | z | z
        · exact nf (st.sub a z)
        · exact np z
        · exact n (List.mem_append_right _ z)
      · rcases q with q | ⟨o, q⟩
        · exact .inl (st.keep a _ q (fun _ => nf) hu.nt)
        · exact .inr ⟨o, st.keep a _ q fun _ => nf⟩
    obtain ⟨go, stop⟩ := yl (fs ++ ([p] ++ Oc)) H g.ow stab i
    by_cases hlt : i < ds.length
    · obtain ⟨hgo, hy⟩ := go hlt
      rw [List.drop_eq_getElem_cons hlt] at eF
      refine .inr ⟨hgo, fun H' => ∃ r' fs' acc' us', Good K γ ([p] ++ Oc) r' (L2.wipe σ vs) H' fs' ∧ H' p = some (.lst us') ∧ Rs K (fs' ++ ([p] ++ Oc)) H' acc' us' ∧ Stp γ.T fs1 H1 fs' H' ∧ lcF vs G T F (ds.drop (i + 1)) acc' r' = .ok accE rE, fun H' h => ⟨ds.length - (i + 1), by omega, rfl, hlt, h⟩, fun x H2 y => ?_⟩
      obtain ⟨kp, hx⟩ := hy x H2 y
      have rx := hx ds[i] (List.getElem?_eq_getElem hlt)
      have kp' : SameT H H2 := .of kp
      have g2 := g.kept kp'
      have racc2 : Rs K (fs ++ ([p] ++ Oc)) H2 acc us := Rs.stab g.ow (Stab.weak (fun _ z => z) kp) _ _ racc
      have st2 : Stp γ.T fs1 H1 fs H2 := st.trans (Stp.same _ _ kp')
      unfold lcF at eF
      cases eG : G ds[i] r with
      | none => rw [eG] at eF; cases eF
      | some r3 =>
        rw [eG] at eF
        dsimp only at eF
        refine hw.mono _ _ _ _ _ (fun σ2 H3 hh => ?_) (hw.own _ _ _ _ (hg γ ([p] ++ Oc) r (L2.wipe σ vs) H2 fs ds[i] x r3 g2 rx eG (fun σ' H3 => ∃ fs', Good K γ ([p] ++ Oc) r3 σ' H3 fs' ∧ (∀ a ∈ fs', a ∈ fs) ∧ H3 = H2) fun σ' fs' g' sub => ⟨fs', g', sub, rfl⟩))
        obtain ⟨⟨fs3, g3, sub3, eH⟩, ew⟩ := hh
        subst eH
        rw [wipe_wipe] at ew
        refine ⟨ew, ?_⟩
        have st3 : Stp γ.T fs1 H1 fs3 H3 := ⟨fun a z => st2.sub a (sub3 a z), @Stp.keep _ _ _ _ _ st2, st2.there, st2.tb⟩
        have racc3 : Rs K (fs3 ++ ([p] ++ Oc)) H3 acc us := Rs.stab g2.ow (Stab.weak (fun a z => by
          rcases List.mem_append.mp z with z | z
          · exact List.mem_append_left _ (sub3 a z)
          · exact List.mem_append_right _ z) fun _ _ z => z) _ _ racc2
        have hD3 : H3 p = some (.lst us) := kp _ _ hD
        have ztt := ht γ ([p] ++ Oc) r3 σ2 H3 fs3 g3
        -- the list itself is kept by the block's expressions
        have keepP : ∀ {fa fb : List Addr} {Ha Hb : Hp} {ra : S} {σa : St}, Good K γ ([p] ++ Oc) ra σa Ha fa → Stp γ.T fa Ha fb Hb → Ha p = some (.lst us) → Hb p = some (.lst us) := fun ga sa e => by
          rw [ga.tmp (fp := [p]) sa p (by simp)]
          exact e
        cases eT : T r3 with
        | exc _ _ _ => rw [eT] at eF; cases eF
        | bad => rw [eT] at eF; cases eF
        | ok b r4 =>
          rw [eT] at eF ztt
          refine ztt _ fun c H4 ⟨fs4, g4, ec, s4⟩ => ?_
          subst ec
          have racc4 : Rs K (fs4 ++ ([p] ++ Oc)) H4 acc us := Rs.stab g3.ow (g3.stabSub s4) _ _ racc3
          have hD4 := keepP g3 s4 hD3
          have st4 := st3.trans s4
          cases c with
          | false =>
            rw [if_neg (by simp)]
            obtain ⟨fs5, g5, sub5⟩ := g4.wipe vs
            rw [ew] at g5
            refine ⟨_, fs5, acc, us, g5, hD4, Rs.stab g4.ow (Stab.weak (fun a z => ?_) fun _ _ z => z) _ _ racc4, ⟨fun a z => st4.sub a (sub5 a z), @Stp.keep _ _ _ _ _ st4, st4.there, st4.tb⟩, eF⟩
            rcases List.mem_append.mp z with z | z
            · exact List.mem_append_left _ (sub5 a z)
            · exact List.mem_append_right _ z
          | true =>
            rw [if_pos rfl]
            dsimp only at eF
            have zee := he γ ([p] ++ Oc) r4 σ2 H4 fs4 g4
            cases eE : F r4 with
            | exc _ _ _ => rw [eE] at eF; cases eF
            | bad => rw [eE] at eF; cases eF
            | ok y r5 =>
              rw [eE] at eF zee
              dsimp only at eF
              split at eF
              · rename_i hsz
                refine zee _ fun u H5 ⟨fs5, g5, ry, s5⟩ => ?_
                have racc5 : Rs K (fs5 ++ ([p] ++ Oc)) H5 acc us := Rs.stab g4.ow (g4.stabSub s5) _ _ racc4
                have hD5 := keepP g4 s5 hD4
                have st5 := st4.trans s5
                refine ⟨us, hD5, by rw [racc5.len]; exact hsz, ?_⟩
                obtain ⟨g6, stb6, np6⟩ := g5.setTmp (vs := us ++ [u])
                have rall : Rs K (fs5 ++ ([p] ++ Oc)) H5 (acc ++ [y]) (us ++ [u]) := racc5.app (by simp only [Rs]; exact ⟨u, [], rfl, ry, rfl⟩)
                have rall6 := Rs.stab g5.ow stb6 _ _ rall
                obtain ⟨fs7, g7, sub7⟩ := g6.wipe vs
                rw [ew] at g7
                refine ⟨_, fs7, acc ++ [y], us ++ [u], g7, upd_same, Rs.stab g6.ow (Stab.weak (fun a z => ?_) fun _ _ z => z) _ _ rall6, ⟨fun a z => st5.sub a (sub7 a z), fun a o e n ht => ?_, fun a e => ?_, fun P h => tabs_upd hD5 trivial (st5.tb P h)⟩, eF⟩
                · rcases List.mem_append.mp z with z | z
                  · exact List.mem_append_left _ (sub7 a z)
                  · exact List.mem_append_right _ z
                · have np : a ≠ p := fun z => by rw [z, hp] at e; cases e
                  rw [upd_ne np]
                  exact st5.keep a o e n ht
                · exact nn_upd hD5 rfl (st5.there a e)
              · cases eF
    · have e : ds.drop i = [] := List.drop_eq_nil_of_le (by omega)
      rw [e] at eF
      unfold lcF at eF
      cases eF
      refine .inl ⟨stop (by omega), hq _ _ ?_⟩
      have gu := g.unwipe eslE
      have old : Old K (fs ++ ([p] ++ Oc)) H σ r1.sl := fun j d hd => by
        obtain ⟨u, hu, ru⟩ := g1.old j d hd
        exact ⟨u, hu, R.stab g1.ow stab _ _ ru⟩
      obtain ⟨fs9, g9, sub9⟩ := gu.rest old vs
      refine ⟨fs9, [p], g9, ⟨p, us, rfl, hD, Rs.stab g.ow (Stab.weak (fun a z => ?_) fun _ _ z => z) _ _ racc, rfl⟩, ⟨fun a z => st.sub a (sub9 a z), @Stp.keep _ _ _ _ _ st, st.there, st.tb⟩, by simpa using hp⟩
      rcases List.mem_append.mp z with z | z
      · exact List.mem_append_left _ (sub9 a z)
      · exact List.mem_append_right _ z
end QL
namespace QL
open PySem PySem.Spec L2
structure TsX (X : Cx) (W : WX) (es : List Expr) (t : TT) (F : S → Res Bool) : Prop where
  pe : PTs X es t
  sim : Sim X.K X.mg W (PTt X.K) t F
section
variable {X : Cx} {W : WX} {e elt tg iter : Expr} {ifs : List Expr} {scope : Scope} {own : List (Str × Nat)} {pos : Pos} {wi : TI} {g : TG} {tt : TT} {te : TE} {I : S → Res (List D)} {G : D → S → Option S} {T : S → Res Bool} {F : S → Res D}
def tYesF : S → Res Bool := fun r => .ok true r
theorem tsx_nil : TsX X W [] tYes tYesF := ⟨pts_nil, fun γ Oc r σ H fs g Q hq => hq true H ⟨fs, g, rfl, Stp.refl _ _ _⟩⟩
theorem tsx_one (h : TX X W e tt T) : TsX X W [e] tt T := ⟨pts_one h.pe, h.sim⟩
theorem ex_lc (hp : PE X e (tLc wi g tt te (own.map (·.2)))) (hi : IX X W tg iter wi I) (hw : GWipe (own.map (·.2)) g)
    (hg : ∀ (s : Shared) (H : Hp) (C : Addr) (cl : List (Str × Addr)) (fp : List Addr), GX (X.blk s H scope (compEnvC scope cl C X.env) fp) tg g G)
    (ht : ∀ (s : Shared) (H : Hp) (C : Addr) (cl : List (Str × Addr)) (fp : List Addr), TsX (X.blk s H scope (compEnvC scope cl C X.env) fp) WN ifs tt T)
    (he : ∀ (s : Shared) (H : Hp) (C : Addr) (cl : List (Str × Addr)) (fp : List Addr), FX (X.blk s H scope (compEnvC scope cl C X.env) fp) WN elt te F) : EX X W e (tLc wi g tt te (own.map (·.2))) (fLc (own.map (·.2)) I G T F) :=
  ⟨hp, sim_lc hi.sim (hg X.s_0 X.H_0 0 [] []).sim hw (ht X.s_0 X.H_0 0 [] []).sim (he X.s_0 X.H_0 0 [] []).sim⟩
end
def REs (K : PySem.W.Frag) (γ : Gh) (O : List Addr) (H : Hp) : List D → List V → Prop
  | [], vs => vs = []
  | d :: ds, vs => ∃ v ws, vs = v :: ws ∧ RE K γ O H d v ∧ REs K γ O H ds ws
def PLb (K : PySem.W.Frag) : Pst (List D) (List V) := fun γ Oc r' σ H fs H' ds vs => ∃ fs', Good K γ Oc r' σ H' fs' ∧ REs K γ (fs' ++ Oc) H' ds vs ∧ Stp γ.T fs H fs' H'
instance {K : PySem.W.Frag} : PstT (PLb K) := ⟨fun s ⟨f, a, b, c⟩ => ⟨f, a, b, s.trans c⟩⟩
structure BAX (X : Cx) (W : WX) (es : List Expr) (t : TA) (F : S → Res (List D)) : Prop where
  pe : PA X es t
  sim : Sim X.K X.mg W (PLb X.K) t F
section
variable {X : Cx} {W : WX} {e a b c : Expr} {es : List Expr} {ta tb tc : TE} {tl : TA} {fa fb fc : S → Res D} {F : S → Res SV} {FL : S → Res (List D)} {x : Str} {p pos : Pos}
theorem bax_nil : BAX X W [] tNil aNil := ⟨pa_nil, fun γ Oc r σ H fs g Q hq => hq [] H ⟨fs, g, rfl, Stp.refl _ _ _⟩⟩
theorem bax_cons (h : BX X W e ta fa) (h' : BAX X W es tl FL) (hs : starEach (e :: es) X.env = (false, eval e X.env) :: starEach es X.env := by rfl) : BAX X W (e :: es) (tCons ta tl) (aCons fa FL) := by
  refine ⟨pa_cons h.pe h'.pe hs, fun γ Oc r σ H fs g => ?_⟩
  refine SimAt.bind (t2 := fun (x : V) (H1 : Hp) (Q : List V → Hp → Prop) => tl σ H1 fun xs H2 => Q (x :: xs) H2) (h.sim γ Oc r σ H fs g) fun d r1 v H1 ⟨fs1, g1, v1, s1⟩ => ?_
  refine SimAt.tr s1 (SimAt.bind (t2 := fun (xs : List V) (H2 : Hp) (Q : List V → Hp → Prop) => Q (v :: xs) H2) (h'.sim γ Oc r1 σ H1 fs1 g1) fun ds r2 vs H2 ⟨fs2, g2, v2, s2⟩ => ?_)
  exact SimAt.tr s2 fun Q hq => hq _ _ ⟨fs2, g2, ⟨v, vs, rfl, v1.keep g1 s2, v2⟩, Stp.refl _ _ _⟩
/-- a built-in's rule answers as op says -/
def OpB (K : PySem.W.Frag) (rr : List V → Hp → VK → Prop) (op : List D → Option OV) : Prop :=
  ∀ (γ : Gh) (O : List Addr) (H : Hp) (ds : List D) (vs : List V) (z : OV) (Q : VK), Own O H → REs K γ O H ds vs → op ds = some z → OVQ K O H z Q → rr vs H Q
def fCB (op : List D → Option OV) (FL : S → Res (List D)) : S → Res SV := fun r => (FL r).bind fun ds r => ovR (op ds) r
theorem sim_cb {K : PySem.W.Frag} {mg : Str → Option Value} {rr : List V → Hp → VK → Prop} {op : List D → Option OV} (ho : OpB K rr op) (h : Sim K mg W (PLb K) tl FL) : Sim K mg W (PV K) (tCB rr tl) (fCB op FL) := by
  intro γ Oc r σ H fs g
  refine SimAt.bind (t2 := fun (vs : List V) (H1 : Hp) (Q : VK) => rr vs H1 Q) (h γ Oc r σ H fs g) fun ds r1 vs H1 ⟨fs1, g1, v1, s1⟩ => ?_
  refine SimAt.tr s1 fun Q => ?_
  unfold ovR
  cases q : op ds with
  | none => trivial
  | some z => exact fun hq => ho γ (fs1 ++ Oc) H1 ds vs z Q g1.ow v1 q (ovq_of g1 hq)
theorem ex_cb {rr : List V → Hp → VK → Prop} {op : List D → Option OV} (hp : PE X e (tCB rr tl)) (ho : OpB X.K rr op) (ha : BAX X W es tl FL) : EX X W e (tCB rr tl) (fCB op FL) := ⟨hp, sim_cb ho ha.sim⟩
def dLen : List D → Option OV
  | [.str z] => if z.length ≤ sizeLine then some (.fz (.int z.length)) else none
  | [.list ds] => some (.fz (.int ds.length))
  | [.tuple ds] => some (.fz (.int ds.length))
  | _ => none
def rLen (K : PySem.W.Frag) : List V → Hp → VK → Prop := fun xs H Q => ∃ x n, xs = [x] ∧ LenV K x H n ∧ Q (.int n) H
theorem opb_len {K : PySem.W.Frag} : OpB K (rLen K) dLen := by
  intro γ O H ds vs z Q ow h e hq
  unfold dLen at e
  split at e
  · rename_i s
    split at e
    · rename_i hl
      cases e
      obtain ⟨v, ws, e1, r1, e2⟩ := h
      simp only [RE, R] at r1
      exact ⟨v, s.length, by rw [e1, e2], by rw [r1]; exact ⟨hl, rfl⟩, hq _ (by simp [R])⟩
    · cases e
  · rename_i xs
    cases e
    obtain ⟨v, ws, e1, r1, e2⟩ := h
    obtain ⟨a, us, q1, q2, q3⟩ := r1.tracked
    exact ⟨v, xs.length, by rw [e1, e2], by rw [q1]; exact .inl ⟨us, .inl (.inl q2), q3.len.symm⟩, hq _ (by simp [R])⟩
  · rename_i xs
    cases e
    obtain ⟨v, ws, e1, r1, e2⟩ := h
    simp only [RE, R] at r1
    obtain ⟨a, us, q1, q2, q3⟩ := r1
    exact ⟨v, xs.length, by rw [e1, e2], by rw [q1]; exact .inr ⟨us, TupAt.sq q2, q3.len.symm⟩, hq _ (by simp [R])⟩
  · cases e
def dInt : List D → Option OV
  | [.int i] => some (.fz (.int i))
  | [.bool b] => some (.fz (.int (if b then 1 else 0)))
  | _ => none
def rInt : List V → Hp → VK → Prop := fun xs H Q => (∃ i, xs = [.int i] ∧ Q (.int i) H) ∨ ∃ k, xs = [.bl k] ∧ Q (.int (if k then 1 else 0)) H
theorem opb_int {K : PySem.W.Frag} : OpB K rInt dInt := by
  intro γ O H ds vs z Q ow h e hq
  unfold dInt at e
  split at e
  · rename_i i
    cases e
    obtain ⟨v, ws, e1, r1, e2⟩ := h
    simp only [RE, R] at r1
    exact .inl ⟨i, by rw [e1, e2, r1], hq _ (by simp [R])⟩
  · rename_i i
    cases e
    obtain ⟨v, ws, e1, r1, e2⟩ := h
    simp only [RE, R] at r1
    exact .inr ⟨i, by rw [e1, e2, r1], hq _ (by simp [R])⟩
  · cases e
def dMax2 : List D → Option OV
  | [.int i, .int j] => some (.fz (.int (if j > i then j else i)))
  | _ => none
def dMin2 : List D → Option OV
  | [.int i, .int j] => some (.fz (.int (if j < i then j else i)))
  | _ => none
def rMM2 (f : Int → Int → Int) : List V → Hp → VK → Prop := fun xs H Q => ∃ i j, xs = [.int i, .int j] ∧ Q (.int (f i j)) H
theorem opb_max2 {K : PySem.W.Frag} : OpB K (rMM2 fun i j => if j > i then j else i) dMax2 := by
  intro γ O H ds vs z Q ow h e hq
  unfold dMax2 at e
  split at e
  · rename_i i j
    cases e
    obtain ⟨v, ws, e1, r1, v2, ws2, e2, r2, e3⟩ := h
    simp only [RE, R] at r1 r2
    exact ⟨i, j, by rw [e1, e2, e3, r1, r2], hq _ (by simp [R])⟩
  · cases e
/-- the least, the greatest of some ints -/
def minI : List Int → Int
  | [] => 0
  | [x] => x
  | x :: y :: r => min x (minI (y :: r))
def maxI : List Int → Int
  | [] => 0
  | [x] => x
  | x :: y :: r => max x (maxI (y :: r))
theorem minI_mem : ∀ {l : List Int}, l ≠ [] → minI l ∈ l
  | [], h => absurd rfl h
  | [x], _ => by simp [minI]
  | x :: y :: r, _ => by
    have := minI_mem (l := y :: r) (by simp)
    unfold minI
    rcases Int.le_total x (minI (y :: r)) with h | h
    · rw [Int.min_eq_left h]; simp
    · rw [Int.min_eq_right h]; exact List.mem_cons_of_mem _ this
theorem minI_le : ∀ {l : List Int} {y : Int}, y ∈ l → minI l ≤ y
  | [], y, h => by cases h
  | [x], y, h => by simp at h; simp [minI, h]
  | x :: y :: r, z, h => by
    unfold minI
    rcases List.mem_cons.mp h with h | h
    · rw [h]; exact Int.min_le_left _ _
    · exact Int.le_trans (Int.min_le_right _ _) (minI_le h)
def dMinL : List D → Option OV
  | [.list ds] => match intsD ds with
    | some (n :: ns) => some (.fz (.int (minI (n :: ns))))
    | _ => none
  | _ => none
def dMaxL : List D → Option OV
  | [.list ds] => match intsD ds with
    | some (n :: ns) => some (.fz (.int (maxI (n :: ns))))
    | _ => none
  | _ => none
/-- list(x), tuple(x) of a list, a tuple -/
def dListOf : List D → Option OV
  | [.list ds] => some (.nl ds)
  | [.tuple ds] => some (.nl ds)
  | _ => none
def dTupOf : List D → Option OV
  | [.list ds] => some (.nt ds)
  | [.tuple ds] => some (.fz (.tuple ds))
  | _ => none
def rListOf (K : PySem.W.Frag) : List V → Hp → VK → Prop := fun xs H Q => ∃ p ys, xs = [.ref p] ∧ (SqL K H p ys ∨ SqT K H p ys) ∧ ∀ l, H l = none → Q (.ref l) (upd H l (.lst ys))
def rTupOf (K : PySem.W.Frag) : List V → Hp → VK → Prop := fun xs H Q => ∃ p ys, xs = [.ref p] ∧ ((SqL K H p ys ∧ ∀ l, H l = none → Q (.ref l) (upd H l (.tup ys))) ∨ (SqT K H p ys ∧ Q (.ref p) H))
theorem opb_listOf {K : PySem.W.Frag} : OpB K (rListOf K) dListOf := by
  intro γ O H ds vs z Q ow h e hq
  unfold dListOf at e
  split at e
  · cases e
    obtain ⟨v, ws, e1, r1, e2⟩ := h
    obtain ⟨a, us, q1, q2, q3⟩ := r1.tracked
    exact ⟨a, us, by rw [e1, e2, q1], .inl (.inl (.inl q2)), fun l hl => hq l us hl q3⟩
  · cases e
    obtain ⟨v, ws, e1, r1, e2⟩ := h
    simp only [RE, R] at r1
    obtain ⟨a, us, q1, q2, q3⟩ := r1
    exact ⟨a, us, by rw [e1, e2, q1], .inr (TupAt.sq q2), fun l hl => hq l us hl q3⟩
  · cases e
theorem opb_tupOf {K : PySem.W.Frag} : OpB K (rTupOf K) dTupOf := by
  intro γ O H ds vs z Q ow h e hq
  unfold dTupOf at e
  split at e
  · cases e
    obtain ⟨v, ws, e1, r1, e2⟩ := h
    obtain ⟨a, us, q1, q2, q3⟩ := r1.tracked
    exact ⟨a, us, by rw [e1, e2, q1], .inl ⟨.inl (.inl q2), fun l hl => hq l us hl q3⟩⟩
  · cases e
    obtain ⟨v, ws, e1, r1, e2⟩ := h
    simp only [RE, R] at r1
    obtain ⟨a, us, q1, q2, q3⟩ := r1
    exact ⟨a, us, by rw [e1, e2, q1], .inr ⟨TupAt.sq q2, hq _ (by simp only [R]; exact ⟨a, us, rfl, q2, q3⟩)⟩⟩
  · cases e
def tyN : D → String
  | .none => "NoneType"
  | .bool _ => "bool"
  | .int _ => "int"
  | .str _ => "str"
  | .list _ => "list"
  | .tuple _ => "tuple"
  | .dict _ => "dict"
def dIsi (T : String) : D → Option OV := fun d => match d with
  | .dict kvs => if T = "dict" then some (.fz (.bool (!isOb kvs))) else (kitB "dict" T).map fun b => .fz (.bool b)
  | d => (kitB (tyN d) T).map fun b => .fz (.bool b)
/-- what is asked of a built-in type -/
def sixT (T : String) : Bool := ["str", "int", "bool", "list", "tuple", "dict"].contains T
def rIsiD (K : PySem.W.Frag) (T : String) : List V → Hp → VK → Prop := fun xs H Q => ∃ (x : V) (b : Bool), xs = [x, .ty T] ∧ ((∃ t, PySem.W.kitOne K t (.type T) = some b ∧ TyX K H x t) ∨ (kitB "dict" T = some b ∧ ∃ a o kvs, x = .ref a ∧ H a = some (.frz o (.dT kvs)))) ∧ Q (.bl b) H
theorem call_isiD {T : String} : CallR X (.builtin "isinstance") (rIsiD X.K T) := by
  intro pins s σ H xs us Q I r h
  obtain ⟨x, b, ex, hty, q⟩ := h
  rcases hty with ⟨t, hk, hty⟩ | ⟨hk, a, o, kvs, e1, e2⟩
  · exact call_isi pins s σ H xs us Q I r ⟨x, .ty T, t, .type T, b, ex, .ty T, hty, hk, q⟩
  · subst ex e1
    obtain ⟨u1, u2, rfl, r1, r2⟩ := vals2 r
    cases (show u1 = Value.ref a from r1)
    cases (show u2 = Value.type T from r2)
    obtain ⟨_, _, _, xs', _, ob, es, ep, h1, h2, _⟩ := (show ObjOk X.prog X.w H s.heap a (.frz o (.dT kvs)) from I.hok a _ e2)
    exact PySem.W.kia_one PySem.W.kitx_dict I.kIn ⟨ob, h1, h2.1⟩ (kit_ty hk) (fun z => nomatch z) fun tk => ⟨.bl b, H, I.tok tk, rfl, q⟩
theorem RK.noOb {O : List Addr} {H : Hp} : ∀ {kvs : List (D × D)} {ws : List (Key × V)}, RK K O H kvs ws → isOb kvs = false
  | [], _, _ => rfl
  | (k, d) :: r, _, h => by
    simp only [RK] at h
    obtain ⟨c, v, ws, _, e, _⟩ := h
    subst e
    cases c <;> rfl
theorem RT.noOb {O : List Addr} {H : Hp} : ∀ {kvs : List (D × D)} {ws : List (List Key × V)}, RT K O H kvs ws → isOb kvs = false
  | [], _, _ => rfl
  | (k, d) :: r, _, h => by
    simp only [RT] at h
    obtain ⟨c, v, ws, _, e, _⟩ := h
    subst e
    rfl
theorem RO'.isOb {O : List Addr} {H : Hp} {C : Addr} : ∀ {kvs : List (D × D)} {ws : List (Str × V)}, RO' K O H C kvs ws → QL.isOb kvs = true ∧ ∃ c, ObC K c C
  | [], _, h => by simp only [RO'] at h
  | (k, d) :: r, _, h => by
    simp only [RO'] at h
    obtain ⟨e, ⟨c, _, hc⟩, _⟩ := h
    subst e
    exact ⟨rfl, c, hc⟩
theorem six_of {T : String} (h : sixT T = true) : T = "str" ∨ T = "int" ∨ T = "bool" ∨ T = "list" ∨ T = "tuple" ∨ T = "dict" := by
  unfold sixT at h
  simpa using h
theorem kit_dict {T : String} {b : Bool} (h : sixT T = true) (hn : T ≠ "dict") (e : kitB "dict" T = some b) : b = false := by
  have k1 : kitB "dict" "str" = some false := by decide +kernel
  have k2 : kitB "dict" "int" = some false := by decide +kernel
  have k3 : kitB "dict" "bool" = some false := by decide +kernel
  have k4 : kitB "dict" "list" = some false := by decide +kernel
  have k5 : kitB "dict" "tuple" = some false := by decide +kernel
  rcases six_of h with rfl | rfl | rfl | rfl | rfl | rfl
  · rw [k1] at e; exact (Option.some.inj e).symm
  · rw [k2] at e; exact (Option.some.inj e).symm
  · rw [k3] at e; exact (Option.some.inj e).symm
  · rw [k4] at e; exact (Option.some.inj e).symm
  · rw [k5] at e; exact (Option.some.inj e).symm
  · exact absurd rfl hn
theorem RE.isi {K : PySem.W.Frag} {γ : Gh} {O : List Addr} {H : Hp} {d : D} {v : V} {T : String} {z : OV} (h : RE K γ O H d v) (hT : sixT T = true) (e : dIsi T d = some z) :
    ∃ b, z = .fz (.bool b) ∧ ((∃ t, PySem.W.kitOne K t (.type T) = some b ∧ TyX K H v t) ∨ (kitB "dict" T = some b ∧ ∃ a o kvs, v = .ref a ∧ H a = some (.frz o (.dT kvs)))) := by
  have base : ∀ {n : String}, (kitB n T).map (fun b => OV.fz (.bool b)) = some z → TyX K H v (.type n) → ∃ b, z = .fz (.bool b) ∧ ((∃ t, PySem.W.kitOne K t (.type T) = some b ∧ TyX K H v t) ∨ (kitB "dict" T = some b ∧ ∃ a o kvs, v = .ref a ∧ H a = some (.frz o (.dT kvs)))) := fun e t => by
    obtain ⟨b, e1, e2⟩ := Option.map_eq_some_iff.mp e
    exact ⟨b, e2.symm, .inl ⟨_, kit_ty e1, t⟩⟩
  cases d with
  | none => simp only [RE, R] at h; subst h; exact base e (.base .non)
  | bool b => simp only [RE, R] at h; subst h; exact base e (.base (.bl b))
  | int b => simp only [RE, R] at h; subst h; exact base e (.base (.int b))
  | str b => simp only [RE, R] at h; subst h; exact base e (.base (.str b))
  | list ds =>
    obtain ⟨a, vs, e1, q, _⟩ := h.tracked
    subst e1
    exact base e (.base (.lst q))
  | tuple ds =>
    simp only [RE, R] at h
    obtain ⟨a, vs, e1, q, _⟩ := h
    subst e1
    exact base e (.base (.tup q))
  | dict kvs =>
    obtain ⟨a, e1, _, h⟩ := h
    subst e1
    have e : (if T = "dict" then some (OV.fz (.bool (!isOb kvs))) else (kitB "dict" T).map fun b => .fz (.bool b)) = some z := e
    have kdd : kitB "dict" "dict" = some true := by decide +kernel
    rcases h with ⟨ws, q, hk⟩ | ⟨ws, q, hk⟩ | ⟨C, dx, ws, q, hk⟩
    · have e2 : (kitB "dict" T).map (fun b => OV.fz (.bool b)) = some z := by
        by_cases hd : T = "dict"
        · subst hd
          rw [if_pos rfl, hk.noOb] at e
          rw [kdd]; exact e
        · rw [if_neg hd] at e; exact e
      rcases q with q | ⟨o, q⟩
      · exact base e2 (.base (.dK q))
      · exact base e2 (.fDict q)
    · have e2 : (kitB "dict" T).map (fun b => OV.fz (.bool b)) = some z := by
        by_cases hd : T = "dict"
        · subst hd
          rw [if_pos rfl, hk.noOb] at e
          rw [kdd]; exact e
        · rw [if_neg hd] at e; exact e
      rcases q with q | ⟨o, q⟩
      · exact base e2 (.base (.dT q))
      · obtain ⟨b, k1, k2⟩ := Option.map_eq_some_iff.mp e2
        exact ⟨b, k2.symm, .inr ⟨k1, a, o, ws, rfl, q⟩⟩
    · obtain ⟨hob, _, hc⟩ := hk.isOb
      have ty : TyX K H (.ref a) (.ref C) := .base (.ins q hc.ic.cl hc.ic.ha hc.ic.hn hc.ic.htk hc.ic.hm)
      have ez : z = .fz (.bool false) := by
        by_cases hd : T = "dict"
        · subst hd
          rw [if_pos rfl, hob] at e
          exact (Option.some.inj e).symm
        · rw [if_neg hd] at e
          obtain ⟨b, k1, k2⟩ := Option.map_eq_some_iff.mp e
          rw [kit_dict hT hd k1] at k2
          exact k2.symm
      exact ⟨false, ez, .inl ⟨_, hc.no T (by unfold sixT at hT; exact List.contains_iff_mem.mp hT), ty⟩⟩
theorem ex_isi {T : String} (hp : PE X e (tCB (rIsiD X.K T) (tCons ta (tCons (tC (.ty T)) tNil)))) (ha : BX X W a ta fa) (hT : sixT T = true := by decide) : EX X W e (tCB (rIsiD X.K T) (tCons ta (tCons (tC (.ty T)) tNil))) (fOp1 (dIsi T) fa) := by
  refine ⟨hp, sim_op1 (rr := fun (x : V) (H1 : Hp) (Q : VK) => rIsiD X.K T [x, .ty T] H1 Q) (fun γ O H d v z Q ow hx e hq => ?_) ha.sim⟩
  obtain ⟨b, e1, e2⟩ := hx.isi hT e
  subst e1
  exact ⟨v, b, rfl, e2, hq _ (by simp [R])⟩
def fMt (op : D → List D → Option OV) (fa : S → Res D) (FL : S → Res (List D)) : S → Res SV := fun r => (fa r).bind fun x r => match x with
  | .str z => (FL r).bind fun ds r => ovR (op (.str z) ds) r
  | _ => Res.bad
def OpM (K : PySem.W.Frag) (rr : V → List V → Hp → VK → Prop) (op : D → List D → Option OV) : Prop :=
  ∀ (γ : Gh) (O : List Addr) (H : Hp) (x : Str) (ds : List D) (vs : List V) (z : OV) (Q : VK), Own O H → REs K γ O H ds vs → op (.str x) ds = some z → OVQ K O H z Q → rr (.str x) vs H Q
theorem sim_mt {K : PySem.W.Frag} {mg : Str → Option Value} {rr : V → List V → Hp → VK → Prop} {op : D → List D → Option OV} (ho : OpM K rr op) (h : Sim K mg W (PB K) ta fa) (h2 : Sim K mg W (PLb K) tl FL) : Sim K mg W (PV K) (tBM K "str" rr ta tl) (fMt op fa FL) := by
  intro γ Oc r σ H fs g
  refine SimAt.bind (t2 := fun (x : V) (H1 : Hp) (Q : VK) => tyV K "str" x H1 ∧ tl σ H1 fun xs H2 => rr x xs H2 Q) (h γ Oc r σ H fs g) fun d r1 v H1 ⟨fs1, g1, v1, s1⟩ => ?_
  refine SimAt.tr s1 ?_
  cases d with
  | str z =>
    simp only [RE, R] at v1
    subst v1
    refine SimAt.imp (SimAt.bind (t2 := fun (xs : List V) (H2 : Hp) (Q : VK) => rr (.str z) xs H2 Q) (h2 γ Oc r1 σ H1 fs1 g1) fun ds r2 vs H2 ⟨fs2, g2, v2, s2⟩ => ?_) fun Q q => ⟨by first | rfl | trivial | simp [tyV], q⟩
    refine SimAt.tr s2 fun Q => ?_
    unfold ovR
    cases q : op (.str z) ds with
    | none => trivial
    | some y => exact fun hq => ho γ (fs2 ++ Oc) H2 z ds vs y Q g2.ow v2 q (ovq_of g2 hq)
  | _ => exact fun Q => trivial
theorem ex_mt {rr : V → List V → Hp → VK → Prop} {op : D → List D → Option OV} (hp : PE X e (tBM X.K "str" rr ta tl)) (ho : OpM X.K rr op) (ha : BX X W a ta fa) (hl : BAX X W es tl FL) : EX X W e (tBM X.K "str" rr ta tl) (fMt op fa FL) := ⟨hp, sim_mt ho ha.sim hl.sim⟩
def dFind3 : D → List D → Option OV
  | .str a, [.str b, .int i] => some (.fz (.int (QM.find3f a b i)))
  | _, _ => none
def dRfind4 : D → List D → Option OV
  | .str a, [.str b, .int i, .int j] => some (.fz (.int (QM.rfind4f a b i j)))
  | _, _ => none
end
end QL
namespace QL
open PySem PySem.Spec L2
section
variable {K : PySem.W.Frag} {mg : Str → Option Value} {W : WX} {γ : Gh} {Oc : List Addr} {r r1 r2 : S} {σ : St} {H H' H1 H2 : Hp} {fs fs1 fp : List Addr}
/-- a slot's own object is written -/
theorem Good.mut {x x' : SV} {i : Nat} {a : Addr} {o : HO} {v : V} (g : Good K γ Oc r σ H fs) (h : r.sl[i]? = some (some x)) (hv : σ[i]? = some (some v)) (hx : ∀ u f, SVR K γ (fs ++ Oc) H x u f → u = v → f = [a])
    (ho : LD o) (hn : Stab (fs ++ Oc) H (fs ++ Oc) (upd H a o) → SVR K γ (fs ++ Oc) (upd H a o) x' v [a]) :
    Good K γ Oc { r with sl := r.sl.set i (some x') } σ (upd H a o) fs ∧ Evo fs H fs (upd H a o) := by
  obtain ⟨⟨f1, f2, e, sl, tp⟩, nd, ow, tt⟩ := id g
  have hi : i < r.sl.length := (List.getElem?_eq_some_iff.mp h).1
  obtain ⟨a1, a2, a3, e2, hy, hset, _⟩ := sl.upd hi
  obtain ⟨u, e3, hu⟩ := hy _ h
  rw [hv] at e3
  obtain rfl : v = u := Option.some.inj (Option.some.inj e3)
  have ea := hx _ _ hu rfl
  subst ea
  have ha : a ∈ fs := by rw [e, e2]; simp
  have ne : ∀ b, b ∉ fs ++ Oc → b ≠ a := fun b n z => n (by rw [z]; simp [ha])
  have st : Stab (fs ++ Oc) H (fs ++ Oc) (upd H a o) := fun b n _ => ⟨n, fun u _ q => by
    rcases q with q | ⟨w, q⟩
    · exact .inl (by rw [upd_ne (ne b n)]; exact q)
    · exact .inr ⟨w, by rw [upd_ne (ne b n)]; exact q⟩, fun u _ q => by rw [upd_ne (ne b n)]; exact q⟩
  have cnt := List.nodup_iff_count.mp nd
  have out : ∀ b, b ∈ a1 ++ a3 → b ≠ a := fun b hb z => by
    subst z
    have c := cnt b
    rw [e, e2] at c
    simp only [List.count_append, List.count_cons, List.count_nil, beq_self_eq_true, if_true] at c
    have : 0 < List.count b (a1 ++ a3) := List.count_pos_iff.mpr hb
    rw [List.count_append] at this
    omega
  have out2 : ∀ b, b ∈ f2 → b ≠ a := fun b hb z => by
    subst z
    have c := cnt b
    rw [e, e2] at c
    simp only [List.count_append, List.count_cons, List.count_nil, beq_self_eq_true, if_true] at c
    have : 0 < List.count b f2 := List.count_pos_iff.mpr hb
    omega
  have z := hset (x := x') (v := v) (f := [a]) ow st (fun b hb => upd_ne (out b hb)) (hn st)
  have eσ : σ.set i (some v) = σ := by
    obtain ⟨hj, e4⟩ := List.getElem?_eq_some_iff.mp hv
    rw [← e4, List.set_getElem_self]
  rw [eσ] at z
  refine ⟨⟨⟨_, f2, e.trans (by rw [e2]), z, ?_⟩, nd, fun b hb => ?_, tt.1, fun q hq => (by
    obtain ⟨w, hw, l⟩ := ow a (List.mem_append_left _ ha)
    exact tabs_upd hw l (tt.2 q hq))⟩, fun b hb => .inl hb, fun b w q n _ => ?_, fun b q => ?_, fun P h => (by
    obtain ⟨w, hw, l⟩ := ow a (List.mem_append_left _ ha)
    exact tabs_upd hw l h)⟩
  · cases q : r.tp with
    | none => rw [q] at tp; exact tp
    | some t =>
      rw [q] at tp
      obtain ⟨b, b1, b2, b3⟩ := tp
      exact ⟨b, b1, by rw [upd_ne (out2 b (by rw [b3]; simp))]; exact b2, b3⟩
  · by_cases hb' : b = a
    · subst hb'; exact ⟨_, upd_same, ho⟩
    · obtain ⟨w, hw, l⟩ := ow b hb
      exact ⟨w, by rw [upd_ne hb']; exact hw, l⟩
  · rw [upd_ne fun z => n (by rw [z]; exact ha)]; exact q
  · obtain ⟨w, hw, l⟩ := ow a (List.mem_append_left _ ha)
    exact nn_upd hw l.nt q
theorem Good.slotV (g : Good K γ Oc r σ H fs) {i : Nat} {x : SV} (h : r.sl[i]? = some (some x)) : ∃ v f, σ[i]? = some (some v) ∧ SVR K γ (fs ++ Oc) H x v f := by
  obtain ⟨⟨f1, f2, e, sl, tp⟩, nd, ow, tt⟩ := g
  obtain ⟨v, a1, a2, a3, e1, e2, e3⟩ := sl.at h
  exact ⟨v, a2, e1, e3⟩
end
def sApp (i : Nat) (FA : S → Res D) : S → RS := fun r => match r.sl[i]? with
  | some (some (.ol _)) => (FA r).bindS fun d r => match r.sl[i]? with
    | some (some (.ol xs)) => if xs.length < sizeLine then RS.nx { r with sl := r.sl.set i (some (.ol (xs ++ [d]))) } else RS.bad
    | _ => RS.bad
  | _ => .bad
section
variable {X : Cx} {W : WX} {e a b c : Expr} {es : List Expr} {ta tb tc : TE} {tl : TA} {fa fb fc : S → Res D} {F : S → Res SV} {FL : S → Res (List D)} {x : Str} {p pos : Pos} {i : Nat}
theorem sim_app {K : PySem.W.Frag} {mg : Str → Option Value} (h : Sim K mg W (PF K) ta fa) : SimS K mg W (tDrop (tBM K "list" rAppend (tVar i) (tCons ta tNil))) (sApp i fa) := by
  intro γ Oc r σ H fs g
  unfold sApp
  split
  · rename_i xs0 e0
    obtain ⟨v, f, ev, hv⟩ := g.slotV e0
    obtain ⟨a, us, eva, ha, rs0, ef⟩ := hv
    subst eva
    refine SimSAt.imp (SimSAt.bindE (t2 := fun (y : V) (H1 : Hp) (E : Ends) => rAppend (.ref a) [y] H1 fun _ H2 => E.nx σ H2) (h γ Oc r σ H fs g) fun d r1 y H1 ⟨fs1, g1, v1, s1⟩ => ?_) fun E q => ⟨.ref a, ev, .inl ⟨rfl, us, .inl (.inl ha)⟩, q⟩
    refine SimSAt.tr s1.evo ?_
    split
    · rename_i xs e1
      split
      · rename_i hl
        intro E hq
        obtain ⟨w, f', ew, hw⟩ := g1.slotV e1
        rw [ev] at ew
        cases ew
        obtain ⟨a', us', eva', ha', rs', ef'⟩ := hw
        cases eva'
        refine ⟨a, us', y, rfl, rfl, ha', by rw [rs'.len]; exact hl, hq σ _ ⟨fs1, ?_⟩⟩
        refine g1.mut (x' := .ol (xs ++ [d])) e1 ev (fun u f hu eu => ?_) (o := .lst (us' ++ [y])) trivial fun st => ⟨a, us' ++ [y], rfl, upd_same, Rs.stab g1.ow st _ _ (rs'.app (by simp only [Rs]; exact ⟨y, [], rfl, v1, rfl⟩)), rfl⟩
        obtain ⟨a2, us2, z1, z2, z3, z4⟩ := hu
        rw [eu] at z1; cases z1
        exact z4
      · exact fun E => trivial
    · exact fun E => trivial
  · exact fun E => trivial
def rgOk (a b : Int) : Bool := sml a && sml b && decide ((b - a).toNat ≤ 2 ^ 24)
def fLRg1 (fa : S → Res D) : S → Res SV := fun r => (fa r).bind fun d r => match d with
  | .int n => if rgOk 0 n = true then Res.ok (SV.ol (rngL 0 (n - 0).toNat)) r else Res.bad
  | _ => Res.bad
def fLRg2 (fa fb : S → Res D) : S → Res SV := fun r => (fa r).bind fun d r => (fb r).bind fun d2 r => match d, d2 with
  | .int i, .int j => if rgOk i j = true then Res.ok (SV.ol (rngL i (j - i).toNat)) r else Res.bad
  | _, _ => Res.bad
def fLRg3 (FL : S → Res (List D)) : S → Res SV := fun r => (FL r).bind fun ds r => match intsD ds with
  | some [i, j, c] => if rgOk i j = true ∧ (i - j).toNat ≤ 2 ^ 24 ∧ c = -1 then Res.ok (SV.ol ((List.range (i - j).toNat).map fun k => .int (i - ((k : Nat) : Int)))) r else Res.bad
  | _ => Res.bad
end
def tkS : Bool → Str
  | true => Str.ofString "digits"
  | false => Str.ofString "mixed"
def tkG (k : Bool) (t : Int × Int) : Int := if k then t.1 else t.2
def tkP (k : Bool) (t : Int × Int) (x : Int) : Int × Int := if k then (x, t.2) else (t.1, x)
def fTk (i : Nat) (k : Bool) : S → Res SV := fun r => match r.sl[i]? with
  | some (some .tape) => match r.tp with
    | some t => .ok (.fz (.int (tkG k t))) r
    | none => .bad
  | _ => .bad
def sTk (i : Nat) (k : Bool) (F : S → Res D) : S → RS := fun r => (F r).bindS fun d r => match r.sl[i]? with
  | some (some .tape) => match r.tp, d with
    | some t, .int x => RS.nx { r with tp := some (tkP k t x) }
    | _, _ => RS.bad
  | _ => RS.bad
section
variable {X : Cx} {W : WX} {e a b c o : Expr} {ta td : TE} {fa : S → Res D} {x : Str} {p pos : Pos} {i : Nat} {k : Bool}
theorem tk_ne : (Str.ofString "digits" : Str) ≠ Str.ofString "mixed" := by decide
theorem tk_val (t : Int × Int) : valV [((.inr (Str.ofString "digits") : Key), V.int t.1), (.inr (Str.ofString "mixed"), V.int t.2)] (.inr (tkS k)) = some (.int (tkG k t)) := by
  cases k with
  | true => exact valV_pos rfl
  | false => exact (valV_neg fun e => tk_ne (Sum.inr.inj e)).trans (valV_pos rfl)
theorem tk_put (t : Int × Int) (x : Int) : HO.dK (putK [((.inr (Str.ofString "digits") : Key), V.int t.1), (.inr (Str.ofString "mixed"), V.int t.2)] (.inr (tkS k)) (.int x)) = tapeO (tkP k t x) := by
  have n1 : ¬ ((.inr (Str.ofString "mixed") : Key) = .inr (Str.ofString "digits")) := fun e => tk_ne (Sum.inr.inj e).symm
  have n2 : ¬ ((.inr (Str.ofString "digits") : Key) = .inr (Str.ofString "mixed")) := fun e => tk_ne (Sum.inr.inj e)
  cases k with
  | true => simp [putK, tkS, tapeO, tkP, tk_ne, n1]
  | false => simp [putK, tkS, tapeO, tkP, tk_ne, n2]
theorem ex_tk (hp : PE X e (tDGet (tVar i) (tC (.str (tkS k))))) : EX X W e (tDGet (tVar i) (tC (.str (tkS k)))) (fTk i k) := by
  refine ⟨hp, fun γ Oc r σ H fs g => ?_⟩
  unfold fTk
  split
  · rename_i e0
    obtain ⟨v, f, ev, ⟨T, hT, eva⟩, _⟩ := g.slotV e0
    subst eva
    obtain ⟨hm, t, q1, q2⟩ := g.tape hT
    rw [q1]
    exact fun Q hq => ⟨.ref T, ev, T, .int (tkG k t), rfl, by have := DGet.k (k := .inr (tkS k)) (show H T = some (.dK _) from q2); rw [tk_val] at this; exact this, hq _ _ ⟨fs, [], g, ⟨by simp [R], rfl⟩, Stp.refl _ _ _, by simp⟩⟩
  · exact fun Q => trivial
theorem sx_tk {st : Stmt} (hp : PS X st (sDPut (tVar i) (tC (.str (tkS k))) ta)) (h : FX X W a ta fa) : SX X W st (sDPut (tVar i) (tC (.str (tkS k))) ta) (sTk i k fa) := by
  refine ⟨hp, fun γ Oc r σ H fs g => ?_⟩
  refine SimSAt.imp (SimSAt.bindE (t2 := fun (v : V) (H1 : Hp) (E : Ends) => ∃ x, σ[i]? = some (some x) ∧ ∃ a H4, x = .ref a ∧ DPut H1 a (.str (tkS k)) v H4 ∧ E.nx σ H4) (h.sim γ Oc r σ H fs g) fun d r1 v H1 ⟨fs1, g1, v1, s1⟩ => ?_) fun E h => h
  refine SimSAt.tr s1.evo ?_
  split
  · rename_i e0
    obtain ⟨u, f, ev, ⟨T, hT, eva⟩, _⟩ := g1.slotV e0
    subst eva
    obtain ⟨hm, t, q1, q2⟩ := g1.tape hT
    rw [q1]
    cases d with
    | int y =>
      simp only [R] at v1
      subst v1
      intro E hq
      refine ⟨.ref T, ev, T, _, rfl, DPut.k (k := .inr (tkS k)) (show H1 T = some (.dK _) from q2) (by show 2 < sizeLine; decide), hq σ _ ⟨fs1, ?_, ?_⟩⟩
      · rw [tk_put]; exact g1.tapeSet hT
      · refine ⟨fun a z => .inl z, fun a o q n _ => ?_, fun a q => ?_, fun P h => tabs_upd q2 trivial h⟩
        · rw [upd_ne fun z => n (by rw [z]; exact hm)]; exact q
        · exact nn_upd q2 rfl q
    | _ => exact fun E => trivial
  · exact fun E => trivial
end
end QL
namespace QL
open PySem PySem.Spec L2
theorem cx_none {P : Program} {w : World} {H : Hp} {s s' : Shared} {e : Value} {out : List Env} (h : L2.CX P w out H s (fun _ _ _ => False) e s') : False := by
  obtain ⟨_, _, _, _, _, _, _, _, _, _, _, _, z⟩ := h
  exact z
section
variable {P : Program} {w : World} {K : PySem.W.Frag} {mg mb : Str → Option Value} {k : Nat} {fa a : Addr} {fd : FuncData} {x : Str} {sp : Sp} {s1 : Shared} {vs : List Value} {ns : List Int}
/-- what the law's heap may be: nothing is tracked but the script -/
structure Heap0 (P : Program) (w : World) (K : PySem.W.Frag) (h : Heap) (a : Addr) (ns : List Int) (H : Hp) : Prop where
  only : Only H
  seq : SqL K H a (ns.map V.int)
  ok : HOk P w H h
  at_ : ∀ b, H b ≠ none → b = a
  nk : H a ≠ none → K.lookup a = none
theorem heap0 (kin : K.In s1.heap) (ha : s1.heap.get? a = some { cls := .type "list", data := .seq vs.toArray }) (hi : PyProof.Rows.IntsAre vs ns) (hl : ns.length ≤ sizeLine) : ∃ H, Heap0 P w K s1.heap a ns H := by
  have rv : Vals (ns.map V.int) vs := vals_ints hi
  have hvl : vs.length = ns.length := hi.length
  cases hk : K.lookup a with
  | some ob =>
    have e := kin a ob hk
    rw [ha] at e
    cases e
    refine ⟨fun _ => none, fun _ => .inl rfl, .inr ⟨_, vs.toArray, _, hk, rfl, rfl, rfl, by rw [List.size_toArray, hvl]; exact hl, by simpa using rv⟩, fun b u z => ?_, fun b z => absurd rfl z, fun z => absurd rfl z⟩
    have z' : (none : Option HO) = some u := z
    cases z'
  | none =>
    refine ⟨fun b => if b = a then some (.frz { cls := .type "list", data := .seq vs.toArray } (.lst (ns.map V.int))) else none, fun b => ?_, .inl (.inr ⟨{ cls := .type "list", data := .seq vs.toArray }, if_pos rfl⟩), fun b u z => ?_, fun b z => ?_, fun _ => hk⟩
    · by_cases hb : b = a
      · exact .inr ⟨_, _, if_pos hb⟩
      · exact .inl (if_neg hb)
    · by_cases hb : b = a
      · have y := (if_pos hb).symm.trans z
        cases y
        subst hb
        exact ⟨ha, by rw [List.length_map]; exact hl, vs, _, rv, ha⟩
      · have y := (if_neg hb).symm.trans z
        cases y
    · by_cases hb : b = a
      · exact hb
      · exact absurd (if_neg hb) z
theorem law_callG (kin : K.In s1.heap) (hns : s1.heap.Ns mainGlobals mg) (hb : s1.heap.Ns builtinsNs mb) (hbb : ∀ y : Str, y ≠ "__name__" → mb y = bootBuiltins y) (hlim : s1.heap.NoLimit) (hg : s1.gens = #[])
    (ha : s1.heap.get? a = some { cls := .type "list", data := .seq vs.toArray }) (hi : PyProof.Rows.IntsAre vs ns) (hl : ns.length ≤ sizeLine) (hr : Room k PySem.callerA)
    (F : ∀ base : Heap, K.In base → base.Ns mainGlobals mg → FnG P w K mg base k fa fd [x] sp) (hbind : ∀ (s : Shared) (u : Value), BindsTo s fd ⟨[u], []⟩ [(x, u)])
    (hsp : ∀ H : Hp, Only H → SqL K H a (ns.map V.int) → sp [.ref a] H (fun v _ => v = .bl true) fun _ _ _ => False) :
    codeAny (model P w) PySem.callerA (.call (.ref fa) ⟨[.ref a], []⟩) (fun r s' => r = .ok (.ret (.bool true)) ∧ OldK s1.heap s'.heap ∧ s'.os = s1.os ∧ PyProof.Rows.AllBare s'.gens) s1 := by
  obtain ⟨H, Z⟩ := heap0 (P := P) (w := w) kin ha hi hl
  have keep : ∀ {b : Addr} {o : Obj}, s1.heap.get? b = some o → H b = none → (hidT s1.heap H).get? b = some o := fun e n => hidT_get e n
  have nodict : ∀ {b : Addr} {o : Obj} {es : Array DictEntry} {ep : Nat}, s1.heap.get? b = some o → o.data = .dict es ep → H b = none := fun {b o es ep} e d => by
    cases q : H b with
    | none => rfl
    | some u =>
      obtain rfl : b = a := Z.at_ b (by rw [q]; simp)
      rw [ha] at e; cases e
      have d' : Data.seq vs.toArray _ = Data.dict es ep := d
      cases d'
  have nsk : ∀ {b : Addr} {m : Str → Option Value}, s1.heap.Ns b m → (hidT s1.heap H).Ns b m := fun {b m} ⟨o, es, ep, e, d, rest⟩ => ⟨o, es, ep, keep e (nodict e d), d, rest⟩
  have kin2 : K.In (hidT s1.heap H) := fun b o e => keep (kin b o e) (by
    cases q : H b with
    | none => rfl
    | some u =>
      obtain rfl : b = a := Z.at_ b (by rw [q]; simp)
      rw [Z.nk (by rw [q]; simp)] at e; cases e)
  obtain ⟨mc, l1, l2⟩ := hlim
  have md : Mod K mg (hidT s1.heap H) := ⟨kin2, nsk hns, ⟨mb, nsk hb, hbb⟩, mc, nsk l1, l2⟩
  have e0 : Env0 P w K mg (hidT s1.heap H) PySem.callerA [] s1 H := ⟨rfl, md, fun b o e => of_hidT e, Nat.le_of_eq (hidT_size _ _), trivial, fun b z => absurd (show b ∈ ([] : List Addr) from z) (by simp), Z.ok, .of_eq hg⟩
  refine codeAny_mono ((F _ kin2 (nsk hns)).run PySem.callerA [] s1 H ⟨[.ref a], []⟩ [.ref a] [.ref a] _ _ rfl hr e0 (hbind s1 (.ref a)) (.cons rfl .nil) (hsp H Z.only Z.seq)) fun res s' h => ?_
  cases res with
  | error e => exact (cx_none h).elim
  | ok fl =>
    cases fl with
    | next => exact False.elim h
    | brk => exact False.elim h
    | cont => exact False.elim h
    | ret u =>
      obtain ⟨v, H', hos, hbare, un, ok', ru, q⟩ := h
      obtain rfl : v = .bl true := q
      obtain rfl : u = Value.bool true := ru
      refine ⟨rfl, OldK.of_keep fun b o e => ?_, hos, hbare⟩
      cases q : H b with
      | none => exact un.keep b o e q (by intro z; exact absurd (show b ∈ ([] : List Addr) from z) (by simp)) (by simp)
      | some u =>
        rcases Z.only b with z | ⟨ob, xs, z⟩
        · rw [q] at z; cases z
        · obtain ⟨e1, _⟩ := Z.ok b _ z
          obtain ⟨e2, _⟩ := ok' b _ (un.frzs b ob _ z)
          rw [e] at e1; cases e1
          exact e2
end
/-- the goal that the head leaves -/
theorem walk_G {l : PySem.W.OpenLaw} {n k : Nat} {q : Program} {loose : List Str} {XP : (Str → Option Value) → Heap → Prop} {YP : World → Heap → Prop} {d : DefRec} {K : Params → PySem.W.Frag} {sp : World → Sp} {x : Str}
    (hn : l.most = some n) (hn2 : n ≤ sizeLine) (hdf : d.params.defaults = []) (hr : Room k PySem.callerA) (hY : ∀ (w : World) (h : Heap), YP w h → (K w.params).In h)
    (F : ∀ (w : World) (mg : Str → Option Value) (fa : Addr) (h : Heap), (K w.params).In h → h.Ns mainGlobals mg → mg d.name = some (.ref fa) →
      ∃ fd : FuncData, (∀ (s : Shared) (u : Value), BindsTo s fd ⟨[u], []⟩ [(x, u)]) ∧ ∀ base : Heap, (K w.params).In base → base.Ns mainGlobals mg → FnG l.prog w (K w.params) mg base k fa fd [x] (sp w))
    (hsp : ∀ (w : World) (H : Hp) (a : Addr) (ns : List Int), ns.length ≤ n → (∀ z ∈ ns, bitsI z ≤ 1048576) → Only H → SqL (K w.params) H a (ns.map V.int) → sp w [.ref a] H (fun v _ => v = .bl true) fun _ _ _ => False) :
    PySem.W.WalkO q loose XP YP l.row.toRowW d [] (fun f vs => PySem.call f vs) := by
  refine Att.attach_callB hn hdf fun w s₀ s₁ mg mb fa o pm cd doc a vs ns G Y ho hd hcd hmg hobj hints hlen hbits hg => ?_
  have kin := hY w _ Y
  obtain ⟨fd, hb, hF⟩ := F w mg fa _ kin G.T.g hmg
  exact law_callG kin G.T.g G.T.b G.T.builtins G.T.nolimit hg hobj hints (Nat.le_trans hlen hn2) hr hF hb fun H hO hS => hsp w H a ns hlen hbits hO hS
def TapeOk (t : Int × Int) : Bool := decide (0 ≤ t.1) && decide (bitsI t.1 ≤ 2097152) && decide (0 ≤ t.2) && decide (t.2 < 1099511627776)
/-- _law_tape(script, start) -/
def spTp (K : PySem.W.Frag) : Sp := fun vs H Q _ => ∃ (sc : Addr) (ns : List Int) (i : Int), vs = [.ref sc, .int i] ∧ SqL K H sc (ns.map V.int) ∧ ns.length ≤ 63 ∧ (∀ z ∈ ns, bitsI z ≤ 1048576) ∧ 0 ≤ i ∧ i < 64 ∧
  ∀ H' p t, Same H H' → H p = none → H' p = some (tapeO t) → TapeOk t = true → Q (.ref p) H'
/-- law(script) -/
def spLaw (K : PySem.W.Frag) (T : List Addr) : Sp := fun vs H Q _ => ∃ (sc : Addr) (ns : List Int), vs = [.ref sc] ∧ TabsL T H ∧ Scr K H sc (ns.map V.int) ∧ ns.length ≤ 63 ∧ (∀ z ∈ ns, bitsI z ≤ 1048576) ∧ ∀ H', Q (.bl true) H'
theorem spLaw_of {K : PySem.W.Frag} {H : Hp} {a : Addr} {ns : List Int} (hl : ns.length ≤ 63) (hb : ∀ z ∈ ns, bitsI z ≤ 1048576) (hO : Only H) (hS : SqL K H a (ns.map V.int)) : spLaw K [] [.ref a] H (fun v _ => v = .bl true) fun _ _ _ => False := by
  refine ⟨a, ns, rfl, tabs0, ?_, hl, hb, fun _ => rfl⟩
  rcases hS with (h | h) | h
  · rcases hO a with z | ⟨o, xs, z⟩ <;> rw [h] at z <;> cases z
  · exact .inl h
  · exact .inr h
/-- the slots at a tape's start: the script, the number of the start, the tape -/
def lawS (n : Nat) (T : List Addr) (i : Int) (t : Int × Int) : S := ⟨some (.scr T) :: some (.fz (.int i)) :: some .tape :: List.replicate n none, some t⟩
def lawE (n : Nat) (T : List Addr) : S := ⟨some (.scr T) :: none :: none :: List.replicate n none, none⟩
/-- what is to be shown of the mirrors: B of a tape's turn, G of the last word -/
structure LawOk (n : Nat) (T : List Addr) (B : S → RS) (G : S → Res SV) : Prop where
  turn : ∀ (i : Int) (t : Int × Int), 0 ≤ i → i < 64 → TapeOk t = true → ∃ r', B (lawS n T i t) = .nx r' ∧ r'.sl[0]? = some (some (.scr T)) ∧ r'.sl.length = n + 3
  last : ∃ r', G (lawE n T) = .ok (.fz (.bool true)) r'
theorem Scr.same {K : PySem.W.Frag} {H H' : Hp} {a : Addr} {xs : List V} (h : Scr K H a xs) (s : SameT H H') : Scr K H' a xs := by
  rcases h with ⟨o, h⟩ | h
  · exact .inl ⟨o, s.kp _ _ h⟩
  · exact .inr h
section
variable {X : Cx} {W : WX} {a b c e : Expr} {rest : List Stmt} {tB : TS} {tE : TE} {B : S → RS} {G : S → Res SV} {n : Nat} {cap : Int} {T : List Addr} {p1 pos : Pos}
def tLawRg (K : PySem.W.Frag) (cap : Int) : TA := tCons (tCB (rMM2 fun i j => if j > i then j else i) (tCons (tC (.int 1)) (tCons (tCB (rMM2 fun i j => if j < i then j else i) (tCons (tC (.int cap)) (tCons (tCB (rLen K) (tCons (tVar 0) tNil)) tNil))) tNil))) tNil
/-- the reading of law's body -/
def tLaw (K : PySem.W.Frag) (cap : Int) (tB : TS) (tE : TE) : TS := tSeq (tFor (iRng1 (tLawRg K cap)) (gName 1) (tSeq (tAsg (tCallS (spTp K) (WE WN) (tCons (tVar 0) (tCons (tVar 1) tNil))) (gName 2)) tB)) (tRet tE)
theorem law_read {K : PySem.W.Frag} {mg : Str → Option Value} (hcap : 0 < cap ∧ cap < 64) (hB : SimS K mg WN tB B) (hE : Sim K mg WN (PV K) tE G) (ok : LawOk n T B G) {vs : List V} {H : Hp} {Q : VK} {E : XK} (h : spLaw K T vs H Q E) (N : List Str) (hN : N.length = n + 3) :
    tLaw K cap tB tE { nx := fun _ H' => Q .non H', rt := Q } (L2.start N vs) H := by
  obtain ⟨sc, ns, ev, hTb, hS, hl, hb, hq⟩ := h
  subst ev
  have st0 : L2.start N [.ref sc] = some (.ref sc) :: List.replicate (n + 2) none := by
    unfold L2.start
    rw [hN]
    rfl
  rw [st0]
  -- how many tapes
  have e62 : (2 : Int) ^ 62 = 4611686018427387904 := by decide
  have hlen : (0 : Int) ≤ ns.length := Int.natCast_nonneg _
  have hlen2 : (ns.length : Int) ≤ 63 := by omega
  obtain ⟨m, hmeq⟩ : ∃ m : Int, m = (if (if (ns.length : Int) < cap then (ns.length : Int) else cap) > 1 then (if (ns.length : Int) < cap then (ns.length : Int) else cap) else 1) := ⟨_, rfl⟩
  have hm1 : 1 ≤ m ∧ m ≤ 63 := by
    rw [hmeq]
    split <;> split <;> omega
  have rg : ∀ (R : It → Hp → Prop), R (Itr 0 m.toNat) H → iRng1 (tLawRg K cap) (some (.ref sc) :: List.replicate (n + 2) none) H R := fun R hR => by
    refine ⟨.ref sc, rfl, ?_⟩
    refine ⟨.ref sc, ns.length, rfl, .inl ⟨ns.map V.int, hS.seq, by simp⟩, ?_⟩
    refine ⟨cap, ns.length, rfl, ?_⟩
    refine ⟨1, _, rfl, ?_⟩
    refine ⟨m, ?_, by rw [e62]; omega, by rw [e62]; omega, hR⟩
    rw [hmeq]
  unfold tLaw tSeq tFor
  refine rg _ ?_
  refine ⟨fun i k σ H' => k = m.toNat - i ∧ i ≤ m.toNat ∧ SameT H H' ∧ σ[0]? = some (some (.ref sc)) ∧ σ.length = n + 3, ⟨m.toNat, by simp, Nat.zero_le _, SameT.refl _, rfl, by simp⟩, ?_⟩
  rintro i k σ H' ⟨rfl, hi, hs, h0, hlσ⟩
  by_cases hlt : i < m.toNat
  · refine .inr ⟨hlt, fun σ' H2 => SameT H H2 ∧ σ'[0]? = some (some (.ref sc)) ∧ σ'.length = n + 3, fun σ' H2 ⟨z1, z2, z3⟩ => ⟨m.toNat - (i + 1), by omega, rfl, hlt, z1, z2, z3⟩, fun x H2 ⟨eH, ex⟩ => ?_⟩
    subst eH ex
    -- the tape
    refine ⟨.ref sc, by rw [List.getElem?_set_ne (by decide)]; exact h0, .int (0 + (i : Int)), by rw [List.getElem?_set_self (by omega)], ?_⟩
    refine ⟨sc, ns, 0 + (i : Int), rfl, (hS.same hs).seq, hl, hb, by omega, by omega, fun H3 p t s3 hp h3 ht => ?_⟩
    -- the turn
    obtain ⟨r', eB, e0, el⟩ := ok.turn (0 + (i : Int)) t (by omega) (by omega) ht
    have S3 : Scr K H3 sc (ns.map V.int) := (hS.same hs).same (.of s3)
    have shape : ∃ τ : St, τ.length = n ∧ ((σ.set 1 (some (.int (0 + (i : Int))))).set 2 (some (.ref p))) = some (.ref sc) :: some (.int (0 + (i : Int))) :: some (.ref p) :: τ := by
      match σ, hlσ, h0 with
      | s0 :: s1 :: s2 :: τ, hlσ, h0 =>
        simp at h0
        subst h0
        exact ⟨τ, by simpa using hlσ, rfl⟩
      | [_, _], hlσ, h0 => simp at hlσ
      | [_], hlσ, h0 => simp at hlσ
      | [], hlσ, h0 => simp at hlσ
    obtain ⟨τ, hτ, eσ⟩ := shape
    show tB _ ((σ.set 1 (some (.int (0 + (i : Int))))).set 2 (some (.ref p))) H3
    rw [eσ]
    have g : Good K ⟨some p, sc, ns, T⟩ [] (lawS n T (0 + (i : Int)) t) (some (.ref sc) :: some (.int (0 + (i : Int))) :: some (.ref p) :: τ) H3 [p] := by
      refine ⟨⟨[], [p], rfl, ⟨_, _, [], [], rfl, rfl, ⟨⟨rfl, rfl, S3⟩, rfl⟩, _, _, [], [], rfl, rfl, ⟨by simp [R], rfl⟩, _, _, [], [], rfl, rfl, ⟨⟨p, rfl, rfl⟩, rfl⟩, Slots.nones n τ hτ⟩, ⟨p, rfl, h3, rfl⟩⟩, by simp, fun a z => ?_, fun _ z => (by cases z), fun q hq => (hs.tb _ (hTb q hq)).ext s3⟩
      have : a = p := by simpa using z
      subst this
      exact ⟨_, h3, trivial⟩
    refine SimSAt.use (hB _ _ _ _ _ _ g) ?_
    rw [eB]
    rintro σ' H4 ⟨fs', g', ev⟩
    refine ⟨⟨fun b o hbo ht => ?_, fun b hb => ev.there b ((SameT.of s3).th b (hs.th b hb)), fun P h => ev.tb P ((hs.tb P h).ext s3)⟩, ?_, ?_⟩
    · exact ev.keep b o (s3 b o (hs.kp b o hbo ht)) (fun z => by
        have : b = p := by simpa using z
        subst this
        rw [hs.kp b o hbo ht] at hp; cases hp) ht
    · obtain ⟨v, f, e1, ⟨e2, _⟩, _⟩ := g'.slotV e0
      rw [e1, e2]
    · obtain ⟨⟨f1, f2, _, sl, _⟩, _⟩ := g'
      rw [sl.len, el]
  · refine .inl ⟨Nat.le_of_not_lt hlt, ?_⟩
    obtain ⟨r', eG⟩ := ok.last
    have shape : ∃ (s1 s2 : Option V) (τ : St), τ.length = n ∧ σ = some (.ref sc) :: s1 :: s2 :: τ := by
      match σ, hlσ, h0 with
      | s0 :: s1 :: s2 :: τ, hlσ, h0 =>
        simp at h0
        subst h0
        exact ⟨s1, s2, τ, by simpa using hlσ, rfl⟩
      | [_, _], hlσ, h0 => simp at hlσ
      | [_], hlσ, h0 => simp at hlσ
      | [], hlσ, h0 => simp at hlσ
    obtain ⟨s1, s2, τ, hτ, eσ⟩ := shape
    rw [eσ]
    have g : Good K ⟨none, sc, ns, T⟩ [] (lawE n T) (some (.ref sc) :: s1 :: s2 :: τ) H' [] := by
      refine ⟨⟨[], [], rfl, ⟨_, _, [], [], rfl, rfl, ⟨⟨rfl, rfl, hS.same hs⟩, rfl⟩, _, _, rfl, _, _, rfl, Slots.nones n τ hτ⟩, rfl⟩, by simp, by simp [Own], fun z => absurd rfl z, fun q hq => hs.tb _ (hTb q hq)⟩
    have z := hE _ _ _ _ _ _ g
    rw [eG] at z
    refine z _ fun v H4 ⟨fs', fp, g', hv, _⟩ => ?_
    obtain ⟨hv, _⟩ := hv
    simp only [R] at hv
    subst hv
    exact hq _
end
end QL
namespace QL
open PySem PySem.Spec L2
abbrev rAddI : R2 := rI0 fun i j => .int (i + j)
abbrev rSubI : R2 := rI0 fun i j => .int (i - j)
abbrev rMulI : R2 := rI CMulB fun i j => .int (i * j)
abbrev rModI : R2 := rI (fun _ j => 0 < j) fun i j => .int (i % j)
abbrev rPowI : R2 := rI CPowB fun i j => .int (i ^ j.toNat)
abbrev rLtI : R2 := rI0 fun i j => .bl (decide (i < j))
abbrev rGeI : R2 := rI0 fun i j => .bl (decide (j ≤ i))
def t1018 : TE := tOp rPowI (tC (.int 10)) (tC (.int 18))
def tTapeBody (K : PySem.W.Frag) : TS := tAsg (tOp rAddI (tOp rModI (tCB rInt (tCons (tOp rPowI (tOp rAddI (tOp rAddI (tOp rMulI (tVar 2) (tC (.int 30029))) (tOp rMulI (tVar 3) (tVar 3))) (tC (.int 13))) (tC (.int 2))) tNil)) (tC (.int 2147483563))) (tC (.int 2))) (gName 2)
def tTape (K : PySem.W.Frag) : TS := tSeq (tAsg (tOp rAddI (tC (.int 101)) (tOp rMulI (tVar 1) (tC (.int 53)))) (gName 2))
  (tSeq (tFor (iList K (tVar 0)) (gName 3) (tTapeBody K))
  (tSeq (tAsg (tIf (tAnd (tB (tOp rLtI (tVar 1) (tCB (rLen K) (tCons (tVar 0) tNil)))) (tB (tOp rGeI (tOp (rIx K) (tVar 0) (tVar 1)) t1018))) (tOp rSubI (tOp (rIx K) (tVar 0) (tVar 1)) t1018) (tC (.int 0))) (gName 4))
  (tRet (tDisp [(tC (.str (Str.ofString "digits")), tVar 4), (tC (.str (Str.ofString "mixed")), tVar 2)]))))
theorem tape_turn {m c : Int} (h0 : 0 ≤ m) (h1 : m < 4294967296) (hc : bitsI c ≤ 1048576) : CMulB m 30029 ∧ CMulB c c ∧ CPowB (m * 30029 + c * c + 13) 2 := by
  have bm : bitsI m ≤ 32 := PySem.intBits_le_iff.mpr (by omega)
  have b3 : bitsI 30029 ≤ 15 := by decide
  have b13 : bitsI 13 ≤ 4 := by decide
  have x1 := PySem.intBits_mul_le bm b3
  have x2 := PySem.intBits_mul_le hc hc
  have x3 := PySem.intBits_add_le x1 x2
  have x4 : bitsI (m * 30029 + c * c + 13) ≤ _ := PySem.intBits_add_le x3 b13
  refine ⟨by unfold CMulB; omega, by unfold CMulB; omega, by decide, ?_⟩
  have e : (2 : Int) ^ 27 = 134217728 := by decide
  rw [e]
  omega
theorem tk_disp (d m : Int) : HO.dK (mergeK [] [((.inr (Str.ofString "digits") : Key), V.int d), (.inr (Str.ofString "mixed"), V.int m)]) = tapeO (d, m) := by
  have n1 : ¬ ((.inr (Str.ofString "mixed") : Key) = .inr (Str.ofString "digits")) := fun e => tk_ne (Sum.inr.inj e).symm
  have n2 : ¬ ((.inr (Str.ofString "digits") : Key) = .inr (Str.ofString "mixed")) := fun e => tk_ne (Sum.inr.inj e)
  simp [mergeK, putK, tapeO, tk_ne]
theorem tape_read {K : PySem.W.Frag} {vs : List V} {H : Hp} {Q : VK} {E : XK} (h : spTp K vs H Q E) (N : List Str) (hN : N.length = 5) : tTape K { nx := fun _ H' => Q .non H', rt := Q } (L2.start N vs) H := by
  obtain ⟨sc, ns, i, ev, hS, hl, hb, hi0, hi1, hq⟩ := h
  subst ev
  have st0 : L2.start N [.ref sc, .int i] = [some (.ref sc), some (.int i), none, none, none] := by
    unfold L2.start
    rw [hN]
    rfl
  rw [st0]
  have b53 : CMulB i 53 := by
    have b1 : bitsI i ≤ 6 := PySem.intBits_le_iff.mpr (by omega)
    have b2 : bitsI 53 ≤ 6 := by decide
    unfold CMulB
    omega
  have e1018 : (10 : Int) ^ (18 : Int).toNat = 1000000000000000000 := by decide
  have p1018 : CPowB 10 18 := by
    refine ⟨by decide, ?_⟩
    have b10 : bitsI 10 = 4 := by decide
    rw [b10]
    decide
  refine ⟨.int i, rfl, i, 53, rfl, rfl, b53, 101, i * 53, rfl, rfl, ?_⟩
  refine ⟨.ref sc, rfl, sc, rfl, ⟨_, hS⟩, ?_⟩
  refine for_list (xs := ns.map V.int) (fun _ σ H' => H' = H ∧ ∃ (m : Int) (c : Option V), σ = [some (.ref sc), some (.int i), some (.int m), c, none] ∧ 0 ≤ m ∧ m < 4294967296) ⟨rfl, 101 + i * 53, none, rfl, by omega, by omega⟩ (fun j σ H' _ ⟨e, _⟩ => by rw [e]; exact hS) (fun j x σ H' hx ⟨e, m, c, eσ, m0, m1⟩ => ?_) (fun σ H' ⟨e, m, c, eσ, m0, m1⟩ => ?_)
  · subst e eσ
    rw [List.getElem?_map] at hx
    obtain ⟨z, hz, rfl⟩ := Option.map_eq_some_iff.mp hx
    obtain ⟨c1, c2, c3⟩ := tape_turn m0 m1 (hb z (List.mem_of_getElem? hz))
    refine ⟨.int m, rfl, m, 30029, rfl, rfl, c1, .int z, rfl, .int z, rfl, z, z, rfl, rfl, c2, m * 30029, z * z, rfl, rfl, m * 30029 + z * z, 13, rfl, rfl, m * 30029 + z * z + 13, 2, rfl, rfl, c3, .inl ⟨_, rfl, ?_⟩⟩
    refine ⟨_, 2147483563, rfl, rfl, (by show (0 : Int) < 2147483563; decide), _, 2, rfl, rfl, rfl, _, some (.int z), rfl, ?_, ?_⟩
    · have := Int.emod_nonneg ((m * 30029 + z * z + 13) ^ (2 : Int).toNat) (b := 2147483563) (by decide)
      omega
    · have := Int.emod_lt_of_pos ((m * 30029 + z * z + 13) ^ (2 : Int).toNat) (b := 2147483563) (by decide)
      omega
  · subst e eσ
    -- digits
    have fin : ∀ d : Int, 0 ≤ d → bitsI d ≤ 2097152 → (tRet (tDisp [(tC (.str (Str.ofString "digits")), tVar 4), (tC (.str (Str.ofString "mixed")), tVar 2)])) { nx := fun _ H' => Q .non H', rt := Q } [some (.ref sc), some (.int i), some (.int m), c, some (.int d)] H' := fun d d0 d1 p hp => by
      refine ⟨.int d, rfl, .int m, rfl, upd_same, [((.inr (Str.ofString "digits") : Key), V.int d), (.inr (Str.ofString "mixed"), V.int m)], rfl, (by show 2 ≤ 15; decide), ?_⟩
      rw [tk_disp]
      refine hq _ p (d, m) (fun b o e => ?_) hp upd_same ?_
      · have nb : b ≠ p := fun z => by rw [z, hp] at e; cases e
        rw [upd_ne nb, upd_ne nb]; exact e
      · unfold TapeOk
        simp only [Bool.and_eq_true, decide_eq_true_eq]
        exact ⟨⟨⟨d0, d1⟩, m0⟩, by omega⟩
    refine ⟨.int i, rfl, .ref sc, rfl, ⟨.ref sc, ns.length, rfl, .inl ⟨_, hS, by simp⟩, i, ns.length, rfl, rfl, _, rfl, ?_⟩⟩
    by_cases hlt : i < ns.length
    · rw [decide_eq_true hlt]
      refine iteT ?_
      have hn : i.toNat < ns.length := by omega
      have hat : atI (ns.map V.int) i = some (.int ns[i.toNat]) := by
        have h1 : atI (ns.map V.int) ((i.toNat : Nat) : Int) = some (.int ns[i.toNat]) := atI_nat (by rw [List.getElem?_map, List.getElem?_eq_getElem hn]; rfl)
        rwa [show ((i.toNat : Nat) : Int) = i by omega] at h1
      have ix : ∀ (Q' : VK), Q' (.int ns[i.toNat]) H' → rIx K (.ref sc) (.int i) H' Q' := fun Q' q => .inl ⟨sc, ns.map V.int, i, _, rfl, rfl, hS, hat, q⟩
      refine ⟨.ref sc, rfl, .int i, rfl, ix _ ⟨10, 18, rfl, rfl, p1018, ns[i.toNat], _, rfl, rfl, _, rfl, ?_⟩⟩
      by_cases hge : (10 : Int) ^ (18 : Int).toNat ≤ ns[i.toNat]
      · rw [decide_eq_true hge]
        refine iteT ?_
        refine ⟨.ref sc, rfl, .int i, rfl, ix _ ⟨10, 18, rfl, rfl, p1018, ns[i.toNat], _, rfl, rfl, ?_⟩⟩
        have b1 := hb _ (List.getElem_mem hn)
        have b2 : bitsI ((10 : Int) ^ (18 : Int).toNat) ≤ 60 := by rw [e1018]; decide
        have b3 : bitsI (ns[i.toNat] - (10 : Int) ^ (18 : Int).toNat) ≤ _ := PySem.intBits_sub_le b1 b2
        exact fin _ (by omega) (by omega)
      · rw [decide_eq_false hge]
        refine iteF ?_
        exact fin 0 (by omega) (by decide)
    · rw [decide_eq_false hlt]
      refine iteF (iteF ?_)
      exact fin 0 (by omega) (by decide)
end QL
namespace QL
open PySem PySem.Spec L2
structure DefF (P : Program) (w : World) (K : PySem.W.Frag) (mg : Str → Option Value) (base : Heap) (x : Str) (k n : Nat) (F : List D → FR) : Prop where
  ex : ∃ f fd ps, FnG P w K mg base k f fd ps (spF K mg n F) ∧ mg x = some (.ref f) ∧ PySem.W.keepIn K (.ref f) = true ∧ Binds K fd ps []
structure DefT (P : Program) (w : World) (K : PySem.W.Frag) (mg : Str → Option Value) (base : Heap) (x : Str) (k n : Nat) (F : Int × Int → List D → FR) : Prop where
  ex : ∃ f fd ps, FnG P w K mg base k f fd ps (spT K mg n F) ∧ mg x = some (.ref f) ∧ PySem.W.keepIn K (.ref f) = true ∧ Binds K fd ps []
section
variable {X : Cx} {W : WX} {e a b c tg iter elt : Expr} {es ifs : List Expr} {body rest : List Stmt} {t t2 ta tb tc te : TE} {tA tt : TT} {tl : TA} {tS u : TS} {g : TG} {gs : TGs} {wi : TI} {fa fb fc FF : S → Res D} {F F1 F2 : S → Res SV} {FL : S → Res (List D)} {FS : S → Res (List SV)} {FA T : S → Res Bool} {B : S → RS} {I : S → Res (List D)} {G : D → S → Option S} {Gs : List D → S → Option S}
  {x y z : Str} {p p2 p3 pos py : Pos} {i j l k k2 n : Nat} {scope : Scope} {own : List (Str × Nat)}
theorem ex_callD {FD : List D → FR} (h : DefF X.prog X.w X.K X.mg X.base x k n FD) (hG : X.A.guards = some []) (hr : Room k2 X.A) (tk : Takes X W) (ha : AX X W (e :: es) tl FL) (hk : k ≤ k2 := by decide) (hg : Gl X x := by rfl)
    (hdb : (x == ("__debug__" : Str)) = false := by decide) (he : starEach (e :: es) X.env = (false, eval e X.env) :: starEach es X.env := by rfl) (hpl : (backTo pos (starEach es X.env)).any (·.1) = false := by rfl) :
    EX X W (.Call (.Name x p) (e :: es) [] pos) (tCallS (spF X.K X.mg n FD) (WE W) tl) (fCall n FD FL) := by
  obtain ⟨f, fd, ps, h1, h2, h3, h4⟩ := h.ex
  exact ex_call h1 hG (hr.mono hk) hg h2 h3 h4 tk ha hdb he hpl
theorem ex_callDT {FD : Int × Int → List D → FR} (h : DefT X.prog X.w X.K X.mg X.base x k n FD) (hG : X.A.guards = some []) (hr : Room k2 X.A) (tk : Takes X W) (hv : PE X e (tVar i)) (ha : AX X W es tl FL) (hk : k ≤ k2 := by decide) (hg : Gl X x := by rfl)
    (hdb : (x == ("__debug__" : Str)) = false := by decide) (he : starEach (e :: es) X.env = (false, eval e X.env) :: starEach es X.env := by rfl) (hpl : (backTo pos (starEach es X.env)).any (·.1) = false := by rfl) :
    EX X W (.Call (.Name x p) (e :: es) [] pos) (tCallS (spT X.K X.mg n FD) (WE W) (tCons (tVar i) tl)) (fCallT i n FD FL) := by
  obtain ⟨f, fd, ps, h1, h2, h3, h4⟩ := h.ex
  exact ex_callT h1 hG (hr.mono hk) hg h2 h3 h4 tk hv ha hdb he hpl
theorem ex_len (hm : X.mg "len" = none) (ha : BAX X W [e] tl FL) (hg : Gl X "len" := by rfl) (he : starEach [e] X.env = (false, eval e X.env) :: starEach [] X.env := by rfl) : EX X W (.Call (.Name "len" p) [e] [] pos) (tCB (rLen X.K) tl) (fCB dLen FL) :=
  ex_cb (pe_callB call_len hg hm PySem.boot_len ha.pe (by decide) (by decide) he (by rfl)) opb_len ha
theorem ex_int (hm : X.mg "int" = none) (ha : BAX X W [e] tl FL) (hg : Gl X "int" := by rfl) (he : starEach [e] X.env = (false, eval e X.env) :: starEach [] X.env := by rfl) : EX X W (.Call (.Name "int" p) [e] [] pos) (tCB rInt tl) (fCB dInt FL) :=
  ex_cb (pe_callTy call_int1 hg hm PyProof.Rows.boot_int ha.pe (by decide) (by decide) he (by rfl)) opb_int ha
theorem ex_max2 (hc : X.calm = true) (hm : X.mg "max" = none) (ha : BAX X W [a, b] tl FL) (hg : Gl X "max" := by rfl) (he : starEach [a, b] X.env = (false, eval a X.env) :: starEach [b] X.env := by rfl) (hpl : (backTo pos (starEach [b] X.env)).any (·.1) = false := by rfl) : EX X W (.Call (.Name "max" p) [a, b] [] pos) (tCB (rMM2 fun i j => if j > i then j else i) tl) (fCB dMax2 FL) :=
  ex_cb (pe_callB (call_max2 hc) hg hm PyProof.Rows.boot_max ha.pe (by decide) (by decide) he hpl) opb_max2 ha
theorem ex_isiT {Ty : String} (hm : X.mg "isinstance" = none) (hy : X.mg y = none) (hb : bootBuiltins y = some (.type Ty)) (ha : BX X W a ta fa) (hg : Gl X "isinstance" := by rfl) (hgy : Gl X y := by rfl) (hn : y ≠ "__name__" := by decide) (hd : (y == ("__debug__" : Str)) = false := by decide)
    (he : starEach [a, .Name y py] X.env = (false, eval a X.env) :: starEach [.Name y py] X.env := by rfl) (he2 : starEach [.Name y py] X.env = (false, eval (.Name y py) X.env) :: starEach [] X.env := by rfl) (hpl : (backTo pos (starEach [.Name y py] X.env)).any (·.1) = false := by rfl) (hT : sixT Ty = true := by decide) :
    EX X W (.Call (.Name "isinstance" p) [a, .Name y py] [] pos) (tCB (rIsiD X.K Ty) (tCons ta (tCons (tC (.ty Ty)) tNil))) (fOp1 (dIsi Ty) fa) :=
  ex_isi (pe_callB call_isiD hg hm PyProof.Rows.boot_isinstance (pa_cons ha.pe (pa_cons (pe_bltn (v := .ty Ty) hgy hy hb rfl hn hd) pa_nil he2) he) (by decide) (by decide) he hpl) ha hT
theorem sim_tv {K : PySem.W.Frag} {mg : Str → Option Value} (h : Sim K mg W (PB K) ta fa) : Sim K mg W (PTt K) (tTest ta) (tV fa) := by
  intro γ Oc r σ H fs g
  refine SimAt.bind (t2 := fun (x : V) (H1 : Hp) (Q : Bool → Hp → Prop) => ∃ c, x = .bl c ∧ Q c H1) (h γ Oc r σ H fs g) fun d r1 v H1 ⟨fs1, g1, v1, s1⟩ => ?_
  refine SimAt.tr s1 fun Q => ?_
  cases d with
  | bool b =>
    simp only [RE, R] at v1
    exact fun hq => ⟨b, v1, hq b H1 ⟨fs1, g1, rfl, Stp.refl _ _ _⟩⟩
  | _ => trivial
theorem tx_cmp {op : D → D → Option OV} {o : CmpOp} {rr : R2} (ho : OpR X (compareOp o) rr) (hs : OpS X.K rr op) (ha : BX X W a ta fa) (hb : BX X W b tb fb) (hm : behindInMarks o b = false) : TX X W (.Compare a [o] [b] pos) (tTest (tOp rr ta tb)) (tV (fD (fOp op fa fb))) :=
  ⟨pt_cmpR ho ha.pe hb.pe hm, sim_tv (EX.toB (ex_cmp (pos := pos) ho hs ha hb hm)).sim⟩
theorem gx_nm (hN : X.N.Nodup) (hi : X.N[i]? = some x := by rfl) (hx : Loc X.env.scope x := by first | exact Or.inl rfl | exact Or.inr rfl) (hf : X.fn x = true ∨ X.env.scope.names.lookup x = some .local := by first | exact .inl rfl | exact .inr rfl) : GX X (.Name x pos) (gName i) (gNm i) := gx_name (pg_name hN hi hx hf)
theorem gx_tp {k0 : Nat} (hc : X.calm = true) (h : GXs X es gs Gs) (hn : (assignEach es X.env).length = n := by rfl) (hst : (assignEach es X.env).findIdx? (·.1) = none := by rfl) : GX X (.Tuple es k0 pos) (gTup X.K n gs) (gTupF n Gs) := gx_tup h (pg_tup hc h.pg hn hst)
theorem sx_set (hN : X.N.Nodup) (h : EX X W e ta F) (hi : X.N[i]? = some x := by rfl) (hx : Loc X.env.scope x := by first | exact Or.inl rfl | exact Or.inr rfl) (hs : swapsWith e (some (.Name x py)) pos.line X.env = pure false := by rfl)
    (hf : X.fn x = true ∨ X.env.scope.names.lookup x = some .local := by first | exact .inl rfl | exact .inr rfl) : SX X W (.Assign [.Name x py] e pos) (tAsg ta (gName i)) (sAsg i F) := sx_asg h (ps_set hN hi hx h.pe hs hf)
theorem ex_lcW (hc : X.calm = true) (hN : X.N.Nodup) (ok : BlkOk X.N X.env.scope scope own) (hi : IX X W tg iter wi I) (hw : GWipe (own.map (·.2)) g)
    (hg : ∀ (s : Shared) (H : Hp) (C : Addr) (cl : List (Str × Addr)) (fp : List Addr), GX (X.blk s H scope (compEnvC scope cl C X.env) fp) tg g G)
    (ht : ∀ (s : Shared) (H : Hp) (C : Addr) (cl : List (Str × Addr)) (fp : List Addr), TsX (X.blk s H scope (compEnvC scope cl C X.env) fp) WN ifs tt T)
    (he : ∀ (s : Shared) (H : Hp) (C : Addr) (cl : List (Str × Addr)) (fp : List Addr), FX (X.blk s H scope (compEnvC scope cl C X.env) fp) WN elt te FF) (hs : ∀ x, foldedSetIterable iter X.env x = pure x := by intro _; rfl) :
    EX X W (.ListComp elt [⟨tg, iter, ifs, 0⟩] scope pos) (tLc wi g tt te (own.map (·.2))) (fLc (own.map (·.2)) I G T FF) :=
  ex_lc (pe_lc hc hN hi.pi ok (fun s H C cl fp => (hg s H C cl fp).pg) (fun s H C cl fp => (ht s H C cl fp).pe) (fun s H C cl fp => (he s H C cl fp).pe) hs) hi hw hg ht he
/-- name = [..] on one line -/
theorem sx_setLc (hc : X.calm = true) (hN : X.N.Nodup) (ok : BlkOk X.N X.env.scope scope own) (hi : IX X W tg iter wi I) (hw : GWipe (own.map (·.2)) g)
    (hg : ∀ (s : Shared) (H : Hp) (C : Addr) (cl : List (Str × Addr)) (fp : List Addr), GX (X.blk s H scope (compEnvC scope cl C X.env) fp) tg g G)
    (ht : ∀ (s : Shared) (H : Hp) (C : Addr) (cl : List (Str × Addr)) (fp : List Addr), TsX (X.blk s H scope (compEnvC scope cl C X.env) fp) WN ifs tt T)
    (he : ∀ (s : Shared) (H : Hp) (C : Addr) (cl : List (Str × Addr)) (fp : List Addr), FX (X.blk s H scope (compEnvC scope cl C X.env) fp) WN elt te FF)
    (hix : X.N[i]? = some y := by rfl) (hyl : X.env.scope.names.lookup y = some .local := by rfl) (hsw : swapsWith (.ListComp elt [⟨tg, iter, ifs, 0⟩] scope pos) (some (.Name y py)) p.line X.env = pure true := by rfl) (hs : ∀ x, foldedSetIterable iter X.env x = pure x := by intro _; rfl) :
    SX X W (.Assign [.Name y py] (.ListComp elt [⟨tg, iter, ifs, 0⟩] scope pos) p) (tAsg (tLc wi g tt te (own.map (·.2))) (gName i)) (sAsg i (fLc (own.map (·.2)) I G T FF)) :=
  sx_asg (ex_lcW hc hN ok hi hw hg ht he hs) (ps_setLc hc hN hix hyl hsw hi.pi ok (fun s H C cl fp => (hg s H C cl fp).pg) (fun s H C cl fp => (ht s H C cl fp).pe) (fun s H C cl fp => (he s H C cl fp).pe) hs)
theorem sx_p2 {px pt : Pos} {kt k0 : Nat} {pt2 : Pos} (hc : X.calm = true) (hN : X.N.Nodup) (h : OAX X W [a, b] tl FS) (hi : X.N[i]? = some x := by rfl) (hj : X.N[j]? = some y := by rfl) (hij : i ≠ j := by decide)
    (hx : X.env.scope.names.lookup x = some .local := by rfl) (hy : X.env.scope.names.lookup y = some .local := by rfl) (hw : swappedStores [.Tuple [.Name x px, .Name y py] kt pt] (.Tuple [a, b] k0 pt2) X.env = pure (some [x, y]) := by rfl)
    (hs : swapsWithSole [.Tuple [.Name x px, .Name y py] kt pt] (.Tuple [a, b] k0 pt2) pos.line X.env = pure false := by rfl) :
    SX X W (.Assign [.Tuple [.Name x px, .Name y py] kt pt] (.Tuple [a, b] k0 pt2) pos) (tPar i j tl) (sPar2 i j FS) := sx_par2 h (ps_par hc hN hi hj hij hx hy h.pe hw hs)
section
variable {apos : Pos} {id : String} {op : D → List D → Option OV} {rr : V → List V → Hp → VK → Prop}
theorem ex_ms (slot : Slot "str" x id) (hty : typeOf (.builtin id) = pure (.type "method_descriptor")) (hm : MtR X id rr) (ho : OpM X.K rr op) (ha : BX X W a ta fa) (hl : BAX X W (e :: es) tl FL) (hbase : attributeBase a x X.env (eval a X.env) = eval a X.env := by rfl)
    (hfew : ((backTo pos (starEach (e :: es) X.env)).all (fun x => !x.1) && (backToKw pos (keywordEach [] X.env)).all (fun x => x.1.isSome) && decide ((e :: es).length + ([] : List Keyword).length + (if ([] : List Keyword).isEmpty then 0 else 1) < 30)) = true := by rfl)
    (hline : (apos.endLine == pos.line) = true := by rfl) (hs : starEach (e :: es) X.env = (false, eval e X.env) :: starEach es X.env := by rfl) (hpl : (backTo pos (starEach es X.env)).any (·.1) = false := by rfl) :
    EX X W (.Call (.Attribute a x apos) (e :: es) [] pos) (tBM X.K "str" rr ta tl) (fMt op fa FL) := ex_mt (pe_bm PySem.F.plainAttrs_str slot hty hm ha.pe hl.pe hbase hfew hline hs hpl) ho ha hl
theorem sx_append (hv : PE X a (tVar i)) (h : FX X W e te FF) (hbase : attributeBase a "append" X.env (eval a X.env) = eval a X.env := by rfl)
    (hfew : ((backTo pos (starEach [e] X.env)).all (fun x => !x.1) && (backToKw pos (keywordEach [] X.env)).all (fun x => x.1.isSome) && decide (([e] : List Expr).length + ([] : List Keyword).length + (if ([] : List Keyword).isEmpty then 0 else 1) < 30)) = true := by rfl)
    (hline : (apos.endLine == pos.line) = true := by rfl) (hs : starEach [e] X.env = (false, eval e X.env) :: starEach [] X.env := by rfl) (hpl : (backTo pos (starEach [] X.env)).any (·.1) = false := by rfl)
    (hsw : swapsWith (.Call (.Attribute a "append" apos) [e] [] pos) none p.line X.env = pure false := by rfl) : SX X W (.Expr (.Call (.Attribute a "append" apos) [e] [] pos) p) (tDrop (tBM X.K "list" rAppend (tVar i) (tCons te tNil))) (sApp i FF) :=
  ⟨ps_expr (pe_bm PySem.F.plainAttrs_list PySem.F.slot_list_append PySem.F.type_list_append mt_append hv (pa_cons h.pe pa_nil hs) hbase hfew hline hs hpl) hsw, sim_app h.sim⟩
end
theorem ex_tkW {kk : Bool} {j0 : Nat} (hu : X.A.units + 1 < cLine) (hv : PE X a (tVar i)) (hs : NoSl (.Constant (.str (tkS kk)) j0 p) := by exact fun _ _ => rfl) : EX X W (.Subscript a (.Constant (.str (tkS kk)) j0 p) pos) (tDGet (tVar i) (tC (.str (tkS kk)))) (fTk i kk) := ex_tk (pe_dget hu hv pe_str hs)
theorem sx_tkW {kk : Bool} {j0 : Nat} (hu : X.A.units + 1 < cLine) (hv : PE X a (tVar i)) (h : FX X W e te FF) (hs : swapsWith e (some (.Subscript a (.Constant (.str (tkS kk)) j0 p) p2)) pos.line X.env = pure false := by rfl) :
    SX X W (.Assign [.Subscript a (.Constant (.str (tkS kk)) j0 p) p2] e pos) (sDPut (tVar i) (tC (.str (tkS kk))) te) (sTk i kk FF) := sx_tk (ps_dput hu hv pe_str h.pe hs) h
/-- text constants of the module -/
theorem fx_gs {zt : Str} (hm : ∃ tk, X.mg x = some (.str zt tk)) (hg : Gl X x := by rfl) (hd : (x == ("__debug__" : Str)) = false := by decide) : FX X W (.Name x pos) (tC (.str zt)) (fC (.str zt)) := by
  obtain ⟨tk, hm⟩ := hm
  exact fx_glob (u := .str zt tk) hg hm ⟨tk, rfl⟩ (fun K O H => by simp [R]) hd
end
section
variable {X : Cx} {W : WX} {es : List Expr} {tl : TA} {FL : S → Res (List D)} {x1 : Nat} {pos : Pos}
theorem ex_tp (h : AX X W es tl FL) : EX X W (.Tuple es x1 pos) (tTup tl) (eTup FL) := ex_tup (tp := none) h (pe_tup h.pe)
end
/-- the law, by its mirrors -/
theorem fg_law {P : Program} {w : World} {K : PySem.W.Frag} {mg : Str → Option Value} {base : Heap} {k n : Nat} {f : Addr} {fd : FuncData} {N : List Str} {qual x : Str} {st : Stmt} {B : S → RS} {G : S → Res SV} {cap : Int} {T : List Addr} (F : Fun K x qual st f fd) (Sc : FnScope N ["script"] (defScope st)) (hN : N.length = n + 3)
    (hcap : 0 < cap ∧ cap < 64) (ok : LawOk n T B G)
    (hb : ∀ (cdv : Value) (A : Around) (out : List Env) (s : Shared) (H : Hp) (E : XK), A.guards = some [] → Room k (A.deeper (PyProof.Rows.envOfC qual (defScope st) s.heap.objs.size f cdv)) →
      ∃ tB tE, SimS K mg WN tB B ∧ Sim K mg WN (PV K) tE G ∧ PSs (cxOf (L2.CX P w) P w K mg base N qual (defScope st) f cdv A out s H E) (defBody st) (tLaw K cap tB tE)) : FnG P w K mg base (k + 1) f fd ["script"] (spLaw K T) := by
  refine fg_of F Sc (fun vs H Q E h => ?_) fun cdv A out s H vs Q E hG hr h => ?_
  · obtain ⟨sc, ns, e, _⟩ := h
    rw [e]; rfl
  · obtain ⟨tB, tE, h1, h2, h3⟩ := hb cdv A out s H E hG hr
    exact ⟨_, h3, law_read hcap h1 h2 ok h N hN⟩
/-- _law_tape -/
theorem fg_tape {P : Program} {w : World} {K : PySem.W.Frag} {mg : Str → Option Value} {base : Heap} {k : Nat} {f : Addr} {fd : FuncData} {N : List Str} {qual x : Str} {st : Stmt} (F : Fun K x qual st f fd) (Sc : FnScope N ["script", "start"] (defScope st)) (hN : N.length = 5)
    (hb : ∀ (cdv : Value) (A : Around) (out : List Env) (s : Shared) (H : Hp) (E : XK), Room k (A.deeper (PyProof.Rows.envOfC qual (defScope st) s.heap.objs.size f cdv)) → PSs (cxOf (L2.CX P w) P w K mg base N qual (defScope st) f cdv A out s H E) (defBody st) (tTape K)) : FnG P w K mg base (k + 1) f fd ["script", "start"] (spTp K) := by
  refine fg_of F Sc (fun vs H Q E h => ?_) fun cdv A out s H vs Q E hG hr h => ?_
  · obtain ⟨sc, ns, i, e, _⟩ := h
    rw [e]; rfl
  · exact ⟨_, hb cdv A out s H E hr, tape_read h N hN⟩
def setAll : List Nat → List SV → S → RS
  | [], [], r => .nx r
  | i :: is, x :: xs, r => (setS i x r).go (setAll is xs)
  | _, _, _ => .bad
def sParN (is : List Nat) (F : S → Res (List SV)) : S → RS := fun r => (F r).bindS fun xs r => if xs.length = is.length then setAll is xs r else RS.bad
theorem SVRs.mono {K : PySem.W.Frag} {γ : Gh} {O O' : List Addr} {H : Hp} {xs : List SV} {vs : List V} {fp : List Addr} (ow : Own O H) (s : ∀ a ∈ O', a ∈ O) (h : SVRs K γ O H xs vs fp) : SVRs K γ O' H xs vs fp := h.stab ow (Stab.weak s fun _ _ z => z) fun _ _ => rfl
theorem SVRs.len {K : PySem.W.Frag} {γ : Gh} {O : List Addr} {H : Hp} : ∀ {xs : List SV} {vs : List V} {fp : List Addr}, SVRs K γ O H xs vs fp → vs.length = xs.length
  | [], vs, fp, h => by rw [h.1]; rfl
  | x :: xs, vs, fp, h => by
    obtain ⟨v, ws, f1, f2, e1, _, _, h2⟩ := h
    rw [e1, List.length_cons, List.length_cons, h2.len]
/-- the parts of law's body -/
def lawRest : List Stmt → List Stmt
  | .For _ _ (_ :: r) _ _ :: _ => r
  | _ => []
def lawLast : List Stmt → Expr
  | [_, .Return (some e) _] => e
  | _ => .Constant .none 0 ⟨0, 0, 0, 0⟩
/-- a def by its mirror, the mirror's name given -/
theorem fgF {P : Program} {w : World} {K : PySem.W.Frag} {mg : Str → Option Value} {base : Heap} {k n m : Nat} {f : Addr} {fd : FuncData} {ps N : List Str} {qual x : Str} {st : Stmt} {B : S → RS} {FF : List D → FR} (Fu : Fun K x qual st f fd) (Sc : FnScope N ps (defScope st)) (hF : FF = bodyF m B) (hm : N.length = m) (hn : ps.length = n)
    (hb : ∀ (cdv : Value) (A : Around) (out : List Env) (s : Shared) (H : Hp) (E : XK), A.guards = some [] → Room k (A.deeper (PyProof.Rows.envOfC qual (defScope st) s.heap.objs.size f cdv)) → Takes (cxOf (L2.CX P w) P w K mg base N qual (defScope st) f cdv A out s H E) (fun c d _ H' => E c d H') →
      ∃ t, SSX (cxOf (L2.CX P w) P w K mg base N qual (defScope st) f cdv A out s H E) (fun c d _ H' => E c d H') (defBody st) t B) : FnG P w K mg base (k + 1) f fd ps (spF K mg n FF) := by
  subst hF hm
  exact fg_body Fu Sc hn fun cdv A out s H E hG hr => hb cdv A out s H E hG hr (takes_of rfl rfl rfl rfl)
theorem fgT {P : Program} {w : World} {K : PySem.W.Frag} {mg : Str → Option Value} {base : Heap} {k n m : Nat} {f : Addr} {fd : FuncData} {ps N : List Str} {qual x : Str} {st : Stmt} {B : S → RS} {FF : Int × Int → List D → FR} (Fu : Fun K x qual st f fd) (Sc : FnScope N ps (defScope st)) (hF : FF = bodyT m B) (hm : N.length = m) (hn : ps.length = n + 1)
    (hb : ∀ (cdv : Value) (A : Around) (out : List Env) (s : Shared) (H : Hp) (E : XK), A.guards = some [] → Room k (A.deeper (PyProof.Rows.envOfC qual (defScope st) s.heap.objs.size f cdv)) → Takes (cxOf (L2.CX P w) P w K mg base N qual (defScope st) f cdv A out s H E) (fun c d _ H' => E c d H') →
      ∃ t, SSX (cxOf (L2.CX P w) P w K mg base N qual (defScope st) f cdv A out s H E) (fun c d _ H' => E c d H') (defBody st) t B) : FnG P w K mg base (k + 1) f fd ps (spT K mg n FF) := by
  subst hF hm
  exact fg_bodyT Fu Sc hn fun cdv A out s H E hG hr => hb cdv A out s H E hG hr (takes_of rfl rfl rfl rfl)
abbrev hLt : R2 := rOrd (fun i j => decide (i < j)) (fun x y => decide (x < y))
abbrev hGe : R2 := rOrd (fun i j => decide (j ≤ i)) (fun x y => !decide (x < y))
end QL
namespace QL
open PySem PySem.Spec L2
def ItZ (K : PySem.W.Frag) (c d : Sr) : It :=
  ⟨fun i H => ∃ xs ys, SrAt K H c xs ∧ SrAt K H d ys ∧ i < xs.length ∧ i < ys.length,
    fun i H v H' => ∃ T x y, v = .ref T ∧ H T = none ∧ H' = upd H T (.tup [x, y]) ∧ (∀ xs, SrAt K H c xs → xs[i]? = some x) ∧ ∀ ys, SrAt K H d ys → ys[i]? = some y,
    fun i H => ∃ xs ys, SrAt K H c xs ∧ SrAt K H d ys ∧ min xs.length ys.length = i⟩
theorem Sr.addr_lt {X : Cx} {pins : List (Addr × Obj)} {σ : St} {H : Hp} {s : Shared} {c : Sr} {xs : List V} (I : Inv X pins σ H s) (h : SrAt X.K H c xs) : ∀ b ∈ c.addr, b < s.heap.objs.size := by
  cases c with
  | l a =>
    obtain ⟨its, rv, p, hz⟩ := I.list h
    intro b hb
    rw [List.mem_singleton.mp hb]
    exact p.lt
  | t a =>
    obtain ⟨its, rv, p, hz⟩ := I.tuple h
    obtain ⟨o, e, _⟩ := id p
    intro b hb
    rw [List.mem_singleton.mp hb]
    exact Heap.lt_size e
  | s x => exact fun b hb => nomatch hb
theorem turn_zipS {P : Program} {w : World} {K : PySem.W.Frag} {elts : List Expr} {kk : Nat} {tpos : Pos} {c d : Sr} {z TI TO i1 i2 : Addr} (S : ZipSep2 z TI TO i1 i2 (i1 :: c.addr) (i2 :: d.addr)) (n1 : i1 ∉ c.addr) (n2 : i2 ∉ d.addr) :
    Turn P w K (.Tuple elts kk tpos) (ItZ K c d) [z, TI, TO, i1, i2] z (fun i h => IsZip h z TI TO .none ∧ IsTupOf2 h TI (.ref i1) (.ref i2) ∧ (∃ a1 a2, IsTupOf2 h TO a1 a2) ∧ SrIt c i1 i h ∧ SrIt d i2 i h) where
  mem := by simp
  obj := fun i h st b hb => by
    obtain ⟨hz, hTI, ⟨x, y, hTO⟩, h1, h2⟩ := st
    have e' : b = z ∨ b = TI ∨ b = TO ∨ b = i1 ∨ b = i2 := by simpa using hb
    rcases e' with q | q | q | q | q
    · rw [q]; exact ⟨_, hz, fun v q => nomatch q⟩
    · rw [q]; exact ⟨_, hTI, fun v q => nomatch q⟩
    · rw [q]; exact ⟨_, hTO, fun v q => nomatch q⟩
    · rw [q]; exact h1.lives
    · rw [q]; exact h2.lives
  keep := fun i h h' st k => by
    obtain ⟨hz, hTI, ⟨x, y, hTO⟩, h1, h2⟩ := st
    exact ⟨k z (by simp) _ hz, k TI (by simp) _ hTI, ⟨x, y, k TO (by simp) _ hTO⟩, h1.keep fun o q => k i1 (by simp) o q, h2.keep fun o q => k i2 (by simp) o q⟩
  item := by
    intro X hP hw hK hc i pins s σ H E I hf st hg
    subst hP hw hK
    obtain ⟨xs, ys, hax, hay, hi1, hi2⟩ := hg
    obtain ⟨hz, hTI, hTO, h1, h2⟩ := st
    obtain ⟨P1, T1, D1, T10, T1it, hv1⟩ := src_draws I (I.ok.hd hc) hax h1 n1
    obtain ⟨P2, T2, D2, T20, T2it, hv2⟩ := src_draws I (I.ok.hd hc) hay h2 n2
    have G := GoesN.zip2 (elts := elts) (x1 := kk) (pos := tpos) S D1 D2
    have hlt : ∀ b ∈ [z, TI, TO, i1, i2], b < s.heap.objs.size := fun b hb => by
      obtain ⟨x, y, hTO⟩ := hTO
      have e' : b = z ∨ b = TI ∨ b = TO ∨ b = i1 ∨ b = i2 := by simpa using hb
      rcases e' with q | q | q | q | q
      · rw [q]; exact Heap.lt_size hz
      · rw [q]; exact Heap.lt_size hTI
      · rw [q]; exact Heap.lt_size hTO
      · rw [q]; obtain ⟨o, e, _⟩ := h1.lives; exact Heap.lt_size e
      · rw [q]; obtain ⟨o, e, _⟩ := h2.lives; exact Heap.lt_size e
    refine G.goes i s _ E (by omega) ⟨hz, hTI, hTO, T10, T20⟩ fun v h' tk hY st' hk _ => ?_
    obtain ⟨T, x, y, ev, hT, hx, hy, htup⟩ := hY
    subst ev
    obtain ⟨u, hu, ru⟩ := hv1 x hx
    obtain ⟨v, hv, rv⟩ := hv2 y hy
    have new : ObjOk X.prog X.w (upd H T (.tup [u, v])) h' T (.tup [u, v]) :=
      ⟨by show 2 ≤ sizeLine; decide, [x, y], .cons ru (.cons rv .nil), htup⟩
    have hk2 : ∀ b o, b ∉ [z, TI, TO, i1, i2] → s.heap.get? b = some o → h'.get? b = some o := fun b o hb e => hk b o (fun q => hb (by
      simp only [List.mem_cons, List.mem_nil_iff, or_false] at q ⊢
      rcases q with q | q | q | q
      · exact .inl q
      · exact .inr (.inr (.inl q))
      · exact .inr (.inr (.inr (.inl q)))
      · exact .inr (.inr (.inr (.inr q))))) e
    refine ⟨.ref T, _, I.turnedNew (t' := tk) (ch := [z, TI, TO, i1, i2]) hk2 hf hT new, rfl, ⟨T, u, v, rfl, I.hok.fresh hT, rfl, fun l hl => by rw [← SrAt.uniq I hax hl]; exact hu, fun l hl => by rw [← SrAt.uniq I hay hl]; exact hv⟩, ⟨st'.1, st'.2.1, st'.2.2.1, T1it _ _ st'.2.2.2.1, T2it _ _ st'.2.2.2.2⟩, fun b hb => ?_⟩
    rw [upd_ne (Nat.ne_of_lt (Nat.lt_of_lt_of_le (hlt b hb) hT))]
    exact (hf b hb).1
  done := by
    intro X hP hw hK hc i pins s σ H E I hf st hg
    subst hP hw hK
    obtain ⟨xs, ys, hax, hay, hi⟩ := hg
    subst hi
    obtain ⟨hz, hTI, hTO, h1, h2⟩ := st
    obtain ⟨P1, T1, D1, T10, T1it, hv1⟩ := src_draws I (I.ok.hd hc) hax h1 n1
    obtain ⟨P2, T2, D2, T20, T2it, hv2⟩ := src_draws I (I.ok.hd hc) hay h2 n2
    have G := GoesN.zip2 (elts := elts) (x1 := kk) (pos := tpos) S D1 D2
    refine G.stops s _ E ⟨hz, hTI, hTO, T10, T20⟩ fun h' tk hk _ => ?_
    refine I.turnedL (t' := tk) (ch := [z, TI, TO, i1, i2]) (fun b o hb e => hk b o (fun q => hb (by
      simp only [List.mem_cons, List.mem_nil_iff, or_false] at q ⊢
      rcases q with q | q | q | q
      · exact .inl q
      · exact .inr (.inr (.inl q))
      · exact .inr (.inr (.inr (.inl q)))
      · exact .inr (.inr (.inr (.inr q))))) e) hf
  self := fun A i s Q E st h => wpAny_pyIter_zip st.1 h
def SrIs (v : V) : Sr → Prop
  | .l a => v = .ref a
  | .t a => v = .ref a
  | .s x => v = .str x
/-- what iter makes of a source -/
theorem src_begins {X : Cx} {pins : List (Addr × Obj)} {σ : St} {H : Hp} {s : Shared} {c : Sr} {xs : List V} {v : V} {u : Value} (I : Inv X pins σ H s) (h : SrAt X.K H c xs) (hv : SrIs v c) (r : RelV v u) :
    ∃ (o : Obj) (Hy : Heap → Prop), Begins u o Hy ∧ Hy s.heap ∧ ∀ h' it, h'.get? it = some o → SrIt c it 0 h' := by
  cases c with
  | l a =>
    have hv : v = .ref a := hv
    subst hv
    cases r
    obtain ⟨its, rv, p, hz⟩ := I.list h
    exact ⟨_, _, begins_list a its.toArray, p.isList, fun h' it e => ⟨_, e, rfl, rfl⟩⟩
  | t a =>
    have hv : v = .ref a := hv
    subst hv
    cases r
    obtain ⟨its, rv, p, hz⟩ := I.tuple h
    exact ⟨_, _, begins_tuple a its.toArray, p, fun h' it e => ⟨_, e, rfl, rfl⟩⟩
  | s x =>
    have hv : v = .str x := hv
    subst hv
    obtain ⟨t, rfl⟩ := r
    exact ⟨_, _, begins_text x t, trivial, fun h' it e => ⟨t, _, e, rfl, rfl⟩⟩
section
variable {X : Cx} {e e2 e3 : Expr} {te : TE} {tl : TA} {p pos tpos : Pos} {elts : List Expr} {kk : Nat}
/-- a value as a source -/
def SrV (K : PySem.W.Frag) (H : Hp) (v : V) (c : Sr) : Prop := SrIs v c ∧ ∃ xs, SrAt K H c xs
/-- zip of two -/
def iZipS (K : PySem.W.Frag) (ta : TA) : TI := fun σ H R => ta σ H fun vs H1 => ∃ v1 v2 c d, vs = [v1, v2] ∧ SrV K H1 v1 c ∧ SrV K H1 v2 d ∧ R (ItZ K c d) H1
theorem pi_zipS (hg : Gl X "zip") (hm : X.mg "zip" = none) (ha : PA X [e, e2] tl) (hs : starEach [e, e2] X.env = (false, eval e X.env) :: starEach [e2] X.env := by rfl) (hpl : (backTo pos (starEach [e2] X.env)).any (·.1) = false := by rfl) :
    PI X (.Tuple elts kk tpos) (.Call (.Name "zip" p) [e, e2] [] pos) (iZipS X.K tl) := by
  refine ⟨fun pins s σ H R I h => ?_⟩
  refine PyProof.Rows.Call_ (ld_blt I hg hm PyProof.Rows.boot_zip (PyProof.Rows.callWith_type1 (thn (ha.run pos pins s σ H _ I h) fun us s1 ⟨vs, H1, I1, rv, q1⟩ => ?_) hs hpl))
  obtain ⟨v1, v2, c, d, ev, ⟨w1, xs, ax⟩, ⟨w2, ys, ay⟩, q⟩ := q1
  subst ev
  cases rv with
  | cons r1 rr =>
    cases rr with
    | cons r2 rr =>
      cases rr
      obtain ⟨o1, Y1, B1, y1, f1⟩ := src_begins I1 ax w1 r1
      obtain ⟨o2, Y2, B2, y2, f2⟩ := src_begins I1 ay w2 r2
      have l1 := Sr.addr_lt I1 ax
      have l2 := Sr.addr_lt I1 ay
      have fp2 : ∀ b, b ∈ [s1.heap.objs.size + 4, s1.heap.objs.size + 2, s1.heap.objs.size + 3, s1.heap.objs.size, s1.heap.objs.size + 1] → FpOk X pins H1 b := fun b hb => by
        have hle : s1.heap.objs.size ≤ b := by
          simp only [List.mem_cons, List.mem_nil_iff, or_false] at hb
          rcases hb with q | q | q | q | q
          · rw [q]; exact Nat.le_add_right _ _
          · rw [q]; exact Nat.le_add_right _ _
          · rw [q]; exact Nat.le_add_right _ _
          · rw [q]; exact Nat.le_refl _
          · rw [q]; exact Nat.le_add_right _ _
        exact I1.fpOk hle (I1.hok.fresh hle)
      refine zip_begins2 B1 B2 y1 y2 fun h' hz hTI hTO g1 g2 hsz hk => wpAny_pyIter_zip hz ?_
      exact ⟨s1.heap.objs.size + 4, [s1.heap.objs.size + 4, s1.heap.objs.size + 2, s1.heap.objs.size + 3, s1.heap.objs.size, s1.heap.objs.size + 1], _, _, H1, rfl, I1.kept (t' := s1.toks) hk,
        turn_zipS (zip_sep2 l1 l2) (fun z => absurd (l1 _ z) (Nat.lt_irrefl _)) (fun z => absurd (l2 _ z) (Nat.not_lt.mpr (Nat.le_succ _))), ⟨hz, hTI, ⟨_, _, hTO⟩, f1 _ _ g1, f2 _ _ g2⟩, fp2, q⟩
end
def zipL (ds es : List D) : List D := List.zipWith (fun d e => .tuple [d, e]) ds es
def fZip (FL : S → Res (List D)) : S → Res (List D) := fun r => (FL r).bind fun ds r => match ds with
  | [x, y] => match itemsD x, itemsD y with
    | some ds, some es => Res.ok (zipL ds es) r
    | _, _ => Res.bad
  | _ => Res.bad
theorem zipL_len (ds es : List D) : (zipL ds es).length = min ds.length es.length := by simp [zipL]
theorem zipL_get {ds es : List D} {i : Nat} {x : D} (h : (zipL ds es)[i]? = some x) : ∃ d e, ds[i]? = some d ∧ es[i]? = some e ∧ x = .tuple [d, e] := by
  unfold zipL at h
  rw [List.getElem?_zipWith] at h
  cases e1 : ds[i]? with
  | none => rw [e1] at h; cases h
  | some d =>
    cases e2 : es[i]? with
    | none => rw [e1, e2] at h; cases h
    | some e => rw [e1, e2] at h; cases h; exact ⟨d, e, rfl, rfl, rfl⟩
theorem ylds_zip {K : PySem.W.Frag} {O : List Addr} {H : Hp} {c d : Sr} {ds es : List D} (ow : Own O H) (h : SrD K O H c ds) (h2 : SrD K O H d es) : Ylds K O H (ItZ K c d) (zipL ds es) := by
  intro O' H' ow' st i
  have h' := h.stab ow st
  have h2' := h2.stab ow st
  obtain ⟨vs, ha, rs⟩ := h'.at
  obtain ⟨ws, hb, rt⟩ := h2'.at
  rw [zipL_len]
  refine ⟨fun hi => ⟨⟨vs, ws, ha, hb, by rw [rs.len]; omega, by rw [rt.len]; omega⟩, fun x H2 ⟨T, y, z, ex, hT, eH, hy, hz⟩ => ?_⟩, fun hi => ⟨vs, ws, ha, hb, by rw [rs.len, rt.len, hi]⟩⟩
  subst ex eH
  refine ⟨upd_kept hT, fun q hq => ?_⟩
  obtain ⟨d', e', hd', he', ed⟩ := zipL_get hq
  subst ed
  obtain ⟨u, hu, ru⟩ := rs.get hd'
  obtain ⟨v, hv, rv⟩ := rt.get he'
  have q1 := hy vs ha
  have q2 := hz ws hb
  rw [hu] at q1
  rw [hv] at q2
  obtain rfl : u = y := Option.some.inj q1
  obtain rfl : v = z := Option.some.inj q2
  have st2 : Stab O' H' O' (upd H' T (.tup [u, v])) := Stab.weak (fun _ z => z) (upd_kept hT)
  simp only [R]
  refine ⟨T, _, rfl, upd_same, ?_⟩
  simp only [Rs]
  exact ⟨_, _, rfl, R.stab ow' st2 _ _ ru, _, _, rfl, R.stab ow' st2 _ _ rv, rfl⟩
section
variable {X : Cx} {W : WX} {e e2 e3 : Expr} {te : TE} {tl : TA} {FL : S → Res (List D)} {p pos tpos : Pos} {elts : List Expr} {kk : Nat}
theorem srV_of {K : PySem.W.Frag} {O : List Addr} {H : Hp} {d : D} {ds : List D} {v : V} (h : R K O H d v) (e : itemsD d = some ds) : ∃ c, SrV K H v c ∧ SrD K O H c ds := by
  rcases srD_of h e with ⟨a, ev, q, _⟩ | ⟨a, ev, q, _⟩ | ⟨x, ev, q, _⟩
  · obtain ⟨vs, q1, _⟩ := q.at
    exact ⟨.l a, ⟨ev, vs, q1⟩, q⟩
  · obtain ⟨vs, q1, _⟩ := q.at
    exact ⟨.t a, ⟨ev, vs, q1⟩, q⟩
  · obtain ⟨vs, q1, _⟩ := q.at
    exact ⟨.s x, ⟨ev, vs, q1⟩, q⟩
theorem sim_zip {K : PySem.W.Frag} {mg : Str → Option Value} (h : Sim K mg W (PL K) tl FL) : Sim K mg W (PIt K) (iZipS K tl) (fZip FL) := by
  intro γ Oc r σ H fs g
  refine SimAt.bind (t2 := fun (vs : List V) (H1 : Hp) (R : It → Hp → Prop) => ∃ v1 v2 c d, vs = [v1, v2] ∧ SrV K H1 v1 c ∧ SrV K H1 v2 d ∧ R (ItZ K c d) H1) (h γ Oc r σ H fs g) fun ds r1 vs H1 pp => ?_
  split
  · split
    · rename_i x y xs ys ex ey
      obtain ⟨fs1, g1, v1, s1⟩ := pp
      simp only [Rs] at v1
      obtain ⟨v, ws, e1, r1, v', ws', e2, r2, e3⟩ := v1
      subst e1 e2 e3
      obtain ⟨c, c1, c2⟩ := srV_of r1 ex
      obtain ⟨d, d1, d2⟩ := srV_of r2 ey
      exact fun Q hq => ⟨_, _, c, d, rfl, c1, d1, hq _ _ ⟨fs1, g1, ylds_zip g1.ow c2 d2, s1⟩⟩
    · exact fun Q => trivial
  · exact fun Q => trivial
theorem ix_zip (hg : Gl X "zip") (hm : X.mg "zip" = none) (ha : AX X W [e, e2] tl FL) (hs : starEach [e, e2] X.env = (false, eval e X.env) :: starEach [e2] X.env := by rfl) (hpl : (backTo pos (starEach [e2] X.env)).any (·.1) = false := by rfl) : IX X W (.Tuple elts kk tpos) (.Call (.Name "zip" p) [e, e2] [] pos) (iZipS X.K tl) (fZip FL) := ⟨pi_zipS hg hm ha.pe hs hpl, sim_zip ha.sim⟩
end
end QL
namespace QS
open PySem PySem.Spec PyProof.Rows L2
abbrev kT (P : Program) (w : World) := PySem.strKind P w
def tkOf (e : Int × Value) : Str := match e.2 with
  | .str k _ => k
  | _ => Str.empty
def OkE (P : Program) (w : World) (e : Int × Value) : Prop := ∃ z u, e.2 = Value.str z u ∧ e.1 = (kT P w).hash z
/-- the set at b has the texts of zs -/
def SetS (P : Program) (w : World) (h : Heap) (b : Addr) (zs : List Str) : Prop :=
  ∃ ob ents ep tab, h.get? b = some ob ∧ ob.ExactSet ∧ ob.data = .set ents ep tab ∧ (∀ e ∈ ents.toList, OkE P w e) ∧ (ents.toList.map tkOf).Perm zs ∧ zs.Nodup ∧
    ents.size < scanBound ∧ tab.fits ents.size = true ∧ Ris tab.place.toList ∧ (w.params.followText "set-order" = true ∨ tab.led = true)
section
variable {P : Program} {w : World} {h h' : Heap} {b : Addr} {zs : List Str}
theorem SetS.keep (G : SetS P w h b zs) (k : ∀ o, h.get? b = some o → h'.get? b = some o) : SetS P w h' b zs := by
  obtain ⟨ob, ents, ep, tab, g1, gs⟩ := G
  exact ⟨ob, ents, ep, tab, k ob g1, gs⟩
end
end QS
namespace QS
open PySem PySem.Spec PyProof.Rows L2
def insU (c : Nat) : List Nat → List Nat
  | [] => [c]
  | d :: r => if c < d then c :: d :: r else if c = d then d :: r else d :: insU c r
def sortU (l : List Nat) : List Nat := l.foldr insU []
end QS
namespace QL
open PySem PySem.Spec L2
section
variable {X : Cx} {W : WX} {a : Expr} {ta : TE} {fa : S → Res D} {p p2 q pos : Pos}
def dSortSet : D → Option OV
  | .str z => if z.length < 4000 then some (.nl ((QS.sortU z.cps.toList).map fun c => .str (tx [c]))) else none
  | _ => none
end
end QL
namespace QZ
open PySem PySem.Spec PyProof.Rows L2
/-- the zip, at turn k: its tuple free, or still out -/
def ZAt (h : Heap) (z TI TO i1 i2 l1 l2 q : Addr) (k : Nat) : Prop := IsPair h TI (.ref i1) (.ref i2) ∧ h.IsListIter i1 l1 k ∧ h.IsListIter i2 l2 k ∧
  ((IsZip h z TI TO .none ∧ ∃ a b, IsPair h TO a b) ∨ ∃ T f oT, IsZipHeld h z TI TO T f ∧ h.get? T = some oT ∧ T ≠ z ∧ T ≠ TO ∧ T ≠ i1 ∧ T ≠ i2 ∧ T ≠ q)
section
variable {P : Program} {w : World} {A : Around} {E : Value → Shared → Prop} {s : Shared} {z TI TO i1 i2 l1 l2 q : Addr} {k : Nat} {xs ys : Array Value}
theorem ZAt.type (Z : ZAt s.heap z TI TO i1 i2 l1 l2 q k) : s.TypeIs (.ref z) "zip" := by
  obtain ⟨_, _, _, ⟨h, _⟩ | ⟨T, f, oT, h, _⟩⟩ := Z
  · exact ⟨_, h, rfl⟩
  · exact ⟨_, h, rfl⟩
theorem ZAt.keep {h h' : Heap} (Z : ZAt h z TI TO i1 i2 l1 l2 q k) (kp : ∀ b o, b ≠ q → h.get? b = some o → h'.get? b = some o) (n1 : z ≠ q) (n2 : TI ≠ q) (n3 : TO ≠ q) (n4 : i1 ≠ q) (n5 : i2 ≠ q) : ZAt h' z TI TO i1 i2 l1 l2 q k := by
  obtain ⟨a, b, c, d⟩ := Z
  refine ⟨kp _ _ n2 a, b.at fun o e => kp _ o n4 e, c.at fun o e => kp _ o n5 e, ?_⟩
  rcases d with ⟨d, u, v, e⟩ | ⟨T, f, oT, d, e, r⟩
  · exact .inl ⟨kp _ _ n1 d, u, v, kp _ _ n3 e⟩
  · exact .inr ⟨T, f, oT, kp _ _ n1 d, kp _ _ r.2.2.2.2 e, r⟩
end
theorem SqL.mono {K : PySem.W.Frag} {H H' : Hp} {a : Addr} {xs : List V} (h : SqL K H a xs) (k : ∀ b o, H b = some o → H' b = some o) : SqL K H' a xs := by
  rcases h with (h | ⟨o, h⟩) | h
  · exact .inl (.inl (k _ _ h))
  · exact .inl (.inr ⟨o, k _ _ h⟩)
  · exact .inr h
end QZ
namespace QL
open PySem PySem.Spec L2
section
variable {X : Cx} {W : WX} {e e2 : Expr} {tl : TA} {FL : S → Res (List D)} {p p2 q pos : Pos}
def fListZip (FL : S → Res (List D)) : S → Res SV := fun r => (FL r).bind fun ds r => match ds with
  | [.list xs, .list ys] => Res.ok (SV.ol (zipL xs ys)) r
  | _ => Res.bad
def sAug (i : Nat) (op : Int → Int → Int) (F : S → Res D) : S → RS := fun r => match r.sl[i]? with
  | some (some (.fz (.int a))) => (F r).bindS fun d r => match d with
    | .int b => setS i (.fz (.int (op a b))) r
    | _ => RS.bad
  | _ => RS.bad
variable {te : TE} {FF : S → Res D} {i : Nat} {x : Str} {op : Operator} {f : Int → Int → Int} {p3 : Pos}
def sUnp (F : S → Res D) (G : D → S → Option S) : S → RS := fun r => (F r).bindS fun d r => match G d r with
  | some r => RS.nx r
  | none => RS.bad
end
end QL
namespace QL
open PySem PySem.Spec L2
section
variable {K : PySem.W.Frag} {mg : Str → Option Value} {W : WX} {γ : Gh} {Oc : List Addr} {r r' : S} {σ σ' : St} {H H' : Hp} {fs fs' f2 fp : List Addr}
theorem TapeR.keep {t : Option (Int × Int)} (tp : TapeR γ H t f2) (k : ∀ a ∈ f2, ∀ o, H a = some o → isTbl o = false → H' a = some o) : TapeR γ H' t f2 := by
  cases t with
  | none => exact tp
  | some t =>
    obtain ⟨a, e1, e2, e3⟩ := tp
    exact ⟨a, e1, k a (by rw [e3]; simp) _ e2 rfl, e3⟩
end
end QL
namespace QL
open PySem PySem.Spec L2
theorem CallR.or {X : Cx} {f : Value} {r1 r2 : List V → Hp → VK → Prop} (h1 : CallR X f r1) (h2 : CallR X f r2) : CallR X f (fun vs H Q => r1 vs H Q ∨ r2 vs H Q) := fun pins s σ H xs us Q I r q => by
  rcases q with q | q
  · exact h1 pins s σ H xs us Q I r q
  · exact h2 pins s σ H xs us Q I r q
def dSumA : List D → Option OV
  | [.list ds] => match intsD ds with
    | some ns => some (.fz (.int ns.sum))
    | _ => none
  | [.tuple ds] => match intsD ds with
    | some ns => some (.fz (.int ns.sum))
    | _ => none
  | _ => none
/-- keys -/
def keyD : D → Option Key
  | .int i => some (.inl i)
  | .str x => some (.inr x)
  | _ => none
theorem keyD_kD (c : Key) : keyD (kD c) = some c := by cases c <;> rfl
def putD (kvs : List (D × D)) (c : Key) (v : D) : List (D × D) :=
  if (kvs.any fun p => decide (keyD p.1 = some c)) = true then kvs.map (fun p => if keyD p.1 = some c then (p.1, v) else p) else kvs ++ [(kD c, v)]
section
variable {K : PySem.W.Frag} {O : List Addr} {H : Hp}
theorem RK.any (c : Key) : ∀ {kvs : List (D × D)} {ws : List (Key × V)}, RK K O H kvs ws → (kvs.any fun p => decide (keyD p.1 = some c)) = ws.any fun p => decide (p.1 = c)
  | [], _, h => by simp only [RK] at h; subst h; rfl
  | (k, d) :: r, _, h => by
    simp only [RK] at h
    obtain ⟨c', v, ws, e, e2, h1, h2⟩ := h
    subst e e2
    rw [List.any_cons, List.any_cons, RK.any c h2, keyD_kD]
    simp
theorem RK.repl (c : Key) {x : D} {y : V} (hx : R K O H x y) : ∀ {kvs : List (D × D)} {ws : List (Key × V)}, RK K O H kvs ws → RK K O H (kvs.map fun p => if keyD p.1 = some c then (p.1, x) else p) (ws.map fun p => if p.1 = c then (p.1, y) else p)
  | [], _, h => by simp only [RK] at h; subst h; simp [RK]
  | (k, d) :: r, _, h => by
    simp only [RK] at h
    obtain ⟨c', v, ws, e, e2, h1, h2⟩ := h
    subst e e2
    rw [List.map_cons, List.map_cons]
    by_cases q : c' = c
    · subst q
      simp only [keyD_kD, if_true, RK]
      exact ⟨c', y, _, rfl, rfl, hx, RK.repl c' hx h2⟩
    · have q' : ¬ (keyD (kD c') = some c) := by rw [keyD_kD]; simpa using q
      simp only [if_neg q', if_neg q, RK]
      exact ⟨c', v, _, rfl, rfl, h1, RK.repl c hx h2⟩
theorem RK.snoc (c : Key) {x : D} {y : V} (hx : R K O H x y) : ∀ {kvs : List (D × D)} {ws : List (Key × V)}, RK K O H kvs ws → RK K O H (kvs ++ [(kD c, x)]) (ws ++ [(c, y)])
  | [], _, h => by
    simp only [RK] at h; subst h
    simp only [List.nil_append, RK]
    exact ⟨c, y, [], rfl, rfl, hx, rfl⟩
  | (k, d) :: r, _, h => by
    simp only [RK] at h
    obtain ⟨c', v, ws, e, e2, h1, h2⟩ := h
    subst e e2
    simp only [List.cons_append, RK]
    exact ⟨c', v, _, rfl, rfl, h1, RK.snoc c hx h2⟩
theorem RK.put (c : Key) {x : D} {y : V} (hx : R K O H x y) {kvs : List (D × D)} {ws : List (Key × V)} (h : RK K O H kvs ws) : RK K O H (putD kvs c x) (putK ws c y) := by
  unfold putD putK
  rw [RK.any c h]
  split
  · exact RK.repl c hx h
  · exact RK.snoc c hx h
end
def sPutK (i : Nat) (FV FK : S → Res D) : S → RS := fun r => (FV r).bindS fun v r => match r.sl[i]? with
  | some (some (.od _)) => (FK r).bindS fun k r => match keyD k, r.sl[i]? with
    | some c, some (some (.od kvs)) => if kvs.length < sizeLine then RS.nx { r with sl := r.sl.set i (some (.od (putD kvs c v))) } else RS.bad
    | _, _ => RS.bad
  | _ => RS.bad
section
variable {X : Cx} {W : WX} {a b e : Expr} {ta tv tk : TE} {fv fk : S → Res D} {i : Nat} {pos pos' : Pos}
/-- len of a slot's dict -/
def fLenK (i : Nat) : S → Res SV := fun r => match r.sl[i]? with
  | some (some (.od kvs)) => .ok (.fz (.int (kvs.length : Nat))) r
  | _ => .bad
end
end QL
namespace QL
open PySem PySem.Spec L2
def fMtL (op : D → List D → Option OV) (fa : S → Res D) (FL : S → Res (List D)) : S → Res SV := fun r => (fa r).bind fun x r => match x with
  | .list xs => (FL r).bind fun ds r => ovR (op (.list xs) ds) r
  | _ => Res.bad
end QL
namespace QL
open PySem PySem.Spec L2
section
variable {X : Cx} {W : WX} {tg a b c : Expr} {tl : TA} {FL : S → Res (List D)} {p pos : Pos} {tA tB tC : TT} {FA FB FC : S → Res Bool}
def eIfT (T A B : S → Res Bool) : S → Res Bool := fun r => (T r).bind fun b r => if b then A r else B r
end
end QL
namespace QL
open PySem PySem.Spec L2
def flat1 : D → Bool
  | .list _ => false
  | .dict _ => false
  | .tuple ds => ds.all flat0
  | _ => true
def flatD : D → Bool
  | .list _ => false
  | .dict _ => false
  | .tuple ds => ds.all flat1
  | _ => true
def flatAll (ds : List D) : Bool := ds.all flatD
section
variable {K : PySem.W.Frag} {O O' : List Addr} {H : Hp}
theorem Rs.flatP {p : D → Bool} (hp : ∀ d v, p d = true → R K O H d v → R K O' H d v) : ∀ (ds : List D) (vs : List V), ds.all p = true → Rs K O H ds vs → Rs K O' H ds vs
  | [], vs, _, h => by simpa [Rs] using h
  | d :: ds, vs, f, h => by
    simp only [Rs] at h ⊢
    simp only [List.all_cons, Bool.and_eq_true] at f
    obtain ⟨v, ws, e, h1, h2⟩ := h
    exact ⟨v, ws, e, hp d v f.1 h1, Rs.flatP hp ds ws f.2 h2⟩
theorem R.flat0 (d : D) (v : V) (f : flat0 d = true) (h : R K O H d v) : R K O' H d v := by
  cases d with
  | list _ => cases f
  | dict _ => cases f
  | tuple _ => cases f
  | _ => simpa [R] using h
theorem R.flat1 (d : D) (v : V) (f : flat1 d = true) (h : R K O H d v) : R K O' H d v := by
  cases d with
  | list _ => cases f
  | dict _ => cases f
  | tuple ds =>
    simp only [R] at h ⊢
    obtain ⟨a, vs, e, h1, h2⟩ := h
    exact ⟨a, vs, e, h1, Rs.flatP R.flat0 ds vs f h2⟩
  | _ => simpa [R] using h
theorem R.flat (d : D) (v : V) (f : flatD d = true) (h : R K O H d v) : R K O' H d v := by
  cases d with
  | list _ => cases f
  | dict _ => cases f
  | tuple ds =>
    simp only [R] at h ⊢
    obtain ⟨a, vs, e, h1, h2⟩ := h
    exact ⟨a, vs, e, h1, Rs.flatP R.flat1 ds vs f h2⟩
  | _ => simpa [R] using h
theorem Rs.flat (ds : List D) (vs : List V) (f : flatAll ds = true) (h : Rs K O H ds vs) : Rs K O' H ds vs := Rs.flatP R.flat ds vs f h
end
def outV (R : FR) (r : S) : Res SV := match R with
  | .ok (.fz d) _ => if flatD d = true then .ok (.fz d) r else .bad
  | .ok (.ol ds) _ => if flatAll ds = true then .ok (.ol ds) r else .bad
  | .exc c f _ => if flatAll (f.map (·.2)) = true then .exc c f r else .bad
  | _ => .bad
def fCallV (n : Nat) (F : List D → FR) (FL : S → Res (List D)) : S → Res SV := fun r => (FL r).bind fun ds r => if ds.length = n then outV (F ds) r else .bad
section
variable {K : PySem.W.Frag} {mg : Str → Option Value} {W : WX} {γ : Gh} {Oc : List Addr} {O : List Addr} {H : Hp} {tl : TA} {n : Nat} {F : List D → FR} {FL : S → Res (List D)}
theorem REs.all (ow : Own O H) : ∀ {ds : List D} {vs : List V}, REs K γ O H ds vs → Rs K [] H ds vs
  | [], vs, h => by
    have h : vs = [] := h
    subst h; simp [Rs]
  | d :: ds, vs, h => by
    obtain ⟨v, ws, e, h1, h2⟩ := h
    simp only [Rs]
    exact ⟨v, ws, e, h1.all ow, REs.all ow h2⟩
theorem sim_callV (h : Sim K mg W (PLb K) tl FL) : Sim K mg W (PV K) (tCallS (spF K mg n F) (WE W) tl) (fCallV n F FL) := by
  intro γ Oc r σ H fs g
  refine SimAt.bind (t2 := fun (vs : List V) (H1 : Hp) (Q : VK) => spF K mg n F vs H1 Q (WE W σ)) (h γ Oc r σ H fs g) fun ds r1 vs H1 ⟨fs1, g1, v1, s1⟩ => ?_
  refine SimAt.tr s1 ?_
  split
  · rename_i hn
    have va := REs.all g1.ow v1
    intro Q
    unfold outV
    cases eF : F ds with
    | bad => trivial
    | ok y tp =>
      cases y with
      | fz d =>
        dsimp only
        by_cases ho : flatD d = true
        · rw [if_pos ho]
          intro hq
          refine ⟨ds, [], by rw [va.len, hn], by simp [Own], by simp, va, ?_⟩
          rw [eF]
          refine ⟨rfl, fun H' v fp kp nd nw ow hv => hq v H' ?_⟩
          have g2 := g1.kept kp
          exact ⟨fs1, [], by simpa using g2, ⟨R.flat _ _ ho hv.1, rfl⟩, Stp.same _ _ kp, by simp⟩
        · rw [if_neg ho]; trivial
      | ol xs =>
        dsimp only
        by_cases ho : flatAll xs = true
        · rw [if_pos ho]
          intro hq
          refine ⟨ds, [], by rw [va.len, hn], by simp [Own], by simp, va, ?_⟩
          rw [eF]
          refine ⟨rfl, fun H' v fp kp nd nw ow hv => hq v H' ?_⟩
          obtain ⟨a, us, e1, e2, e3, e4⟩ := hv
          exact ⟨fs1, fp, g1.grow kp nw nd ow, ⟨a, us, e1, e2, Rs.flat _ _ ho e3, e4⟩, Stp.same _ _ kp, nw⟩
        · rw [if_neg ho]; trivial
      | _ => trivial
    | exc c fl tp =>
      dsimp only
      by_cases ho : flatAll (fl.map (·.2)) = true
      · rw [if_pos ho]
        intro hw
        refine ⟨ds, [], by rw [va.len, hn], by simp [Own], by simp, va, ?_⟩
        rw [eF]
        refine fun C d H' kp m x => hw C d H' ⟨fs1, g1.kept kp, Stp.same _ _ kp, m, ?_⟩
        rcases x with x | ⟨dd, ws, q1, q2, q3, q4⟩
        · exact .inl x
        · exact .inr ⟨dd, ws, q1, q2, q3, Rs.flat _ _ ho q4⟩
      · rw [if_neg ho]; trivial
  · exact fun Q => trivial
end
section
variable {X : Cx} {W : WX} {k k2 n : Nat} {x : Str} {p pos : Pos} {e : Expr} {es : List Expr} {tl : TA} {FL : S → Res (List D)}
theorem ex_callV {FD : List D → FR} (h : DefF X.prog X.w X.K X.mg X.base x k n FD) (hG : X.A.guards = some []) (hr : Room k2 X.A) (tk : Takes X W) (ha : BAX X W (e :: es) tl FL) (hk : k ≤ k2 := by decide) (hg : Gl X x := by rfl)
    (hdb : (x == ("__debug__" : Str)) = false := by decide) (he : starEach (e :: es) X.env = (false, eval e X.env) :: starEach es X.env := by rfl) (hpl : (backTo pos (starEach es X.env)).any (·.1) = false := by rfl) :
    EX X W (.Call (.Name x p) (e :: es) [] pos) (tCallS (spF X.K X.mg n FD) (WE W) tl) (fCallV n FD FL) := by
  obtain ⟨f, fd, ps, h1, h2, h3, h4⟩ := h.ex
  exact ⟨pe_callF h1 hG (hr.mono hk) hg h2 h3 h4 tk ha.pe hdb he hpl, sim_callV ha.sim⟩
end
end QL
namespace QL
open PySem PySem.Spec L2
end QL
namespace QL
open PySem PySem.Spec L2
section
variable {X : Cx} {W : WX} {a b c e2 : Expr} {tl : TA} {te : TE} {FL : S → Res (List D)} {fe : S → Res D} {p p2 q pos tpos : Pos} {elts : List Expr} {kk : Nat}
def downL (i : Int) (n : Nat) : List D := (List.range n).map fun k => .int (i - (k : Nat))
def fZipR (FL : S → Res (List D)) (fe : S → Res D) : S → Res (List D) := fun r => (FL r).bind fun ds r => match intsD ds with
  | some [i, j, c] => if sml i = true ∧ sml j = true ∧ c = -1 then (fe r).bind fun d r => match itemsD d with
    | some es => Res.ok (zipL (downL i (i - j).toNat) es) r
    | _ => Res.bad else Res.bad
  | _ => Res.bad
instance {K : PySem.W.Frag} : PstT (PIt K) := ⟨fun s ⟨f, a, b, c⟩ => ⟨f, a, b, s.trans c⟩⟩
end
end QL
namespace QL
open PySem PySem.Spec L2
end QL
namespace QL
open PySem PySem.Spec L2
def showOk (d : D) : Bool := d.plain && d.showable && decide (d.depth ≤ 60) && decide (d.shown.length ≤ sizeLine)
def dRepr : List D → Option OV
  | [d] => if showOk d = true then some (.fz (.str d.shown)) else none
  | _ => none
def dJoin : D → List D → Option OV
  | .str a, [.list ds] => (strsD ds).bind fun ys => if (ys.map (·.length)).sum + ys.length * a.length ≤ 1000000 then some (.fz (.str (Txt.join a ys))) else none
  | _, _ => none
def rJoin (K : PySem.W.Frag) : V → List V → Hp → VK → Prop := fun x xs H Q => ∃ a p, ∃ ys : List Str, x = .str a ∧ xs = [.ref p] ∧ (SqL K H p (ys.map V.str) ∨ SqT K H p (ys.map V.str)) ∧
    (ys.map (·.length)).sum + ys.length * a.length ≤ 16777216 ∧ Q (.str (Txt.join a ys)) H
theorem opm_join {K : PySem.W.Frag} : OpM K (rJoin K) dJoin := by
  intro γ O H x ds vs z Q ow h e hq
  unfold dJoin at e
  split at e
  · rename_i a xs e1
    cases e1
    simp only [Option.bind_eq_some_iff] at e
    obtain ⟨ys, e2, e3⟩ := e
    split at e3
    · rename_i hl
      cases e3
      obtain ⟨v, ws, q1, r1, q2⟩ := h
      obtain ⟨p, us, p1, p2, p3⟩ := r1.tracked
      refine ⟨_, p, ys, rfl, by rw [q1, q2, p1], .inl (.inl (.inl ?_)), by omega, hq _ (by simp [R])⟩
      rw [← p3.strs e2]; exact p2
    · cases e3
  · cases e
end QL
namespace QL
open PySem PySem.Spec L2
def pickL {α : Type} (perm : List Nat) (l : List α) : List α := perm.filterMap fun i => l[i]?
theorem Vals.at? : ∀ {vs : List V} {us : List Value} (r : Vals vs us) (i : Nat), (∃ v u, vs[i]? = some v ∧ us[i]? = some u ∧ RelV v u) ∨ (vs[i]? = none ∧ us[i]? = none)
  | [], _, .nil, i => .inr ⟨by simp, by simp⟩
  | v :: vs, _, .cons h r, 0 => .inl ⟨v, _, rfl, rfl, h⟩
  | v :: vs, _, .cons h r, i + 1 => by simpa using Vals.at? r i
theorem Vals.pick {vs : List V} {us : List Value} (r : Vals vs us) : ∀ perm : List Nat, Vals (pickL perm vs) (pickL perm us)
  | [] => .nil
  | i :: perm => by
    rcases Vals.at? r i with ⟨v, u, h1, h2, h3⟩ | ⟨h1, h2⟩
    · simp only [pickL, List.filterMap_cons, h1, h2]
      exact .cons h3 (Vals.pick r perm)
    · simp only [pickL, List.filterMap_cons, h1, h2]
      exact Vals.pick r perm
theorem Rs.at? {K : PySem.W.Frag} {O : List Addr} {H : Hp} : ∀ {ds : List D} {vs : List V} (r : Rs K O H ds vs) (i : Nat), (∃ d v, ds[i]? = some d ∧ vs[i]? = some v ∧ R K O H d v) ∨ (ds[i]? = none ∧ vs[i]? = none)
  | [], vs, r, i => by simp only [Rs] at r; subst r; exact .inr ⟨by simp, by simp⟩
  | d :: ds, vs, r, i => by
    simp only [Rs] at r
    obtain ⟨v, ws, e, h1, h2⟩ := r
    subst e
    match i with
    | 0 => exact .inl ⟨d, v, rfl, rfl, h1⟩
    | i + 1 => simpa using Rs.at? h2 i
theorem Rs.pick {K : PySem.W.Frag} {O : List Addr} {H : Hp} {ds : List D} {vs : List V} (r : Rs K O H ds vs) : ∀ perm : List Nat, Rs K O H (pickL perm ds) (pickL perm vs)
  | [] => by simp [pickL, Rs]
  | i :: perm => by
    rcases Rs.at? r i with ⟨d, v, h1, h2, h3⟩ | ⟨h1, h2⟩
    · simp only [pickL, List.filterMap_cons, h1, h2, Rs]
      exact ⟨v, _, rfl, h3, Rs.pick r perm⟩
    · simp only [pickL, List.filterMap_cons, h1, h2]
      exact Rs.pick r perm
theorem pickL_len {α : Type} {l : List α} : ∀ {perm : List Nat}, (∀ i ∈ perm, i < l.length) → (pickL perm l).length = perm.length
  | [], _ => rfl
  | i :: perm, h => by
    have hi : i < l.length := h i (by simp)
    simp only [pickL, List.filterMap_cons, List.getElem?_eq_getElem hi, List.length_cons]
    exact congrArg (· + 1) (pickL_len fun j hj => h j (List.mem_cons_of_mem _ hj))
/-- how a call by names alone binds -/
def KB (K : PySem.W.Frag) (fd : FuncData) (ps ks : List Str) (perm : List Nat) : Prop := ∀ (s : Shared) (ws : List Value), K.In s.heap → ws.length = ks.length → BindsTo s fd ⟨[], ks.zip ws⟩ (ps.zip (pickL perm ws))
theorem Fun.kb {K : PySem.W.Frag} {x qual : Str} {st : Stmt} {f : Addr} {fd : FuncData} (F : Fun K x qual st f fd) {ps ks : List Str} {perm : List Nat}
    (h : ∀ (kV doc pm : Value) (an : Option Addr) (cdv ct : Value) (ws : List Value), ws.length = ks.length → bindArgs (PySem.W.fnOf x qual (defArgs st) (defBody st) (defScope st) .none kV doc pm an cdv ct) ⟨[], ks.zip ws⟩ = pure (ps.zip (pickL perm ws))) : KB K fd ps ks perm := by
  obtain ⟨oc, od, kV, doc, pm, an, cdv, ct, osl, rfl, lk, hcd⟩ := F.ex
  exact fun s ws _ hl => .of_eq (h kV doc pm an cdv ct ws hl)
structure DefK (P : Program) (w : World) (K : PySem.W.Frag) (mg : Str → Option Value) (base : Heap) (x : Str) (k n : Nat) (ks : List Str) (perm : List Nat) (F : List D → FR) : Prop where
  ex : ∃ f fd ps, FnG P w K mg base k f fd ps (spF K mg n F) ∧ mg x = some (.ref f) ∧ PySem.W.keepIn K (.ref f) = true ∧ KB K fd ps ks perm
  pm : perm.length = n ∧ ks.length = n ∧ ∀ i ∈ perm, i < n
structure KX (X : Cx) (W : WX) (kws : List Keyword) (t : TA) (F : S → Res (List D)) : Prop where
  pk : PK X kws t
  sim : Sim X.K X.mg W (PL X.K) t F
section
variable {X : Cx} {W : WX} {k k2 n : Nat} {x : Str} {p pos kpos : Pos} {e : Expr} {kws : List Keyword} {t : TA} {te : TE} {tl : TA} {fe : S → Res D} {FL : S → Res (List D)} {ks : List Str} {perm : List Nat} {nm : Option Str}
theorem kx_nil : KX X W [] tNil aNil := ⟨pk_nil, (ax_nil (X := X)).sim⟩
theorem kx_cons (h : FX X W e te fe) (hr : KX X W kws tl FL) : KX X W (⟨nm, e, kpos⟩ :: kws) (tCons te tl) (aCons fe FL) := by
  refine ⟨pk_cons h.pe hr.pk, fun γ Oc r σ H fs g => ?_⟩
  refine SimAt.bind (t2 := fun x H1 Q => tl σ H1 fun xs H2 => Q (x :: xs) H2) (h.sim γ Oc r σ H fs g) fun d r1 v H1 ⟨fs1, g1, v1, s1⟩ => ?_
  refine SimAt.tr s1 (SimAt.bind (t2 := fun xs H2 Q => Q (v :: xs) H2) (hr.sim γ Oc r1 σ H1 fs1 g1) fun ds r2 vs H2 ⟨fs2, g2, v2, s2⟩ => ?_)
  refine SimAt.tr s2 fun Q hq => hq _ _ ⟨fs2, g2, ?_, Stp.refl _ _ _⟩
  simp only [Rs]
  exact ⟨v, vs, rfl, R.stab g1.ow (g1.stabSub s2) _ _ v1, v2⟩
theorem ex_callK {FD : List D → FR} (h : DefK X.prog X.w X.K X.mg X.base x k n ks perm FD) (hG : X.A.guards = some []) (hr : Room k2 X.A) (tk : Takes X W) (ha : KX X W kws tl FL) (hk : k ≤ k2 := by decide) (hg : Gl X x := by rfl)
    (hall : (backToKw pos (keywordEach kws X.env)).all (·.1.isSome) = true := by rfl) (hks : (backToKw pos (keywordEach kws X.env)).filterMap (·.1) = ks := by rfl)
    (hdb : (x == ("__debug__" : Str)) = false := by decide) (hpl : ((backTo pos (starEach [] X.env)).any (·.1) || (backToKw pos (keywordEach kws X.env)).any (·.1.isNone)) = false := by rfl) :
    EX X W (.Call (.Name x p) [] kws pos) (tCallS (spF X.K X.mg n fun ds => FD (pickL perm ds)) (WE W) tl) (fCall n (fun ds => FD (pickL perm ds)) FL) := by
  obtain ⟨⟨f, fd, ps, F, hm, hkp, hb⟩, hp1, hp2, hp3⟩ := h
  refine ⟨⟨fun pins s σ H Q I q => ?_⟩, sim_call ha.sim⟩
  refine wpAny_Call_Name_kw (ld_glob I hg hm ?_ hdb)
  refine PySem.W.callWith_KW0 (h₀ := X.base) I.ok.mod.kin hkp hall (thn (ha.pk.run pos pins s σ H _ I q) fun ws s2 ⟨zs, H2, I2, rz, q2⟩ => ⟨I2.kIn, ?_⟩) hpl
  rw [hks]
  have q3 : spF X.K X.mg n FD (pickL perm zs) H2 Q (WE W σ) := by
    obtain ⟨ds, O, l, a1, a2, a3, a4⟩ := q2
    exact ⟨pickL perm ds, O, by rw [pickL_len fun i hi => by rw [l]; exact hp3 i hi, hp1], a1, a2, a3.pick perm, a4⟩
  have hl : zs.length = n := q2.elim fun ds ⟨O, l, _⟩ => l
  have hbs := hb s2 ws I2.kIn (by rw [← rz.length, hl, hp2])
  refine wpAny_call (codeAny_mono (F.run X.A X.stack s2 H2 ⟨[], ks.zip ws⟩ (pickL perm ws) (pickL perm zs) Q (WE W σ) hG (hr.mono hk) I2.env0 hbs (Vals.pick rz perm) q3) fun res s' hq => ?_)
  cases res with
  | error exn => exact passAt tk σ pins H2 s2 exn s' I2 hq
  | ok fl => cases fl with
    | ret u => exact I2.after hq
    | next => exact False.elim hq
    | brk => exact False.elim hq
    | cont => exact False.elim hq
end
end QL
namespace QL
open PySem PySem.Spec L2
section
variable {X : Cx}
theorem vals_at2 : ∀ {xs : List V} {us : List Value}, xs.length = us.length → (∀ (j : Nat) (x : V) (u : Value), xs[j]? = some x → us[j]? = some u → RelV x u) → Vals xs us
  | [], [], _, _ => .nil
  | [], _ :: _, h, _ => by simp at h
  | _ :: _, [], h, _ => by simp at h
  | x :: xs, u :: us, h, f => .cons (f 0 x u rfl rfl) (vals_at2 (by simpa using h) fun j y w h1 h2 => f (j + 1) y w (by simpa using h1) (by simpa using h2))
def rListS : List V → Hp → VK → Prop := fun xs H Q => ∃ z : Str, xs = [.str z] ∧ z.length ≤ sizeLine ∧ ∀ p, H p = none → Q (.ref p) (upd H p (.lst ((z.cps.toList.map fun c => tx [c]).map V.str)))
theorem call_listS (hc : X.calm = true) : CallR X (.type "list") rListS := by
  intro pins s σ H xs us Q I r h
  obtain ⟨z, rfl, hz, q⟩ := h
  obtain ⟨u, rfl, t, rfl⟩ := vals1 r
  refine PySem.call_list_str (I.ok.hd hc) z t (fun h' tk acc' c' kp e hacc => ?_) (hn := hz)
  refine ⟨.ref s.heap.objs.size, upd H s.heap.objs.size (.lst ((z.cps.toList.map fun c => tx [c]).map V.str)), I.laid (t' := tk) kp (Nat.le_refl _)
    (show ObjOk X.prog X.w _ _ _ (.lst ((z.cps.toList.map fun c => tx [c]).map V.str)) from ⟨by rw [List.length_map, List.length_map, Array.length_toList]; exact hz, acc'.toList, c', ?_, by rw [Array.toArray_toList]; exact e⟩), rfl, q _ (I.hok.fresh (Nat.le_refl _))⟩
  refine vals_at2 (by rw [List.length_map, List.length_map, Array.length_toList, Array.length_toList, hacc.1]) fun j x u h1 h2 => ?_
  obtain ⟨c, t', hc', ev⟩ := hacc.2 j u (by rw [← Array.getElem?_toList]; exact h2)
  rw [List.getElem?_map, List.getElem?_map, Array.getElem?_toList, hc'] at h1
  cases h1
  subst ev
  exact ⟨t', rfl⟩
def rListA (K : PySem.W.Frag) : List V → Hp → VK → Prop := fun xs H Q => rListOf K xs H Q ∨ rListS xs H Q ∨ (∃ (a : Addr) (kvs : List (Key × V)), xs = [.ref a] ∧ Rd H a (.dK kvs) ∧ ∀ p, H p = none → Q (.ref p) (upd H p (.lst (kvs.map fun kv => kV kv.1)))) ∨
  ∃ d kvs, xs = [V.ref d] ∧ Rd H d (.dT kvs) ∧ ∀ p bs, H p = none → IsKeys H kvs bs → Q (.ref p) (upd H p (.lst (bs.map V.ref)))
theorem call_listA (hc : X.calm = true) : CallR X (.type "list") (rListA X.K) := CallR.or call_list_of (CallR.or (call_listS hc) (CallR.or (call_listD hc) (call_list_dT hc)))
end
def dListA : List D → Option OV
  | [.list ds] => some (.nl ds)
  | [.tuple ds] => some (.nl ds)
  | [.str z] => if z.length ≤ sizeLine then some (.nl (z.cps.toList.map fun c => .str (tx [c]))) else none
  | [.dict kvs] => if isOb kvs then none else some (.nl (kvs.map (·.1)))
  | _ => none
theorem R.key {K : PySem.W.Frag} {O : List Addr} {H : Hp} (c : Key) : R K O H (kD c) (kV c) := by
  cases c with
  | inl i => simp [kD, kV, R]
  | inr x => simp [kD, kV, R]
theorem Rs.keysV {K : PySem.W.Frag} {O : List Addr} {H : Hp} : ∀ cs : List Key, Rs K O H (cs.map kD) (cs.map kV)
  | [] => by simp [Rs]
  | c :: cs => by
    simp only [List.map_cons, Rs]
    exact ⟨_, _, rfl, R.key c, Rs.keysV cs⟩
theorem RK.keysV {K : PySem.W.Frag} {O : List Addr} {H : Hp} : ∀ {kvs : List (D × D)} {ws : List (Key × V)}, RK K O H kvs ws → Rs K O H (kvs.map (·.1)) (ws.map fun kv => kV kv.1)
  | [], ws, h => by simp only [RK] at h; subst h; simp [Rs]
  | (k, d) :: kvs, ws, h => by
    simp only [RK] at h
    obtain ⟨c, v, ws', e, e2, h1, h2⟩ := h
    subst e e2
    simp only [List.map_cons, Rs]
    exact ⟨_, _, rfl, R.key c, RK.keysV h2⟩
theorem RT.keysV {K : PySem.W.Frag} {O : List Addr} {H : Hp} : ∀ {kvs : List (D × D)} {ws : List (List Key × V)} {bs : List Addr}, RT K O H kvs ws → IsKeys H ws bs → Rs K O H (kvs.map (·.1)) (bs.map V.ref)
  | [], ws, bs, h, ik => by
    simp only [RT] at h; subst h
    unfold IsKeys at ik
    cases ik
    simp [Rs]
  | (k, d) :: kvs, ws, bs, h, ik => by
    simp only [RT] at h
    obtain ⟨c, v, ws', e, e2, h1, h2⟩ := h
    subst e e2
    unfold IsKeys at ik
    cases ik with
    | cons h3 h4 =>
      simp only [List.map_cons, Rs, R]
      exact ⟨_, _, rfl, ⟨_, _, rfl, h3, Rs.keysV c⟩, RT.keysV h2 h4⟩
theorem opb_listA {K : PySem.W.Frag} : OpB K (rListA K) dListA := by
  intro γ O H ds vs z Q ow h e hq
  unfold dListA at e
  split at e
  · cases e
    exact .inl (opb_listOf γ O H _ vs _ Q ow h rfl hq)
  · cases e
    exact .inl (opb_listOf γ O H _ vs _ Q ow h rfl hq)
  · split at e
    · rename_i zt hz
      cases e
      obtain ⟨v, ws, e1, r1, e2⟩ := h
      simp only [RE, R] at r1
      refine .inr (.inl ⟨zt, by rw [e1, e2, r1], hz, fun p hp => hq p _ hp ?_⟩)
      have e3 : (zt.cps.toList.map fun c => PyData.str (tx [c])) = (zt.cps.toList.map fun c => tx [c]).map PyData.str := by rw [List.map_map]; rfl
      rw [e3]
      exact Rs.ofStrs _
    · cases e
  · rename_i kvs
    split at e
    · cases e
    rename_i hb
    cases e
    obtain ⟨v, ws, e1, r1, e2⟩ := h
    obtain ⟨a, ea, nt, r1⟩ := r1
    rcases r1 with ⟨us, q1, q2⟩ | ⟨us, q1, q2⟩ | r1
    · exact .inr (.inr (.inl ⟨a, us, by rw [e1, e2, ea], q1, fun p hp => hq p _ hp q2.keysV⟩))
    · exact .inr (.inr (.inr ⟨a, us, by rw [e1, e2, ea], q1, fun p bs hp ik => hq p _ hp (q2.keysV ik)⟩))
    · exact noOb (by simpa using hb) r1
  · cases e
section
variable {X : Cx} {W : WX} {a : Expr} {p pos : Pos} {tl : TA} {FL : S → Res (List D)}
theorem ex_listA (hc : X.calm = true) (hm : X.mg "list" = none) (ha : BAX X W [a] tl FL) (hg : Gl X "list" := by rfl) (he : starEach [a] X.env = (false, eval a X.env) :: starEach [] X.env := by rfl) : EX X W (.Call (.Name "list" p) [a] [] pos) (tCB (rListA X.K) tl) (fCB dListA FL) :=
  ex_cb (pe_callTy (call_listA hc) hg hm PyProof.Rows.boot_list ha.pe (by decide) (by decide) he (by rfl)) opb_listA ha
end
def leS (x y : Str) : Bool := !decide (y.cps.toList < x.cps.toList)
def insS (x : Str) : List Str → List Str
  | [] => [x]
  | y :: r => if leS x y then x :: y :: r else y :: insS x r
def sortS (l : List Str) : List Str := l.foldr insS []
theorem leS_total {x y : Str} (h : leS x y = false) : leS y x = true := by
  unfold leS at *
  simp only [Bool.not_eq_false', decide_eq_true_eq] at h
  simp only [Bool.not_eq_true', decide_eq_false_iff_not]
  intro h2
  exact absurd (List.lt_trans h h2) (List.lt_irrefl _)
theorem leS_trans {x y z : Str} (h : leS x y = true) (h2 : leS y z = true) : leS x z = true := by
  unfold leS at *
  simp only [Bool.not_eq_true', decide_eq_false_iff_not] at *
  have a : x.cps.toList ≤ y.cps.toList := List.not_lt.mp h
  have b : y.cps.toList ≤ z.cps.toList := List.not_lt.mp h2
  exact List.not_lt.mpr (List.le_trans a b)
theorem leS_anti {x y : Str} (h : leS x y = true) (h2 : leS y x = true) : x = y := by
  unfold leS at *
  simp only [Bool.not_eq_true', decide_eq_false_iff_not] at *
  have a : x.cps.toList ≤ y.cps.toList := List.not_lt.mp h
  have b : y.cps.toList ≤ x.cps.toList := List.not_lt.mp h2
  have e := List.le_antisymm a b
  rw [Str.tx x, Str.tx y, e]
theorem insS_perm (x : Str) : ∀ l, (insS x l).Perm (x :: l)
  | [] => List.Perm.refl _
  | y :: r => by
    unfold insS
    split
    · exact List.Perm.refl _
    · exact ((insS_perm x r).cons y).trans (List.Perm.swap x y r)
theorem sortS_perm : ∀ l, (sortS l).Perm l
  | [] => List.Perm.refl _
  | x :: r => (insS_perm x (sortS r)).trans ((sortS_perm r).cons x)
theorem insS_sorted (x : Str) : ∀ l, l.Pairwise (fun a b => leS a b = true) → (insS x l).Pairwise (fun a b => leS a b = true)
  | [], _ => List.pairwise_singleton _ _
  | y :: r, h => by
    unfold insS
    obtain ⟨h1, h2⟩ := List.pairwise_cons.mp h
    split
    · rename_i hx
      refine List.pairwise_cons.mpr ⟨fun z hz => ?_, h⟩
      rcases List.mem_cons.mp hz with e | e
      · rw [e]; exact hx
      · exact leS_trans hx (h1 z e)
    · rename_i hx
      refine List.pairwise_cons.mpr ⟨fun z hz => ?_, insS_sorted x r h2⟩
      rcases List.mem_cons.mp ((insS_perm x r).mem_iff.mp hz) with e | e
      · rw [e]; exact leS_total (by simpa using hx)
      · exact h1 z e
theorem sortS_sorted : ∀ l, (sortS l).Pairwise (fun a b => leS a b = true)
  | [] => List.Pairwise.nil
  | x :: r => insS_sorted x _ (sortS_sorted r)
theorem risingS_pw : ∀ (r : List Str) (p : Str), PyProof.Rows.risingS p r = true → (p :: r).Pairwise (fun a b => leS a b = true)
  | [], p, _ => List.pairwise_singleton _ _
  | x :: r, p, h => by
    unfold PyProof.Rows.risingS at h
    rw [PyProof.Rows.ltCps_eq, Bool.and_eq_true] at h
    have h1 := risingS_pw r x h.2
    refine List.pairwise_cons.mpr ⟨fun z hz => ?_, h1⟩
    have h0 : leS p x = true := h.1
    rcases List.mem_cons.mp hz with e | e
    · rw [e]; exact h0
    · exact leS_trans h0 ((List.pairwise_cons.mp h1).1 z e)
theorem sortedS_eq {ys xs : List Str} (p : ys.Perm xs) (h : PyProof.Rows.sortedS ys = true) : ys = sortS xs := by
  refine List.Perm.eq_of_pairwise (le := fun a b => leS a b = true) (fun a b _ _ h h' => leS_anti h h') ?_ (sortS_sorted xs) (p.trans (sortS_perm xs).symm)
  cases ys with
  | nil => exact List.Pairwise.nil
  | cons x r => exact risingS_pw r x h
def insZ (x : Int) : List Int → List Int
  | [] => [x]
  | y :: r => if x ≤ y then x :: y :: r else y :: insZ x r
def sortZ (l : List Int) : List Int := l.foldr insZ []
theorem insZ_perm (x : Int) : ∀ l, (insZ x l).Perm (x :: l)
  | [] => List.Perm.refl _
  | y :: r => by
    unfold insZ
    split
    · exact List.Perm.refl _
    · exact ((insZ_perm x r).cons y).trans (List.Perm.swap x y r)
theorem sortZ_perm : ∀ l, (sortZ l).Perm l
  | [] => List.Perm.refl _
  | x :: r => (insZ_perm x (sortZ r)).trans ((sortZ_perm r).cons x)
theorem insZ_sorted (x : Int) : ∀ l, l.Pairwise (· ≤ ·) → (insZ x l).Pairwise (· ≤ ·)
  | [], _ => List.pairwise_singleton _ _
  | y :: r, h => by
    unfold insZ
    obtain ⟨h1, h2⟩ := List.pairwise_cons.mp h
    split
    · rename_i hx
      refine List.pairwise_cons.mpr ⟨fun z hz => ?_, h⟩
      rcases List.mem_cons.mp hz with e | e
      · rw [e]; exact hx
      · exact Int.le_trans hx (h1 z e)
    · rename_i hx
      refine List.pairwise_cons.mpr ⟨fun z hz => ?_, insZ_sorted x r h2⟩
      rcases List.mem_cons.mp ((insZ_perm x r).mem_iff.mp hz) with e | e
      · rw [e]; omega
      · exact h1 z e
theorem sortZ_sorted : ∀ l, (sortZ l).Pairwise (· ≤ ·)
  | [] => List.Pairwise.nil
  | x :: r => insZ_sorted x _ (sortZ_sorted r)
theorem sortZ_eq {ys xs : List Int} (p : ys.Perm xs) (h : ys.Pairwise (· ≤ ·)) : ys = sortZ xs :=
  List.Perm.eq_of_pairwise (fun a b _ _ h h' => Int.le_antisymm h h') h (sortZ_sorted xs) (p.trans (sortZ_perm xs).symm)
section
variable {X : Cx}
def rSortSA (K : PySem.W.Frag) : List V → Hp → VK → Prop := fun vs H Q => ∃ (a : Addr) (xs : List Str), vs = [V.ref a] ∧ SqL K H a (xs.map V.str) ∧ ∀ p, H p = none → Q (.ref p) (upd H p (.lst ((sortS xs).map V.str)))
theorem cr_sortSA : CallR X (.builtin "sorted") (rSortSA X.K) := by
  intro pins s σ H vs us Q I r h
  obtain ⟨a, xs, rfl, hs, q⟩ := h
  obtain ⟨its, rv, hl, hz⟩ := I.list hs
  rw [Vals.ref1 r]
  have hlen0 := rv.length
  refine PyProof.Rows.sorted_strsAny hl.isList rv.strs (by rw [← hlen0]; exact hz) fun out ys h1 h2 h3 => ?_
  obtain ⟨ep, he'⟩ := PyProof.Rows.sortedAll_at s.heap its out
  have e := sortedS_eq h2 h3
  subst e
  have hlen : ((sortS xs).map V.str).length ≤ sizeLine := by
    rw [List.length_map, h2.length_eq]
    rw [List.length_map] at hz
    exact hz
  exact ⟨.ref _, upd H (s.heap.objs.size + 1) (.lst ((sortS xs).map V.str)), I.laid (t' := s.toks) (fun _ _ => PyProof.Rows.sortedAll_old) (Nat.le_succ _) ⟨hlen, out.toList, ep, vals_of_strs h1, he'⟩, rfl, q _ (I.hok.fresh (Nat.le_succ _))⟩
def rSortA (K : PySem.W.Frag) : List V → Hp → VK → Prop := fun vs H Q => rSortSA K vs H Q ∨ rSortedI K vs H Q
theorem cr_sortA : CallR X (.builtin "sorted") (rSortA X.K) := CallR.or cr_sortSA cr_sortedI
end
def dSortA : List D → Option OV
  | [.list ds] => match strsD ds with
    | some ys => some (.nl ((sortS ys).map .str))
    | none => match intsD ds with
      | some ns => some (.nl ((sortZ ns).map .int))
      | none => none
  | _ => none
theorem opb_sortA {K : PySem.W.Frag} : OpB K (rSortA K) dSortA := by
  intro γ O H ds vs z Q ow h e hq
  unfold dSortA at e
  split at e
  · obtain ⟨v, ws, e1, r1, e2⟩ := h
    obtain ⟨a, us, q1, q2, q3⟩ := r1.tracked
    split at e
    · rename_i ys ei
      cases e
      have eu := q3.strs ei
      subst eu
      exact .inl ⟨a, ys, by rw [e1, e2, q1], .inl (.inl q2), fun p hp => hq p _ hp (Rs.ofStrs _)⟩
    · split at e
      · rename_i ns ei
        cases e
        have eu := q3.ints ei
        subst eu
        refine .inr ⟨a, ns, by rw [e1, e2, q1], .inl (.inl q2), fun ns' p hp hs hn => ?_⟩
        rw [sortZ_eq hp hs]
        exact hq p _ hn (Rs.ofInts _)
      · cases e
  · cases e
section
variable {X : Cx} {W : WX} {a : Expr} {p pos : Pos} {tl : TA} {FL : S → Res (List D)}
theorem ex_sortA (hm : X.mg "sorted" = none) (ha : BAX X W [a] tl FL) (hg : Gl X "sorted" := by rfl) (he : starEach [a] X.env = (false, eval a X.env) :: starEach [] X.env := by rfl) : EX X W (.Call (.Name "sorted" p) [a] [] pos) (tCB (rSortA X.K) tl) (fCB dSortA FL) :=
  ex_cb (pe_callB cr_sortA hg hm PyProof.Rows.boot_sorted ha.pe (by decide) (by decide) he (by rfl)) opb_sortA ha
end
end QL
namespace QL
open PySem PySem.Spec L2
def RPs (K : PySem.W.Frag) (O : List Addr) (H : Hp) : List (D × D) → List (V × V) → Prop
  | [], vs => vs = []
  | (k, d) :: r, vs => ∃ x y ws, vs = (x, y) :: ws ∧ R K O H k x ∧ R K O H d y ∧ RPs K O H r ws
theorem RPs.stab {K : PySem.W.Frag} {O O' : List Addr} {H H' : Hp} (ow : Own O H) (st : Stab O H O' H') : ∀ {ps : List (D × D)} {vs : List (V × V)}, RPs K O H ps vs → RPs K O' H' ps vs
  | [], vs, h => h
  | (k, d) :: r, vs, h => by
    obtain ⟨x, y, ws, e, h1, h2, h3⟩ := h
    exact ⟨x, y, ws, e, R.stab ow st _ _ h1, R.stab ow st _ _ h2, RPs.stab ow st h3⟩
def PPr (K : PySem.W.Frag) : Pst (List (D × D)) (List (V × V)) := fun γ Oc r' σ H fs H' ds vs => ∃ fs', Good K γ Oc r' σ H' fs' ∧ RPs K (fs' ++ Oc) H' ds vs ∧ Stp γ.T fs H fs' H'
instance {K : PySem.W.Frag} : PstT (PPr K) := ⟨fun s ⟨f, a, b, c⟩ => ⟨f, a, b, s.trans c⟩⟩
def pNil : S → Res (List (D × D)) := fun r => .ok [] r
def pCons (fk fv : S → Res D) (F : S → Res (List (D × D))) : S → Res (List (D × D)) := fun r => (fk r).bind fun k r => (fv r).bind fun v r => (F r).bind fun ps r => .ok ((k, v) :: ps) r
section
variable {X : Cx} {W : WX} {pos : Pos} {k v e : Expr} {keys : List (Option Expr)} {values : List Expr} {tk tv : TE} {trs : List (TE × TE)} {fk fv : S → Res D} {F : S → Res (List (D × D))}
/-- the pairs by their keys -/
def keysD : List (D × D) → Option (List (Key × D))
  | [] => some []
  | (k, d) :: r => match keyD k, keysD r with
    | some c, some cs => some ((c, d) :: cs)
    | _, _ => none
def mergeD (kvs : List (D × D)) (more : List (Key × D)) : List (D × D) := more.foldl (fun acc kv => putD acc kv.1 kv.2) kvs
def eDisp (F : S → Res (List (D × D))) : S → Res SV := fun r => (F r).bind fun ps r => match keysD ps with
  | some cs => if ps.length ≤ 15 then Res.ok (SV.od (mergeD [] cs)) r else Res.bad
  | none => Res.bad
end
def PM (K : PySem.W.Frag) : Pst D V := fun γ Oc r' σ H fs H' d v => ∃ fs', Good K γ Oc r' σ H' fs' ∧ R K (fs' ++ Oc) H' d v ∧ Evo fs H fs' H'
/-- such an expression: its rule and its mirror -/
structure MX (X : Cx) (W : WX) (e : Expr) (t : TE) (F : S → Res D) : Prop where
  pe : PE X e t
  sim : Sim X.K X.mg W (PM X.K) t F
def popD (xs : List D) (k : Int) : Option (D × List D) := if -(2 ^ 62) ≤ k ∧ k < 2 ^ 62 then (ixN xs.length k).bind fun n => (xs[n]?).map fun d => (d, xs.eraseIdx n) else none
def fPop (j : Nat) (fe : S → Res D) : S → Res D := fun r => match r.sl[j]? with
  | some (some (.ol _)) => (fe r).bind fun d r => match d, r.sl[j]? with
    | .int k, some (some (.ol xs)) => (match popD xs k with
      | some p => Res.ok p.1 { r with sl := r.sl.set j (some (.ol p.2)) }
      | none => Res.bad)
    | _, _ => Res.bad
  | _ => .bad
theorem Rs.erase {K : PySem.W.Frag} {O : List Addr} {H : Hp} : ∀ {ds : List D} {vs : List V} (n : Nat), Rs K O H ds vs → Rs K O H (ds.eraseIdx n) (vs.eraseIdx n)
  | [], vs, n, h => by simp only [Rs] at h; rw [h]; simp [Rs]
  | d :: ds, vs, 0, h => by
    simp only [Rs] at h
    obtain ⟨v, us, q, h1, h⟩ := h
    rw [q]
    exact h
  | d :: ds, vs, n + 1, h => by
    simp only [Rs, List.eraseIdx_cons_succ] at h ⊢
    obtain ⟨v, us, q, h1, h⟩ := h
    rw [q]
    exact ⟨v, us.eraseIdx n, rfl, h1, h.erase n⟩
section
variable {X : Cx} {W : WX} {e : Expr} {te : TE} {fe : S → Res D} {F : S → Res D} {t : TE} {i j : Nat} {x : Str} {pos p py : Pos}
theorem sim_pop {K : PySem.W.Frag} {mg : Str → Option Value} (h : Sim K mg W (PB K) te fe) : Sim K mg W (PM K) (tBM K "list" rPopAt (tVar j) (tCons te tNil)) (fPop j fe) := by
  intro γ Oc r σ H fs g
  unfold fPop
  split
  · rename_i xs0 e0
    obtain ⟨v, f, ev, hv⟩ := g.slotV e0
    obtain ⟨a, us, eva, ha, rs0, ef⟩ := hv
    subst eva
    refine SimAt.imp (SimAt.bind (t2 := fun (y : V) (H1 : Hp) (Q : VK) => rPopAt (.ref a) [y] H1 Q) (h γ Oc r σ H fs g) fun d r1 y H1 ⟨fs1, g1, v1, s1⟩ => ?_) fun Q q => ⟨.ref a, ev, .inl ⟨rfl, us, .inl (.inl ha)⟩, q⟩
    split
    · rename_i k xs e1 e2
      cases ep : popD xs k with
      | none => exact fun Q => trivial
      | some p =>
        unfold popD at ep
        split at ep
        · rename_i hk
          simp only [Option.bind_eq_some_iff, Option.map_eq_some_iff] at ep
          obtain ⟨n, en, d, ed, eq⟩ := ep
          subst eq
          intro Q hq
          obtain ⟨w, f', ew, hw⟩ := g1.slotV e1
          rw [ev] at ew
          cases ew
          obtain ⟨a', us', eva', ha', rs', ef'⟩ := hw
          cases eva'
          simp only [RE, R] at v1
          subst v1
          obtain ⟨u, hu, ru⟩ := rs'.get ed
          have e62 : (2 : Int) ^ 62 = 4611686018427387904 := by decide
          have e63 : (2 : Int) ^ 63 = 9223372036854775808 := by decide
          rw [e62] at hk
          have hlen := rs'.len
          obtain ⟨q1, q2, q3, q4⟩ := ixN_seq (n := us'.length) (i := k) (j := n) (by rw [hlen]; exact en)
          refine ⟨a, us', k, n, u, rfl, rfl, ha', by rw [e63]; omega, by rw [e63]; omega, q1, hu, ?_⟩
          have hm := g1.mut (x' := .ol (xs.eraseIdx n)) e1 ev (fun u f hu eu => by
            obtain ⟨a2, us2, z1, z2, z3, z4⟩ := hu
            rw [eu] at z1; cases z1
            exact z4) (o := .lst (us'.eraseIdx n)) trivial fun st => ⟨a, us'.eraseIdx n, rfl, upd_same, Rs.stab g1.ow st _ _ (rs'.erase n), rfl⟩
          have hm2 := hm.2
          exact hq _ _ ⟨fs1, hm.1, R.stab g1.ow hm2.stab _ _ ru, s1.evo.trans hm2⟩
        · cases ep
    · exact fun Q => trivial
  · exact fun Q => trivial
theorem sim_appM {K : PySem.W.Frag} {mg : Str → Option Value} (h : Sim K mg W (PM K) t F) : SimS K mg W (tDrop (tBM K "list" rAppend (tVar i) (tCons t tNil))) (sApp i F) := by
  intro γ Oc r σ H fs g
  unfold sApp
  split
  · rename_i xs0 e0
    obtain ⟨v, f, ev, hv⟩ := g.slotV e0
    obtain ⟨a, us, eva, ha, rs0, ef⟩ := hv
    subst eva
    refine SimSAt.imp (SimSAt.bindE (t2 := fun (y : V) (H1 : Hp) (E : Ends) => rAppend (.ref a) [y] H1 fun _ H2 => E.nx σ H2) (h γ Oc r σ H fs g) fun d r1 y H1 ⟨fs1, g1, v1, s1⟩ => ?_) fun E q => ⟨.ref a, ev, .inl ⟨rfl, us, .inl (.inl ha)⟩, q⟩
    refine SimSAt.tr s1 ?_
    split
    · rename_i xs e1
      split
      · rename_i hl
        intro E hq
        obtain ⟨w, f', ew, hw⟩ := g1.slotV e1
        rw [ev] at ew
        cases ew
        obtain ⟨a', us', eva', ha', rs', ef'⟩ := hw
        cases eva'
        refine ⟨a, us', y, rfl, rfl, ha', by rw [rs'.len]; exact hl, hq σ _ ⟨fs1, ?_⟩⟩
        refine g1.mut (x' := .ol (xs ++ [d])) e1 ev (fun u f hu eu => ?_) (o := .lst (us' ++ [y])) trivial fun st => ⟨a, us' ++ [y], rfl, upd_same, Rs.stab g1.ow st _ _ (rs'.app (by simp only [Rs]; exact ⟨y, [], rfl, v1, rfl⟩)), rfl⟩
        obtain ⟨a2, us2, z1, z2, z3, z4⟩ := hu
        rw [eu] at z1; cases z1
        exact z4
      · exact fun E => trivial
    · exact fun E => trivial
  · exact fun E => trivial
section
variable {a : Expr} {apos : Pos}
theorem mx_pop (hv : PE X a (tVar j)) (h : BX X W e te fe) (hbase : attributeBase a "pop" X.env (eval a X.env) = eval a X.env := by rfl)
    (hfew : ((backTo pos (starEach [e] X.env)).all (fun x => !x.1) && (backToKw pos (keywordEach [] X.env)).all (fun x => x.1.isSome) && decide (([e] : List Expr).length + ([] : List Keyword).length + (if ([] : List Keyword).isEmpty then 0 else 1) < 30)) = true := by rfl)
    (hline : (apos.endLine == pos.line) = true := by rfl) (hs : starEach [e] X.env = (false, eval e X.env) :: starEach [] X.env := by rfl) (hpl : (backTo pos (starEach [] X.env)).any (·.1) = false := by rfl) :
    MX X W (.Call (.Attribute a "pop" apos) [e] [] pos) (tBM X.K "list" rPopAt (tVar j) (tCons te tNil)) (fPop j fe) :=
  ⟨pe_bm PySem.F.plainAttrs_list PySem.F.slot_list_pop PySem.F.type_list_pop mt_popAt hv (pa_cons h.pe pa_nil hs) hbase hfew hline hs hpl, sim_pop h.sim⟩
theorem sx_appendM (hv : PE X a (tVar i)) (h : MX X W e t F) (hbase : attributeBase a "append" X.env (eval a X.env) = eval a X.env := by rfl)
    (hfew : ((backTo pos (starEach [e] X.env)).all (fun x => !x.1) && (backToKw pos (keywordEach [] X.env)).all (fun x => x.1.isSome) && decide (([e] : List Expr).length + ([] : List Keyword).length + (if ([] : List Keyword).isEmpty then 0 else 1) < 30)) = true := by rfl)
    (hline : (apos.endLine == pos.line) = true := by rfl) (hs : starEach [e] X.env = (false, eval e X.env) :: starEach [] X.env := by rfl) (hpl : (backTo pos (starEach [] X.env)).any (·.1) = false := by rfl)
    (hsw : swapsWith (.Call (.Attribute a "append" apos) [e] [] pos) none p.line X.env = pure false := by rfl) : SX X W (.Expr (.Call (.Attribute a "append" apos) [e] [] pos) p) (tDrop (tBM X.K "list" rAppend (tVar i) (tCons t tNil))) (sApp i F) :=
  ⟨ps_expr (pe_bm PySem.F.plainAttrs_list PySem.F.slot_list_append PySem.F.type_list_append mt_append hv (pa_cons h.pe pa_nil hs) hbase hfew hline hs hpl) hsw, sim_appM h.sim⟩
end
end
end QL
namespace QL
open PySem PySem.Spec L2
def keysL : List D → Option (List Key)
  | [] => some []
  | d :: r => match keyD d, keysL r with
    | some c, some cs => some (c :: cs)
    | _, _ => none
def keyT : D → Option (List Key)
  | .tuple ds => keysL ds
  | _ => none
theorem keysL_map : ∀ cs : List Key, keysL (cs.map kD) = some cs
  | [] => rfl
  | c :: cs => by simp only [List.map_cons, keysL, keyD_kD, keysL_map cs]
theorem keyT_map (cs : List Key) : keyT (.tuple (cs.map kD)) = some cs := keysL_map cs
def putT (kvs : List (D × D)) (c : List Key) (v : D) : List (D × D) :=
  if (kvs.any fun p => decide (keyT p.1 = some c)) = true then kvs.map (fun p => if keyT p.1 = some c then (p.1, v) else p) else kvs ++ [(.tuple (c.map kD), v)]
section
variable {K : PySem.W.Frag} {O : List Addr} {H : Hp}
theorem RT.any (c : List Key) : ∀ {kvs : List (D × D)} {ws : List (List Key × V)}, RT K O H kvs ws → (kvs.any fun p => decide (keyT p.1 = some c)) = ws.any fun p => decide (p.1 = c)
  | [], _, h => by simp only [RT] at h; subst h; rfl
  | (k, d) :: r, _, h => by
    simp only [RT] at h
    obtain ⟨c', v, ws, e, e2, h1, h2⟩ := h
    subst e e2
    rw [List.any_cons, List.any_cons, RT.any c h2, keyT_map]
    simp
theorem RT.repl (c : List Key) {x : D} {y : V} (hx : R K O H x y) : ∀ {kvs : List (D × D)} {ws : List (List Key × V)}, RT K O H kvs ws → RT K O H (kvs.map fun p => if keyT p.1 = some c then (p.1, x) else p) (ws.map fun p => if p.1 = c then (p.1, y) else p)
  | [], _, h => by simp only [RT] at h; subst h; simp [RT]
  | (k, d) :: r, _, h => by
    simp only [RT] at h
    obtain ⟨c', v, ws, e, e2, h1, h2⟩ := h
    subst e e2
    rw [List.map_cons, List.map_cons]
    by_cases q : c' = c
    · subst q
      simp only [keyT_map, if_true, RT]
      exact ⟨c', y, _, rfl, rfl, hx, RT.repl c' hx h2⟩
    · have q' : ¬ (keyT (.tuple (c'.map kD)) = some c) := by rw [keyT_map]; simpa using q
      simp only [if_neg q', if_neg q, RT]
      exact ⟨c', v, _, rfl, rfl, h1, RT.repl c hx h2⟩
theorem RT.snoc (c : List Key) {x : D} {y : V} (hx : R K O H x y) : ∀ {kvs : List (D × D)} {ws : List (List Key × V)}, RT K O H kvs ws → RT K O H (kvs ++ [(.tuple (c.map kD), x)]) (ws ++ [(c, y)])
  | [], _, h => by
    simp only [RT] at h; subst h
    simp only [List.nil_append, RT]
    exact ⟨c, y, [], rfl, rfl, hx, rfl⟩
  | (k, d) :: r, _, h => by
    simp only [RT] at h
    obtain ⟨c', v, ws, e, e2, h1, h2⟩ := h
    subst e e2
    simp only [List.cons_append, RT]
    exact ⟨c', v, _, rfl, rfl, h1, RT.snoc c hx h2⟩
theorem RT.put (c : List Key) {x : D} {y : V} (hx : R K O H x y) {kvs : List (D × D)} {ws : List (List Key × V)} (h : RT K O H kvs ws) : RT K O H (putT kvs c x) (putK ws c y) := by
  unfold putT putK
  rw [RT.any c h]
  split
  · exact RT.repl c hx h
  · exact RT.snoc c hx h
end
/-- the pairs by their keys -/
def keysDT : List (D × D) → Option (List (List Key × D))
  | [] => some []
  | (k, d) :: r => match keyT k, keysDT r with
    | some c, some cs => some ((c, d) :: cs)
    | _, _ => none
def mergeDT (kvs : List (D × D)) (more : List (List Key × D)) : List (D × D) := more.foldl (fun acc kv => putT acc kv.1 kv.2) kvs
section
variable {X : Cx} {W : WX} {pos : Pos} {k v e : Expr} {keys : List (Option Expr)} {values : List Expr} {tk tv : TE} {trs : List (TE × TE)} {fk fv : S → Res D} {F : S → Res (List (D × D))}
def eDispT (F : S → Res (List (D × D))) : S → Res SV := fun r => (F r).bind fun ps r => match keysDT ps with
  | some cs => if ps.length ≤ 15 then Res.ok (SV.ot (mergeDT [] cs)) r else Res.bad
  | none => Res.bad
end
def sPutT (i : Nat) (FV FK : S → Res D) : S → RS := fun r => (FV r).bindS fun v r => match r.sl[i]? with
  | some (some (.ot _)) => (FK r).bindS fun k r => match keyT k, r.sl[i]? with
    | some c, some (some (.ot kvs)) => if kvs.length < sizeLine then RS.nx { r with sl := r.sl.set i (some (.ot (putT kvs c v))) } else RS.bad
    | _, _ => RS.bad
  | _ => RS.bad
end QL
namespace QL
open PySem PySem.Spec L2
section
variable {X : Cx}
def rTupS : List V → Hp → VK → Prop := fun xs H Q => ∃ z : Str, xs = [.str z] ∧ z.length ≤ sizeLine ∧ ∀ p, H p = none → Q (.ref p) (upd H p (.tup ((z.cps.toList.map fun c => tx [c]).map V.str)))
theorem call_tupS (hc : X.calm = true) : CallR X (.type "tuple") rTupS := by
  intro pins s σ H xs us Q I r h
  obtain ⟨z, rfl, hz, q⟩ := h
  obtain ⟨u, rfl, t, rfl⟩ := vals1 r
  refine PySem.call_tuple_str (I.ok.hd hc) z t (fun h' tk acc kp hacc => ?_) (hsz := hz)
  have I1 := I.kept (h' := h') (t' := tk) kp
  refine ⟨.ref h'.objs.size, upd H h'.objs.size (.tup ((z.cps.toList.map fun c => tx [c]).map V.str)), I1.laid (a := h'.objs.size) (h' := h'.push { cls := .type "tuple", data := .seq acc }) (t' := tk) (fun b o e => Heap.get?_push_of_some _ e) (Nat.le_refl _)
    (show ObjOk X.prog X.w _ _ _ (.tup ((z.cps.toList.map fun c => tx [c]).map V.str)) from ⟨by rw [List.length_map, List.length_map, Array.length_toList]; exact hz, acc.toList, ?_, _, Heap.get?_push_size _ rfl, ?_⟩), rfl, q _ (I1.hok.fresh (Nat.le_refl _))⟩
  · refine vals_at2 (by rw [List.length_map, List.length_map, Array.length_toList, Array.length_toList, hacc.1]) fun j x u h1 h2 => ?_
    obtain ⟨c, t', hc', ev⟩ := hacc.2 j u (by rw [← Array.getElem?_toList]; exact h2)
    rw [List.getElem?_map, List.getElem?_map, Array.getElem?_toList, hc'] at h1
    cases h1
    subst ev
    exact ⟨t', rfl⟩
  · rw [Array.toArray_toList]
    exact ⟨rfl, _, rfl⟩
def rTupA (K : PySem.W.Frag) : List V → Hp → VK → Prop := fun xs H Q => rTupOf K xs H Q ∨ rTupS xs H Q
theorem call_tupA (hc : X.calm = true) : CallR X (.type "tuple") (rTupA X.K) := CallR.or call_tuple_of (call_tupS hc)
end
def dTupA : List D → Option OV
  | [.list ds] => some (.nt ds)
  | [.tuple ds] => some (.fz (.tuple ds))
  | [.str z] => if z.length ≤ sizeLine then some (.nt (z.cps.toList.map fun c => .str (tx [c]))) else none
  | _ => none
theorem opb_tupA {K : PySem.W.Frag} : OpB K (rTupA K) dTupA := by
  intro γ O H ds vs z Q ow h e hq
  unfold dTupA at e
  split at e
  · cases e
    exact .inl (opb_tupOf γ O H _ vs _ Q ow h rfl hq)
  · cases e
    exact .inl (opb_tupOf γ O H _ vs _ Q ow h rfl hq)
  · split at e
    · rename_i zt hz
      cases e
      obtain ⟨v, ws, e1, r1, e2⟩ := h
      simp only [RE, R] at r1
      refine .inr ⟨zt, by rw [e1, e2, r1], hz, fun p hp => hq p _ hp ?_⟩
      have e3 : (zt.cps.toList.map fun c => PyData.str (tx [c])) = (zt.cps.toList.map fun c => tx [c]).map PyData.str := by rw [List.map_map]; rfl
      rw [e3]
      exact Rs.ofStrs _
    · cases e
  · cases e
section
variable {X : Cx} {W : WX} {a : Expr} {p pos : Pos} {tl : TA} {FL : S → Res (List D)}
theorem ex_tupA (hc : X.calm = true) (hm : X.mg "tuple" = none) (ha : BAX X W [a] tl FL) (hg : Gl X "tuple" := by rfl) (he : starEach [a] X.env = (false, eval a X.env) :: starEach [] X.env := by rfl) : EX X W (.Call (.Name "tuple" p) [a] [] pos) (tCB (rTupA X.K) tl) (fCB dTupA FL) :=
  ex_cb (pe_callTy (call_tupA hc) hg hm PyProof.Rows.boot_tuple ha.pe (by decide) (by decide) he (by rfl)) opb_tupA ha
end
end QL
namespace QL
open PySem PySem.Spec L2 PySem.W PyProof.Rows
def sRaise (c v : Str) (fe : S → Res D) : S → RS := fun r => (fe r).bindS fun d r => RS.exc c [(v, d)] r
end QL
namespace QL
open PySem PySem.Spec L2
end QL
namespace QL
open PySem PySem.Spec L2 LamX
/-- class, field, words -/
abbrev HR := Addr × Str × List Str
/-- what an exception is told as: a list; or it goes on -/
def ERef (K : PySem.W.Frag) (Q : VK) (E : XK) : List HR → XK
  | [] => E
  | (C, n, tag) :: r => fun cls d H' => ∃ b, PySem.W.exmOne K cls (.ref C) = some b ∧
      (b = true → cls = .ref C ∧ ∃ (dd : Addr) (fs : List (Str × V)) (v : V), d = some dd ∧ H' dd = some (.xd fs) ∧ fs.lookup n = some v ∧ ∀ q, H' q = none → Q (.ref q) (upd H' q (.lst (tag.map V.str ++ [v])))) ∧ (b = false → ERef K Q E r cls d H')
end QL
namespace QL
open PySem PySem.Spec L2 LamX
/-- how an error is told: its name, the field, the words ahead -/
abbrev HM := Str × Str × List Str
def tellR : List HM → Str → List (Str × D) → Option (List D)
  | [], _, _ => none
  | (x, n, tag) :: r, c, f => if c = x then (f.lookup n).map fun d => tag.map .str ++ [d] else tellR r c f
def refIn (hs : List HM) : Res SV → Res SV
  | .ok _ r' => .ok (.ol []) r'
  | .exc c f r' => (match tellR hs c f with
    | some ds => .ok (.ol ds) r'
    | none => .bad)
  | .bad => .bad
def fRef (P : Addr) (hs : List HM) (FB : QL.S → Res SV) : QL.S → Res SV := fun r => match r.sl[0]? with
  | some (some (SV.scr T)) => if P ∈ T then refIn hs (FB r) else .bad
  | _ => .bad
/-- name, class, field, words -/
abbrev HL := Str × Addr × Str × List Str
def HL.c (a : HL) : Str × Addr := (a.1, a.2.1)
section
variable {K : PySem.W.Frag} {mg : Str → Option Value} {W : WX} {γ : Gh} {Oc : List Addr} {r r' : QL.S} {σ : L2.St} {H H' : Hp} {fs fs' : List Addr}
theorem ERef.app {Q : VK} {E : XK} : ∀ (h1 h2 : List HR), ERef K Q (ERef K Q E h2) h1 = ERef K Q E (h1 ++ h2)
  | [], h2 => rfl
  | (C, n, tag) :: r, h2 => by
    funext cls d H'
    show (∃ b, _) = (∃ b, _)
    rw [ERef.app r h2]
    rfl
theorem SameT.non {H H1 : Hp} (s : SameT H H1) {a : Addr} (h : H1 a = none) : H a = none := by
  cases e : H a with
  | none => rfl
  | some o => exact absurd h (s.th (a, false) (NN.of e))
variable {P : Addr} {tB : XK → TE} {FB : QL.S → Res SV}
variable {X : Cx} {kb k : Nat} {x : Str} {c : Addr} {params : Arguments} {body : Expr} {scope : Scope} {t : XK → TE} {p lpos pos : Pos}
end
end QL
namespace QL
open PySem PySem.Spec L2 LamX
end QL
namespace QL
open PySem
mutual
/-- data at a value; a dict stands anywhere but at the modules' own -/
inductive Rdx (h : Heap) : Value → PyData → Prop
  | none : Rdx h .none .none
  | bool (b) : Rdx h (.bool b) (.bool b)
  | int (i t) : Rdx h (.int i t) (.int i)
  | str (x t) : Rdx h (.str x t) (.str x)
  | list {a o vs n xs} : h.get? a = some o → o.cls = .type "list" → o.data = .seq vs n → RdxAll h vs.toList xs → Rdx h (.ref a) (.list xs)
  | tuple {a o vs n xs} : h.get? a = some o → o.cls = .type "tuple" → o.data = .seq vs n → RdxAll h vs.toList xs → Rdx h (.ref a) (.tuple xs)
  | dict {a o es n kvs} : h.get? a = some o → o.cls = .type "dict" → o.data = .dict es n → (a == sysModules) = false → RdxAll h (es.toList.map (·.key)) (kvs.map (·.1)) → RdxAll h (es.toList.map (·.val)) (kvs.map (·.2)) → Rdx h (.ref a) (.dict kvs)
inductive RdxAll (h : Heap) : List Value → List PyData → Prop
  | nil : RdxAll h [] []
  | cons {v vs d ds} : Rdx h v d → RdxAll h vs ds → RdxAll h (v :: vs) (d :: ds)
end
mutual
theorem Rdx.reads {h : Heap} : ∀ {v : Value} {d : PyData}, Rdx h v d → ∃ as, Reads h v d as
  | _, _, .none => ⟨_, .none⟩
  | _, _, .bool b => ⟨_, .bool b⟩
  | _, _, .int i t => ⟨_, .int i t⟩
  | _, _, .str x t => ⟨_, .str x t⟩
  | _, _, .list h1 h2 h3 h4 => let ⟨_, r⟩ := RdxAll.reads h4; ⟨_, .list h1 h2 h3 r⟩
  | _, _, .tuple h1 h2 h3 h4 => let ⟨_, r⟩ := RdxAll.reads h4; ⟨_, .tuple h1 h2 h3 r⟩
  | _, _, .dict h1 h2 h3 _ h4 h5 => let ⟨_, r⟩ := RdxAll.reads h4; let ⟨_, r2⟩ := RdxAll.reads h5; ⟨_, .dict h1 h2 h3 r r2⟩
theorem RdxAll.reads {h : Heap} : ∀ {vs : List Value} {ds : List PyData}, RdxAll h vs ds → ∃ as, ReadsAll h vs ds as
  | _, _, .nil => ⟨_, .nil⟩
  | _, _, .cons r rs => let ⟨_, a⟩ := Rdx.reads r; let ⟨_, b⟩ := RdxAll.reads rs; ⟨_, .cons a b⟩
end
variable {prog : Program} {w : World} {h : Heap}
end QL
namespace QL
open PySem PySem.Spec L2
def showA (d : D) : Bool := d.showable && decide (d.depth ≤ 60) && decide (d.shown.length ≤ sizeLine)
def dReprA : List D → Option OV
  | [d] => if showA d = true then some (.fz (.str d.shown)) else none
  | _ => none
mutual
theorem R.nil {K : PySem.W.Frag} {O : List Addr} {H : Hp} : ∀ (d : D) (v : V), R K O H d v → R K [] H d v
  | .none, v, r => by simpa only [R] using r
  | .bool b, v, r => by simpa only [R] using r
  | .int i, v, r => by simpa only [R] using r
  | .str x, v, r => by simpa only [R] using r
  | .list ds, v, r => by
    simp only [R] at r ⊢
    obtain ⟨a, vs, h1, h2, h3, h4⟩ := r
    exact ⟨a, vs, h1, by simp, h3, Rs.nil ds vs h4⟩
  | .tuple ds, v, r => by
    simp only [R] at r ⊢
    obtain ⟨a, vs, h1, h2, h3⟩ := r
    exact ⟨a, vs, h1, h2, Rs.nil ds vs h3⟩
  | .dict kvs, v, r => by
    simp only [R] at r ⊢
    obtain ⟨a, h1, h2, h3⟩ := r
    refine ⟨a, h1, by simp, ?_⟩
    rcases h3 with ⟨ws, q, q2⟩ | ⟨ws, q, q2⟩ | ⟨C, dx, ws, q, q2⟩
    · exact .inl ⟨ws, q, RK.nil kvs ws q2⟩
    · exact .inr (.inl ⟨ws, q, RT.nil kvs ws q2⟩)
    · exact .inr (.inr ⟨C, dx, ws, q, RO'.nil C kvs ws q2⟩)
theorem Rs.nil {K : PySem.W.Frag} {O : List Addr} {H : Hp} : ∀ (ds : List D) (vs : List V), Rs K O H ds vs → Rs K [] H ds vs
  | [], vs, r => by simpa only [Rs] using r
  | d :: ds, vs, r => by
    simp only [Rs] at r ⊢
    obtain ⟨v, ws, h1, h2, h3⟩ := r
    exact ⟨v, ws, h1, R.nil d v h2, Rs.nil ds ws h3⟩
theorem RK.nil {K : PySem.W.Frag} {O : List Addr} {H : Hp} : ∀ (kvs : List (D × D)) (ws : List (Key × V)), RK K O H kvs ws → RK K [] H kvs ws
  | [], ws, r => by simpa only [RK] using r
  | (k, d) :: kvs, ws, r => by
    simp only [RK] at r ⊢
    obtain ⟨c, v, ws', h1, h2, h3, h4⟩ := r
    exact ⟨c, v, ws', h1, h2, R.nil d v h3, RK.nil kvs ws' h4⟩
theorem RT.nil {K : PySem.W.Frag} {O : List Addr} {H : Hp} : ∀ (kvs : List (D × D)) (ws : List (List Key × V)), RT K O H kvs ws → RT K [] H kvs ws
  | [], ws, r => by simpa only [RT] using r
  | (k, d) :: kvs, ws, r => by
    simp only [RT] at r ⊢
    obtain ⟨c, v, ws', h1, h2, h3, h4⟩ := r
    exact ⟨c, v, ws', h1, h2, R.nil d v h3, RT.nil kvs ws' h4⟩
theorem RF.nil {K : PySem.W.Frag} {O : List Addr} {H : Hp} : ∀ (kvs : List (D × D)) (ws : List (Str × V)), RF K O H kvs ws → RF K [] H kvs ws
  | [], ws, r => by simpa only [RF] using r
  | (k, d) :: kvs, ws, r => by
    simp only [RF] at r ⊢
    obtain ⟨c, v, ws', h1, h2, h3, h4⟩ := r
    exact ⟨c, v, ws', h1, h2, R.nil d v h3, RF.nil kvs ws' h4⟩
theorem RO'.nil {K : PySem.W.Frag} {O : List Addr} {H : Hp} (C : Addr) : ∀ (kvs : List (D × D)) (ws : List (Str × V)), RO' K O H C kvs ws → RO' K [] H C kvs ws
  | [], ws, r => by simp only [RO'] at r
  | (k, d) :: kvs, ws, r => by
    simp only [RO'] at r ⊢
    exact ⟨r.1, r.2.1, RF.nil kvs ws r.2.2⟩
end
end QL
namespace QL
open PySem PySem.Spec L2
def getK (kvs : List (D × D)) (c : Key) : Option D := (kvs.find? fun p => decide (keyD p.1 = some c)).map (·.2)
def getT (kvs : List (D × D)) (c : List Key) : Option D := (kvs.find? fun p => decide (keyT p.1 = some c)).map (·.2)
section
variable {K : PySem.W.Frag} {O : List Addr} {H : Hp}
def RO (K : PySem.W.Frag) (O : List Addr) (H : Hp) : Option D → Option V → Prop
  | none, none => True
  | some d, some v => R K O H d v
  | _, _ => False
theorem RO.isSome {o : Option D} {o' : Option V} (h : RO K O H o o') : o'.isSome = o.isSome := by
  cases o <;> cases o' <;> first | rfl | exact h.elim
theorem RK.get (c : Key) : ∀ {kvs : List (D × D)} {ws : List (Key × V)}, RK K O H kvs ws → RO K O H (getK kvs c) (valV ws c)
  | [], _, h => by simp only [RK] at h; subst h; exact trivial
  | (k, d) :: r, _, h => by
    simp only [RK] at h
    obtain ⟨c', v, ws, e, e2, h1, h2⟩ := h
    subst e e2
    have ih := RK.get c h2
    unfold getK valV at ih ⊢
    rw [List.find?_cons, List.find?_cons]
    by_cases q : c' = c
    · subst q
      simp only [keyD_kD, decide_true, Option.map_some]
      exact h1
    · have q' : ¬ (keyD (kD c') = some c) := by rw [keyD_kD]; simpa using q
      simp only [decide_eq_false q', decide_eq_false q]
      exact ih
theorem RT.get (c : List Key) : ∀ {kvs : List (D × D)} {ws : List (List Key × V)}, RT K O H kvs ws → RO K O H (getT kvs c) (valV ws c)
  | [], _, h => by simp only [RT] at h; subst h; exact trivial
  | (k, d) :: r, _, h => by
    simp only [RT] at h
    obtain ⟨c', v, ws, e, e2, h1, h2⟩ := h
    subst e e2
    have ih := RT.get c h2
    unfold getT valV at ih ⊢
    rw [List.find?_cons, List.find?_cons]
    by_cases q : c' = c
    · subst q
      simp only [keyT_map, decide_true, Option.map_some]
      exact h1
    · have q' : ¬ (keyT (.tuple (c'.map kD)) = some c) := by rw [keyT_map]; simpa using q
      simp only [decide_eq_false q', decide_eq_false q]
      exact ih
end
/-- what a slot's dict holds at k -/
def lkS (r : S) (i : Nat) (k : D) : Option (Option D) := match r.sl[i]? with
  | some (some (.od kvs)) => (keyD k).map (getK kvs)
  | some (some (.ot kvs)) => (keyT k).map (getT kvs)
  | some (some (.fz (.dict (p :: kvs)))) => match keyD k with
    | some c => if (keyD p.1).isSome then some (getK (p :: kvs) c) else none
    | none => match keyT k with
      | some c => if (keyT p.1).isSome then some (getT (p :: kvs) c) else none
      | none => none
  | _ => none
/-- a slot that is a dict -/
def isDS (r : S) (i : Nat) : Bool := match r.sl[i]? with
  | some (some (.od _)) => true
  | some (some (.ot _)) => true
  | some (some (.fz (.dict kvs))) => !isOb kvs
  | _ => false
section
variable {K : PySem.W.Frag} {mg : Str → Option Value} {W : WX} {γ : Gh} {O Oc fs : List Addr} {H : Hp} {r : S} {σ : St} {i : Nat} {k : D} {y : V} {o : Option D}
/-- k in d, k not in d -/
def fInS (f : Bool → Bool) (i : Nat) (FK : S → Res D) : S → Res SV := fun r => (FK r).bind fun k r => match lkS r i k with
  | some o => .ok (.fz (.bool (f o.isSome))) r
  | none => .bad
/-- d[k] -/
def fGetS (i : Nat) (FK : S → Res D) : S → Res SV := fun r => if isDS r i = true then (FK r).bind fun k r => match lkS r i k with
  | some (some d) => .ok (.fz d) r
  | _ => .bad else .bad
/-- d.get(k) -/
def fGet1S (i : Nat) (FK : S → Res D) : S → Res SV := fun r => if isDS r i = true then (FK r).bind fun k r => match lkS r i k with
  | some o => .ok (.fz (o.getD .none)) r
  | _ => .bad else .bad
theorem RO.getD {o : Option D} {o' : Option V} {d : D} {v : V} (h : RO K O H o o') (hd : R K O H d v) : R K O H (o.getD d) (o'.getD v) := by
  cases o <;> cases o' <;> first | exact hd | exact h | exact h.elim
/-- d.get(k, x) -/
def fGet2S (i : Nat) (FK FX : S → Res D) : S → Res SV := fun r => if isDS r i = true then (FK r).bind fun k r => (FX r).bind fun x r => match lkS r i k with
  | some o => .ok (.fz (o.getD x)) r
  | _ => .bad else .bad
end
end QL
namespace QL
open PySem PySem.Spec L2
def outN (R : FR) (r : S) : Res SV := match R with
  | .ok (.fz (.list xs)) _ => if flatAll xs = true then .ok (.ol xs) r else .bad
  | .ok (.ol xs) _ => .ok (.ol xs) r
  | .exc c f _ => if flatAll (f.map (·.2)) = true then .exc c f r else .bad
  | _ => .bad
def fCallN (n : Nat) (F : List D → FR) (FL : S → Res (List D)) : S → Res SV := fun r => (FL r).bind fun ds r => if ds.length = n ∧ flatAll ds = true then outN (F ds) r else .bad
end QL
namespace QL
open PySem PySem.Spec L2
def olsS (m : Nat) : List SV → Option (List (List D))
  | [] => some []
  | .ol ds :: r => if ds.length + m ≤ sizeLine then (olsS m r).map (ds :: ·) else none
  | _ => none
def ROL (K : PySem.W.Frag) (O : List Addr) (H : Hp) : List (List D) → List Addr → Prop
  | [], as => as = []
  | ds :: r, as => ∃ a as' us, as = a :: as' ∧ H a = some (.lst us) ∧ Rs K O H ds us ∧ ROL K O H r as'
section
variable {K : PySem.W.Frag} {mg : Str → Option Value} {W : WX} {γ : Gh} {Oc Oc' O O' : List Addr} {r r1 r2 rA rB : S} {σ σ' σ2 : St} {H H' H1 H2 H3 : Hp} {fs fs1 fp fA fB fB' : List Addr}
theorem ROL.len : ∀ {dss : List (List D)} {as : List Addr}, ROL K O H dss as → as.length = dss.length
  | [], as, h => by have h : as = [] := h; subst h; rfl
  | d :: dss, as, h => by
    obtain ⟨a, as', us, e, _, _, h⟩ := h
    subst e
    rw [List.length_cons, List.length_cons, h.len]
theorem ROL.us {m : Nat} : ∀ {dss : List (List D)} {as : List Addr}, ROL K O H dss as → (∀ ds ∈ dss, ds.length + m ≤ sizeLine) → ∀ a ∈ as, ∃ us, H a = some (.lst us) ∧ us.length + m ≤ sizeLine
  | [], as, h, _, a, ha => by have h : as = [] := h; subst h; cases ha
  | d :: dss, as, h, n, b, hb => by
    obtain ⟨a, as', us, e, h1, h2, h⟩ := h
    subst e
    rcases List.mem_cons.mp hb with hb | hb
    · subst hb; exact ⟨us, h1, by rw [h2.len]; exact n d (by simp)⟩
    · exact ROL.us h (fun e he => n e (List.mem_cons_of_mem _ he)) b hb
theorem ROL.stab (ow : Own O H) (st : Stab O H O' H') : ∀ {dss : List (List D)} {as : List Addr}, (∀ a ∈ as, H' a = H a) → ROL K O H dss as → ROL K O' H' dss as
  | [], as, _, h => h
  | d :: dss, as, k, h => by
    obtain ⟨a, as', us, e, h1, h2, h⟩ := h
    subst e
    exact ⟨a, as', us, rfl, by rw [k a (by simp)]; exact h1, Rs.stab ow st _ _ h2, ROL.stab ow st (fun b hb => k b (List.mem_cons_of_mem _ hb)) h⟩
theorem SimSAt.all {ι : Sort _} {P : ι → Ends → Prop} {t : Ends → Prop} {R : RS} (ht : ∀ E, (∀ x, P x E) → t E) (h : ∀ x, SimSAt K mg W γ Oc H fs (P x) R) : SimSAt K mg W γ Oc H fs t R := by
  intro E
  have z := fun x => h x E
  cases R with
  | bad => trivial
  | nx r' => exact fun q => ht E fun x => z x q
  | bk r' => exact fun q => ht E fun x => z x q
  | ct r' => exact fun q => ht E fun x => z x q
  | rt x r' => exact fun q => ht E fun x => z x q
  | exc c f r' => exact fun q => ht E fun x => z x q
end
section
variable {X : Cx} {W : WX} {i n m : Nat} {st : Stmt} {rest : List Stmt} {t u tm : TS} {B B1 B2 : S → RS}
def sNest (i n m : Nat) (FL : S → Res (List SV)) (T : S → Res Bool) (A B : S → RS) : S → RS := fun r => (FL r).bindS fun xs r1 => match olsS m xs with
  | some dss => if dss.length = n ∧ i < r1.sl.length ∧ n ≤ sizeLine then (T { r1 with sl := r1.sl.set i (some (.fz (.list (dss.map .list)))) }).bindS fun b r2 => if b then sSeq A sBad r2 else B ⟨r1.sl.set i none, r2.tp⟩ else .bad
  | none => .bad
end
end QL
namespace QL
open PySem PySem.Spec L2
end QL
namespace QL
open PySem PySem.Spec L2
def eOrI (fa : S → Res D) (G : S → Res SV) : S → Res SV := fun r => (fa r).bind fun x r => match x with
  | .int i => if i = 0 then G r else Res.ok (SV.fz (PyData.int i)) r
  | _ => Res.bad
abbrev PT3 := Addr × Int × Str
def prD (b : PT3) : PyData := .tuple [.int b.2.1, .str b.2.2]
end QL
namespace QL
open PySem PySem.Spec L2
section
variable {K : PySem.W.Frag} {mg : Str → Option Value} {W : WX} {γ : Gh} {Oc : List Addr} {r : S} {σ : St} {H H' : Hp} {fs fs' fp : List Addr} {a : Addr} {u : HO} {od : Obj}
def kysD : List (D × D) → List D := List.map Prod.fst
end
end QL
namespace QL
open PySem PySem.Spec L2
section
variable {X : Cx} {W : WX} {e tg : Expr} {st : Stmt} {B : S → RS} {t : TS} {gt : TG} {pos : Pos} {GF : D → S → Option S}
/-- the keys of the dict in a slot -/
def fDk (i : Nat) : S → Res (List D) := fun r => (fV i r).bind fun d r => match d with
  | .dict kvs => bif isOb kvs then .bad else .ok (kysD kvs) r
  | _ => .bad
/-- nothing is raised -/
def RS.still : RS → RS
  | .exc _ _ _ => .bad
  | x => x
def sForK (i : Nat) (G : D → S → Option S) (B : S → RS) : S → RS := fun r => (fDk i r).bindS fun ds r => (forF G B ds r).still
end
end QL
namespace QL
open PySem PySem.Spec L2
def lookF (f : Str) : List (D × D) → Option D
  | [] => none
  | (.str x, d) :: r => if f = x then some d else lookF f r
  | _ :: r => lookF f r
def putFD (f : Str) (d : D) : List (D × D) → List (D × D)
  | [] => [(.str f, d)]
  | (.str x, e) :: r => if x = f then (.str x, d) :: r else (.str x, e) :: putFD f d r
  | p :: r => p :: putFD f d r
section
variable {K : PySem.W.Frag} {O : List Addr} {H : Hp}
theorem RF.look (f : Str) : ∀ {fs : List (D × D)} {ws : List (Str × V)}, RF K O H fs ws → match lookF f fs with
    | some d => ∃ v, ws.lookup f = some v ∧ R K O H d v
    | none => ws.lookup f = none
  | [], ws, h => by simp only [RF] at h; subst h; rfl
  | (k, d) :: r, ws, h => by
    simp only [RF] at h
    obtain ⟨x, v, ws', e, ek, h1, h2⟩ := h
    subst e ek
    by_cases q : f = x
    · subst q
      simp only [lookF, if_pos, List.lookup, beq_self_eq_true]
      exact ⟨v, rfl, h1⟩
    · have ih := RF.look f h2
      simp only [lookF, if_neg q]
      have e : List.lookup f ((x, v) :: ws') = List.lookup f ws' := by
        rw [List.lookup_cons, beq_false_of_ne q]
      rw [e]
      exact ih
theorem RF.put {f : Str} {d : D} {v : V} (hd : R K O H d v) : ∀ {fs : List (D × D)} {ws : List (Str × V)}, RF K O H fs ws → RF K O H (putFD f d fs) (putF f v ws)
  | [], ws, h => by
    simp only [RF] at h; subst h
    simp only [putFD, putF, RF]
    exact ⟨f, v, [], rfl, rfl, hd, rfl⟩
  | (k, e) :: r, ws, h => by
    simp only [RF] at h
    obtain ⟨x, u, ws', e1, ek, h1, h2⟩ := h
    subst e1 ek
    by_cases q : f = x
    · subst q
      simp only [putFD, putF, if_pos, RF]
      exact ⟨f, v, ws', rfl, rfl, hd, h2⟩
    · have ih := RF.put (f := f) hd h2
      simp only [putFD, putF, if_neg (Ne.symm q), RF]
      exact ⟨x, u, _, rfl, rfl, h1, ih⟩
theorem RF.len : ∀ {fs : List (D × D)} {ws : List (Str × V)}, RF K O H fs ws → ws.length = fs.length
  | [], ws, h => by simp only [RF] at h; subst h; rfl
  | (k, d) :: r, ws, h => by
    simp only [RF] at h
    obtain ⟨x, v, ws', e, ek, h1, h2⟩ := h
    subst e
    simp [RF.len h2]
end
/-- the class has no such name -/
def NoA (K : PySem.W.Frag) (c f : Str) : Prop := ∀ C, PySem.W.nsIn K mainGlobals c = some (some (.ref C)) → NoAttr K C f
theorem ObC.uniq {K : PySem.W.Frag} {c : Str} {C C' : Addr} (h : ObC K c C) (h' : PySem.W.nsIn K mainGlobals c = some (some (.ref C'))) : C = C' := by
  have := h.ns.symm.trans h'
  cases this
  rfl
/-- the fields of an object of a class -/
def fldsOf (c : Str) : D → Option (List (D × D))
  | .dict ((.list _, .str c') :: fs) => if c' = c then some fs else none
  | _ => none
theorem fldsOf_eq {c : Str} {d : D} {fs : List (D × D)} (h : fldsOf c d = some fs) : ∃ l, d = .dict ((.list l, .str c) :: fs) := by
  unfold fldsOf at h
  split at h
  · rename_i l c' fs'
    split at h
    · rename_i e
      subst e
      cases h
      exact ⟨l, rfl⟩
    · cases h
  · cases h
theorem kD_list {c : Key} {l : List D} : ¬ ((PyData.list l : D) = kD c) := by cases c <;> (intro h; cases h)
theorem RE.ob {K : PySem.W.Frag} {γ : Gh} {O : List Addr} {H : Hp} {c : Str} {d : D} {v : V} {fs : List (D × D)} (h : RE K γ O H d v) (e : fldsOf c d = some fs) :
    ∃ a C dx ws, v = .ref a ∧ H a = some (.ins C dx ws) ∧ ObC K c C ∧ RF K O H fs ws := by
  obtain ⟨l, rfl⟩ := fldsOf_eq e
  obtain ⟨a, e1, _, h⟩ := h
  rcases h with ⟨ws, _, h⟩ | ⟨ws, _, h⟩ | ⟨C, dx, ws, q, h⟩
  · simp only [RK] at h
    obtain ⟨k, _, _, _, z, _⟩ := h
    exact absurd z kD_list
  · simp only [RT] at h
    obtain ⟨k, _, _, _, z, _⟩ := h
    cases z
  · simp only [RO'] at h
    obtain ⟨_, ⟨c', z, oc⟩, rf⟩ := h
    cases z
    exact ⟨a, C, dx, ws, e1, q, oc, rf⟩
theorem R.ob {K : PySem.W.Frag} {O : List Addr} {H : Hp} {c : Str} {d : D} {v : V} {fs : List (D × D)} (h : R K O H d v) (e : fldsOf c d = some fs) :
    ∃ a C dx ws, v = .ref a ∧ a ∉ O ∧ H a = some (.ins C dx ws) ∧ ObC K c C ∧ RF K O H fs ws := by
  obtain ⟨l, rfl⟩ := fldsOf_eq e
  simp only [R] at h
  obtain ⟨a, e1, n, h⟩ := h
  rcases h with ⟨ws, _, h⟩ | ⟨ws, _, h⟩ | ⟨C, dx, ws, q, h⟩
  · simp only [RK] at h
    obtain ⟨k, _, _, _, z, _⟩ := h
    exact absurd z kD_list
  · simp only [RT] at h
    obtain ⟨k, _, _, _, z, _⟩ := h
    cases z
  · simp only [RO'] at h
    obtain ⟨_, ⟨c', z, oc⟩, rf⟩ := h
    cases z
    exact ⟨a, C, dx, ws, e1, n, q, oc, rf⟩
/-- x.f -/
def dFld (c f : Str) : D → Option OV := fun d => match fldsOf c d with
  | some fs => (lookF f fs).map .fz
  | none => none
section
variable {X : Cx} {W : WX} {e : Expr} {ta : TE} {fa : S → Res D} {f c : Str} {pos pos' : Pos} {i : Nat}
theorem ex_fld (hn : NoA X.K c f) (ha : BX X W e ta fa) (hb : attributeBase e f X.env (eval e X.env) = eval e X.env := by rfl) : EX X W (.Attribute e f pos) (tFld X.K ta f) (fOp1 (dFld c f) fa) := by
  refine ⟨pe_fld ha.pe hb, sim_op1 (rr := fun x H1 Q => ∃ a C dx fs v, x = .ref a ∧ H1 a = some (.ins C dx fs) ∧ Cls X.K C ∧ NoAttr X.K C f ∧ fs.lookup f = some v ∧ Q v H1) (fun γ O H x v z Q ow hx e hq => ?_) ha.sim⟩
  unfold dFld at e
  split at e
  · rename_i fs ef
    obtain ⟨d, e1, e2⟩ := Option.map_eq_some_iff.mp e
    subst e2
    obtain ⟨a, C, dx, ws, e3, q, oc, rf⟩ := hx.ob ef
    have l := rf.look f
    rw [e1] at l
    obtain ⟨u, l, ru⟩ := l
    exact ⟨a, C, dx, ws, u, e3, q, oc.ic.cl, hn C oc.ns, l, hq u ru⟩
  · cases e
/-- self.f = e -/
def sFst (c : Str) (i : Nat) (f : Str) (FA : S → Res D) : S → RS := fun r => (FA r).bindS fun d r => match r.sl[i]? with
  | some (some (.ob c' fs)) => if c' = c ∧ fs.length < 1000 then RS.nx { r with sl := r.sl.set i (some (.ob c' (putFD f d fs))) } else RS.bad
  | _ => RS.bad
theorem sim_fst {K : PySem.W.Frag} {mg : Str → Option Value} {i : Nat} {f : Str} {c : Str} (hn : NoA K c f) (h : Sim K mg W (PF K) ta fa) :
    SimS K mg W (sFld K (tVar i) ta f) (sFst c i f fa) := by
  intro γ Oc r σ H fs g
  unfold sFst
  refine SimSAt.bindE (t2 := fun (y : V) (H1 : Hp) (E : Ends) => tVar i σ H1 fun x H2 => ∃ a C dx fs, x = .ref a ∧ H2 a = some (.ins C dx fs) ∧ Cls K C ∧ NoAttr K C f ∧ fs.length < 1000 ∧
    E.nx σ (upd H2 a (.ins C dx (putF f y fs)))) (h γ Oc r σ H fs g) fun d r1 y H1 ⟨fs1, g1, v1, s1⟩ => ?_
  refine SimSAt.tr s1.evo ?_
  split
  · rename_i c' kvs e0
    split
    · rename_i hc
      obtain ⟨hc, hl⟩ := hc
      subst hc
      intro E hq
      obtain ⟨v, f', ev, hv⟩ := g1.slotV e0
      obtain ⟨C, dx, ws, eva, ha, rf, ef, oc⟩ := hv
      subst eva
      refine ⟨.ref γ.sc, ev, γ.sc, C, dx, ws, rfl, ha, oc.ic.cl, hn C oc.ns, by rw [rf.len]; exact hl, hq σ _ ⟨fs1, ?_⟩⟩
      refine g1.mut (x' := .ob c' (putFD f d kvs)) e0 ev (fun u f2 hu eu => ?_) (o := .ins C dx (putF f y ws)) trivial fun st => ⟨C, dx, _, rfl, upd_same, RF.stab g1.ow st _ _ (rf.put v1), rfl, oc⟩
      obtain ⟨_, _, _, _, _, _, z, _⟩ := hu
      exact z
    · exact fun E => trivial
  · exact fun E => trivial
theorem sx_fst {o value : Expr} (hn : NoA X.K c f) (ho : PE X o (tVar i)) (h : FX X W value ta fa) (hs : swapsWith value (some (.Attribute o f pos')) pos.line X.env = pure false := by rfl) :
    SX X W (.Assign [.Attribute o f pos'] value pos) (sFld X.K (tVar i) ta f) (sFst c i f fa) := ⟨ps_fld ho h.pe hs, sim_fst hn h.sim⟩
end
/-- what an __init__ does: the fields at its end -/
def outI (R : RS) : FR := match R with
  | .nx r => match r.sl[0]? with
    | some (some (SV.ob c fs)) => .ok (.ob c fs) none
    | _ => .bad
  | .exc c f r => .exc c f r.tp
  | _ => .bad
def bodyI (n : Nat) (c : Str) (B : S → RS) (ds : List D) : FR := outI (B (mkS n (.ob c [] :: ds.map .fz) none))
/-- the contract of an __init__: the object first, without fields -/
def spI (K : PySem.W.Frag) (mg : Str → Option Value) (n : Nat) (c : Str) (F : List D → FR) : Sp := fun vs H Q E => ∃ (x C dx : Addr) (vs' : List V) (ds : List D) (O : List Addr), vs = .ref x :: vs' ∧ vs'.length = n ∧ H x = some (.ins C dx []) ∧ ObC K c C ∧
  Own O H ∧ (x :: O).Nodup ∧ Rs K (x :: O) H ds vs' ∧ match F ds with
  | .ok (.ob c' fs) _ => ∀ H' C' dx' ws, SameU x H H' → H' x = some (.ins C' dx' ws) → ObC K c' C' → RF K O H' fs ws → Q .non H'
  | .exc c f _ => ∀ C d H', SameU x H H' → mg c = some (.ref C) → XR K O H' f d → E (.ref C) d H'
  | _ => False
section
variable {P : Program} {w : World} {K : PySem.W.Frag} {mg : Str → Option Value} {base : Heap} {k n : Nat} {f : Addr} {fd : FuncData} {ps N : List Str} {qual x : Str} {st : Stmt} {B : S → RS} {c : Str}
theorem Good.startI {H : Hp} {O : List Addr} {N : List Str} {ds : List D} {vs : List V} {a C dx : Addr} (ow : Own O H) (nd : (a :: O).Nodup) (ha : H a = some (.ins C dx [])) (oc : ObC K c C) (h : Rs K (a :: O) H ds vs) :
    Good K ⟨none, a, [], []⟩ O (mkS N.length (.ob c [] :: ds.map .fz) none) (L2.start N (.ref a :: vs)) H [a] := by
  refine ⟨⟨[a], [], rfl, ?_, rfl⟩, nd, fun b z => ?_, fun z => absurd rfl z, tabs0⟩
  · unfold mkS L2.start
    rw [List.map_cons, List.map_cons, List.map_map, List.length_cons, List.length_cons, h.len, List.length_map]
    exact ⟨.ref a, _, [a], [], rfl, rfl, ⟨C, dx, [], rfl, ha, rfl, rfl, oc⟩, Slots.start h⟩
  · rcases List.mem_append.mp z with z | z
    · rw [List.mem_singleton.mp z]
      exact ⟨_, ha, trivial⟩
    · exact ow b z
/-- an __init__, by its body's mirror -/
theorem fg_init (F : Fun K x qual st f fd) (S : FnScope N ps (defScope st)) (hn : ps.length = n + 1)
    (hb : ∀ (cdv : Value) (A : Around) (out : List Env) (s : Shared) (H : Hp) (E : XK), A.guards = some [] → Room k (A.deeper (PyProof.Rows.envOfC qual (defScope st) s.heap.objs.size f cdv)) →
      ∃ t, SSX (cxOf (L2.CX P w) P w K mg base N qual (defScope st) f cdv A out s H E) (fun c d _ H' => E c d H') (defBody st) t B) : FnG P w K mg base (k + 1) f fd ps (spI K mg n c (bodyI N.length c B)) := by
  refine fg_of F S (fun vs H Q E h => ?_) fun cdv A out s H vs Q E hG hr h => ?_
  · obtain ⟨a, C, dx, vs', ds, O, e, hl, _⟩ := h
    rw [e, List.length_cons, hl, hn]
  · obtain ⟨t, ht⟩ := hb cdv A out s H E hG hr
    refine ⟨t, ht.ps, ?_⟩
    obtain ⟨a, C, dx, vs', ds, O, e0, hl, ha, oc, ow, nd, rs, h⟩ := h
    subst e0
    have g := Good.startI (N := N) ow nd ha oc rs
    refine SimSAt.use (ht.sim _ _ _ _ _ _ g) ?_
    unfold bodyI at h
    have same : ∀ {fs' : List Addr} {H' : Hp}, Evo [a] H fs' H' → SameU a H H' := fun e => ⟨fun b o ho n ht => e.keep b o ho (by simpa using n) ht, e.there, e.tb⟩
    have na : a ∉ O := fun z => (List.nodup_cons.mp nd).1 z
    cases eB : B (mkS N.length (.ob c [] :: ds.map .fz) none) with
    | bad => rw [eB] at h; exact False.elim h
    | bk r => rw [eB] at h; exact False.elim h
    | ct r => rw [eB] at h; exact False.elim h
    | rt y r => rw [eB] at h; exact False.elim h
    | nx r =>
      rw [eB] at h
      unfold outI at h
      dsimp only at h
      intro σ' H' ⟨fs', g', e⟩
      split at h
      · rename_i fr y tp eR
        split at eR
        · rename_i c' kvs e0
          cases eR
          obtain ⟨v, f', ev, hv⟩ := g'.slotV e0
          obtain ⟨C', dx', ws, eva, ha', rf, ef, oc'⟩ := hv
          exact h H' C' dx' ws (same e) ha' oc' (RF.stab g'.ow (Stab.weak (fun b z => List.mem_append_right _ z) fun _ _ z => z) _ _ rf)
        · cases eR
      · rename_i eR
        split at eR <;> cases eR
      · exact False.elim h
    | exc cc fl r =>
      rw [eB] at h
      intro C' d σ' H' ⟨fs', g', e, m, xr⟩
      exact h C' d H' (same e) m (xr_sub g'.ow (fun b z => List.mem_append_right _ z) xr)
end
end QL
namespace QL
open PySem PySem.Spec L2
def tMakeG (K : PySem.W.Frag) (c : Str) (sp : Sp) (E : St → XK) (t : TA) : TE := fun σ H Q => t σ H fun vs H1 => ∀ C x dx, ObC K c C → H1 x = Option.none → H1 dx = Option.none → dx ≠ x →
  sp (V.ref x :: vs) (upd (upd H1 dx (.own x)) x (.ins C dx [])) (fun v H2 => v = .non ∧ Q (.ref x) H2) (E σ)
/-- the data of what is made -/
def mkO (F : List D → FR) : List D → FR := fun ds => match F ds with
  | .ok (.ob c fs) tp => .ok (.fz (obD c fs)) tp
  | .exc c f tp => .exc c f tp
  | _ => .bad
section
variable {X : Cx} {k n : Nat} {f C : Addr} {fd : FuncData} {ps : List Str} {sp : Sp} {x c : Str} {p pos : Pos} {e : Expr} {es : List Expr} {t tl : TA} {W : WX} {F : List D → FR} {FL : S → Res (List D)}
theorem run_makeF {pins : List (Addr × Obj)} {σ : St} {H : Hp} {s : Shared} {Q : VK} {us : List Value} {vs : List V} (M : Mk X.K C f) (F : FnG X.prog X.w X.K X.mg X.base k f fd ps sp) (hG : X.A.guards = some []) (hr : Room (k + 1) X.A) (hb : Binds X.K fd ps []) (tk : Takes X W)
    (I : Inv X pins σ H s) (r : Vals vs us)
    (h : ∀ x dx, H x = Option.none → H dx = Option.none → dx ≠ x → sp (V.ref x :: vs) (upd (upd H dx (.own x)) x (.ins C dx [])) (fun v H2 => v = .non ∧ Q (.ref x) H2) (WE W σ)) :
    wpAny (model X.prog X.w) X.A (call (.ref C) us) (EP X pins σ Q) X.xe s := by
  have hq := h (s.heap.objs.size + 1) s.heap.objs.size (I.hok.fresh (Nat.le_succ _)) (I.hok.fresh (Nat.le_refl _)) (Nat.ne_of_lt (Nat.lt_succ_self _))
  have I2 := Inv.made (C := C) I
  have r2 : Vals (V.ref (s.heap.objs.size + 1) :: vs) (Value.ref (s.heap.objs.size + 1) :: us) := .cons rfl r
  have hl : (Value.ref (s.heap.objs.size + 1) :: us).length = ps.length := by rw [← r2.length]; exact F.len _ _ _ _ hq
  refine wpAny_call (make_map (f := f) I.kIn M.makes M.init (beq_iff_eq.mp M.fn) (codeAny_mono (F.run _ X.stack _ _ ⟨Value.ref (s.heap.objs.size + 1) :: us, []⟩ (Value.ref (s.heap.objs.size + 1) :: us) _ _ (WE W σ) hG (hr.make C us []) (I2.env0.make C us []) ?_ r2 hq) fun r s' hq' => ?_))
  · have hbs := hb _ (Value.ref (s.heap.objs.size + 1) :: us) I2.kIn (by simpa using hl)
    rw [List.append_nil] at hbs
    exact hbs
  cases r with
  | error e => exact passAt tk σ pins _ _ e s' I2 hq'
  | ok fl =>
    cases fl with
    | ret u =>
      obtain ⟨v, H', I3, rv, ev, q3⟩ := I2.after hq'
      subst ev
      exact ⟨rv, ⟨V.ref (s.heap.objs.size + 1), H', I3, rfl, q3⟩⟩
    | next => exact False.elim hq'
    | brk => exact False.elim hq'
    | cont => exact False.elim hq'
theorem pe_makeF (oc : ObC X.K c C) (M : Mk X.K C f) (F : FnG X.prog X.w X.K X.mg X.base k f fd ps sp) (hG : X.A.guards = some []) (hr : Room (k + 1) X.A) (hg : Gl X x) (hm : X.mg x = some (.ref C)) (hb : Binds X.K fd ps []) (tk : Takes X W)
    (ha : PA X (e :: es) t) (hdb : (x == ("__debug__" : Str)) = false := by decide) (he : starEach (e :: es) X.env = (false, eval e X.env) :: starEach es X.env := by rfl) (hpl : (backTo pos (starEach es X.env)).any (·.1) = false := by rfl) :
    PE X (.Call (.Name x p) (e :: es) [] pos) (tMakeG X.K c sp (WE W) t) :=
  ⟨fun pins s σ H Q I h => wpAny_Call_Name_kw (ld_glob I hg hm (PySem.W.callWith_K (h₀ := X.base) I.ok.mod.kin M.kp (thn (ha.run pos pins s σ H _ I h) fun us s1 ⟨vs, H1, I1, rv, q⟩ => ⟨I1.kIn, run_makeF M F hG hr hb tk I1 rv fun x dx => q C x dx oc⟩) he hpl) hdb)⟩
end
section
variable {K : PySem.W.Frag} {mg : Str → Option Value} {W : WX} {n : Nat} {F : List D → FR} {FL : S → Res (List D)} {tl : TA} {C : Addr} {c : Str}
theorem sim_make (h : Sim K mg W (PL K) tl FL) : Sim K mg W (PV K) (tMakeG K c (spI K mg n c F) (WE W) tl) (fCall n (mkO F) FL) := by
  intro γ Oc r σ H fs g
  refine SimAt.bind (t2 := fun (vs : List V) (H1 : Hp) (Q : VK) => ∀ C x dx, ObC K c C → H1 x = Option.none → H1 dx = Option.none → dx ≠ x →
    spI K mg n c F (V.ref x :: vs) (upd (upd H1 dx (.own x)) x (.ins C dx [])) (fun v H2 => v = .non ∧ Q (.ref x) H2) (WE W σ)) (h γ Oc r σ H fs g) fun ds r1 vs H1 ⟨fs1, g1, v1, s1⟩ => ?_
  refine SimAt.tr s1 ?_
  split
  · rename_i hn
    intro Q
    unfold outR mkO
    have pre : ∀ C x dx, ObC K c C → H1 x = Option.none → H1 dx = Option.none → dx ≠ x → ∀ {Q' : VK} {E' : XK}, (match F ds with
        | .ok (.ob c' fs) _ => ∀ H' C' dx' ws, SameU x (upd (upd H1 dx (.own x)) x (.ins C dx [])) H' → H' x = some (.ins C' dx' ws) → ObC K c' C' → RF K (fs1 ++ Oc) H' fs ws → Q' .non H'
        | .exc c f _ => ∀ C' d H', SameU x (upd (upd H1 dx (.own x)) x (.ins C dx [])) H' → mg c = some (.ref C') → XR K (fs1 ++ Oc) H' f d → E' (.ref C') d H'
        | _ => False) → spI K mg n c F (V.ref x :: vs) (upd (upd H1 dx (.own x)) x (.ins C dx [])) Q' E' := fun C x dx oc hx hdx ne Q' E' h => by
      have kp : ∀ a o, H1 a = some o → upd (upd H1 dx (.own x)) x (.ins C dx []) a = some o := fun a o e => by
        rw [upd_ne (ne_of_none e hx), upd_ne (ne_of_none e hdx)]; exact e
      have g2 := g1.kept (SameT.of kp)
      have nx : x ∉ fs1 ++ Oc := fun z => by
        obtain ⟨o, ho, _⟩ := g1.ow x z
        rw [hx] at ho; cases ho
      refine ⟨x, C, dx, vs, ds, fs1 ++ Oc, rfl, by rw [v1.len, hn], upd_same, oc, g2.ow, List.nodup_cons.mpr ⟨nx, g1.nd⟩, ?_, h⟩
      refine Rs.stab g1.ow ?_ _ _ v1
      refine fun a na hn0 => ⟨fun z => ?_, fun u nf rd => ?_, fun u _ q => kp a u q⟩
      · rcases List.mem_cons.mp z with z | z
        · exact hn0 (by rw [z]; exact hx)
        · exact na z
      · rcases rd with q | ⟨o, q⟩
        · exact .inl (kp _ _ q)
        · exact .inr ⟨o, kp _ _ q⟩
    have same : ∀ (C x dx : Addr), H1 x = Option.none → H1 dx = Option.none → dx ≠ x → ∀ {H' : Hp}, SameU x (upd (upd H1 dx (.own x)) x (.ins C dx [])) H' → SameT H1 H' := fun C x dx hx hdx ne H' su => by
      have kp : ∀ a o, H1 a = some o → upd (upd H1 dx (.own x)) x (.ins C dx []) a = some o := fun a o e => by
        rw [upd_ne (ne_of_none e hx), upd_ne (ne_of_none e hdx)]; exact e
      exact ⟨fun a o e ht => su.kp a o (kp a o e) (ne_of_none e hx) ht, fun z h => su.th z (NN.kept kp h), fun P h => su.tb P (h.ext kp)⟩
    cases eF : F ds with
    | bad => trivial
    | ok y tp =>
      cases y with
      | ob c' kvs =>
        dsimp only
        rw [if_pos (show (SV.fz (obD c' kvs)).out = true from rfl)]
        intro hq C x dx oc hx hdx ne
        refine pre C x dx oc hx hdx ne ?_
        rw [eF]
        intro H' C' dx' ws su hx' oc' rf
        have st := same C x dx hx hdx ne su
        have g2 := g1.kept st
        have nx : x ∉ fs1 ++ Oc := fun z => by
          obtain ⟨o, ho, _⟩ := g1.ow x z
          rw [hx] at ho; cases ho
        refine ⟨rfl, hq _ _ ⟨fs1, [], by simpa using g2, ⟨?_, rfl⟩, Stp.same _ _ st, by simp⟩⟩
        show R K _ H' (obD c' kvs) (.ref x)
        simp only [R]
        refine ⟨x, rfl, by simpa using nx, .inr (.inr ⟨C', dx', ws, hx', ?_⟩)⟩
        simp only [RO']
        exact ⟨trivial, ⟨c', rfl, oc'⟩, by simpa using rf⟩
      | _ => trivial
    | exc cc fl tp =>
      dsimp only
      intro hw C x dx oc hx hdx ne
      refine pre C x dx oc hx hdx ne ?_
      rw [eF]
      intro C' d H' su m xr
      have st := same C x dx hx hdx ne su
      exact hw C' d H' ⟨fs1, g1.kept st, Stp.same _ _ st, m, xr⟩
  · exact fun Q => trivial
end
section
variable {X : Cx} {k n : Nat} {f C : Addr} {fd : FuncData} {ps : List Str} {x c : Str} {p pos : Pos} {e : Expr} {es : List Expr} {tl : TA} {W : WX} {F : List D → FR} {FL : S → Res (List D)}
theorem ex_make (oc : ObC X.K c C) (M : Mk X.K C f) (Fn : FnG X.prog X.w X.K X.mg X.base k f fd ps (spI X.K X.mg n c F)) (hG : X.A.guards = some []) (hr : Room (k + 1) X.A) (hg : Gl X x) (hm : X.mg x = some (.ref C)) (hb : Binds X.K fd ps []) (tk : Takes X W)
    (ha : AX X W (e :: es) tl FL) (hdb : (x == ("__debug__" : Str)) = false := by decide) (he : starEach (e :: es) X.env = (false, eval e X.env) :: starEach es X.env := by rfl) (hpl : (backTo pos (starEach es X.env)).any (·.1) = false := by rfl) :
    EX X W (.Call (.Name x p) (e :: es) [] pos) (tMakeG X.K c (spI X.K X.mg n c F) (WE W) tl) (fCall n (mkO F) FL) := ⟨pe_makeF oc M Fn hG hr hg hm hb tk ha.pe hdb he hpl, sim_make ha.sim⟩
end
end QL
namespace PySem.W
open PySem PySem.Calls PyProof.Rows
end PySem.W
namespace QL
open PySem PySem.Spec L2
def aMeth (c m : Str) (FO : S → Res D) (FL : S → Res (List D)) : S → Res (List D) := fun r => (FO r).bind fun d r => match fldsOf c d with
  | some fs => bif (lookF m fs).isNone then (FL r).bind fun ds r => .ok (d :: ds) r else .bad
  | none => .bad
def tOA (K : PySem.W.Frag) (c : Str) (rr : Hp → V → Prop) (ta tb : TE) : TA := fun σ H Q => ta σ H fun x H1 => tb σ H1 fun y H2 => ∃ a C dx fs, x = .ref a ∧ H2 a = some (.ins C dx fs) ∧ ObC K c C ∧ rr H2 y ∧ Q [x, y] H2
/-- an object of the class; an int -/
def rrO (K : PySem.W.Frag) (c : Str) : Hp → V → Prop := fun H y => ∃ b C dx fs, y = .ref b ∧ H b = some (.ins C dx fs) ∧ ObC K c C
def aOwn (c : Str) (q : D → Bool) (FA FB : S → Res D) : S → Res (List D) := fun r => (FA r).bind fun d r => (FB r).bind fun e r => bif (fldsOf c d).isSome && q e then .ok [d, e] r else .bad
def qOb (c : Str) : D → Bool := fun d => (fldsOf c d).isSome
def qInt : D → Bool
  | .int _ => true
  | _ => false
section
variable {K : PySem.W.Frag} {mg : Str → Option Value} {W : WX} {c m : Str} {FO FA FB : S → Res D} {FL : S → Res (List D)} {ta tb : TE} {tl : TA} {q : D → Bool} {rr : Hp → V → Prop}
theorem sim_own (hr : ∀ (O : List Addr) (H : Hp) (d : D) (v : V), R K O H d v → q d = true → rr H v) (h : Sim K mg W (PF K) ta FA) (h' : Sim K mg W (PF K) tb FB) : Sim K mg W (PL K) (tOA K c rr ta tb) (aOwn c q FA FB) := by
  intro γ Oc r σ H fs g
  refine SimAt.bind (t2 := fun x H1 Q => tb σ H1 fun y H2 => ∃ a C dx fs, x = .ref a ∧ H2 a = some (.ins C dx fs) ∧ ObC K c C ∧ rr H2 y ∧ Q [x, y] H2) (h γ Oc r σ H fs g) fun d r1 v H1 ⟨fs1, g1, v1, s1⟩ => ?_
  refine SimAt.tr s1 (SimAt.bind (t2 := fun y H2 Q => ∃ a C dx fs, v = .ref a ∧ H2 a = some (.ins C dx fs) ∧ ObC K c C ∧ rr H2 y ∧ Q [v, y] H2) (h' γ Oc r1 σ H1 fs1 g1) fun e r2 u H2 ⟨fs2, g2, v2, s2⟩ => ?_)
  refine SimAt.tr s2 fun Q => ?_
  have v1' := R.stab g1.ow (g1.stabSub s2) _ _ v1
  cases ef : fldsOf c d with
  | none => exact trivial
  | some kvs =>
    cases eq : q e with
    | false => exact trivial
    | true =>
      obtain ⟨a, C, dx, ws, e1, na, e2, oc, rf⟩ := v1'.ob ef
      intro hq
      refine ⟨a, C, dx, ws, e1, e2, oc, hr _ _ _ _ v2 eq, hq _ _ ⟨fs2, g2, ?_, Stp.refl _ _ _⟩⟩
      simp only [Rs]
      exact ⟨v, [u], rfl, v1', u, [], rfl, v2, rfl⟩
theorem rr_ob (O : List Addr) (H : Hp) (d : D) (v : V) (r : R K O H d v) (h : qOb c d = true) : rrO K c H v := by
  unfold qOb at h
  obtain ⟨fs, e⟩ := Option.isSome_iff_exists.mp h
  obtain ⟨a, C, dx, ws, e1, _, e2, oc, _⟩ := r.ob e
  exact ⟨a, C, dx, ws, e1, e2, oc⟩
end
section
variable {X : Cx} {k n : Nat} {f C : Addr} {fd : FuncData} {ps : List Str} {sp : Sp} {x c m : Str} {p apos pos : Pos} {o e a b : Expr} {es : List Expr} {ta tb : TE} {t tl : TA} {W : WX} {F : List D → FR} {FL : S → Res (List D)} {FO FA FB : S → Res D}
theorem back_ni {pins : List (Addr × Obj)} {σ : St} {Q : VK} {A : Around} {E : Value → Shared → Prop} {s : Shared} {z : Sem Value} (h : wpAny (model X.prog X.w) A z (EP X pins σ Q) E s) : wpAny (model X.prog X.w) A z (PySem.W.CmpBack (EP X pins σ Q)) E s := by
  refine wpAny_mono h (fun u s' q => ?_) fun _ _ e => e
  obtain ⟨v, H', I, rv, q⟩ := q
  cases u <;> first | exact ⟨v, H', I, rv, q⟩ | skip
  exfalso
  cases v <;> first | (cases rv; done) | (obtain ⟨_, z⟩ := rv; cases z)
/-- what an own operator's method must have -/
structure OwnM (K : PySem.W.Frag) (C : Addr) (m : Str) (f : Addr) : Prop where
  at_ : PySem.W.findIn K (.ref C) m = some (some (.ref f))
  fn : PySem.W.isFn K (.ref f) = true
theorem run_eqO {pins : List (Addr × Obj)} {σ : St} {H2 : Hp} {s2 : Shared} {Q : VK} {x y : V} {v u : Value} (oc : ObC X.K c C) (hm : OwnM X.K C "__eq__" f) (F : FnG X.prog X.w X.K X.mg X.base k f fd ps sp) (hG : X.A.guards = some []) (hr : Room k X.A) (hb : Binds X.K fd ps []) (tk : Takes X W)
    (I2 : Inv X pins σ H2 s2) (rx : RelV x v) (ry : RelV y u) (h : ∃ a C dx fs, x = .ref a ∧ H2 a = some (.ins C dx fs) ∧ ObC X.K c C ∧ rrO X.K c H2 y ∧ sp [x, y] H2 Q (WE W σ)) : wpAny (model X.prog X.w) X.A (compareOp .Eq v u) (EP X pins σ Q) X.xe s2 := by
  obtain ⟨a, C', dx, fs, ex, ea, oc', ⟨b, C2, dy, gs, ey, eb, oc2⟩, q⟩ := h
  subst ex ey
  obtain rfl := oc.uniq oc'.ns
  obtain rfl := oc.uniq oc2.ns
  cases rx; cases ry
  obtain ⟨mA, J, _⟩ := ins_get I2.hok ea
  obtain ⟨mB, J', _⟩ := ins_get I2.hok eb
  obtain ⟨od, J, _⟩ := J.look
  obtain ⟨od', J', _⟩ := J'.look
  obtain ⟨m, hF⟩ := I2.fr
  show wpAny (model X.prog X.w) X.A (richCompare .Eq (.ref a) (.ref b)) (EP X pins σ Q) X.xe s2
  exact PySem.W.cmp_K (op := .Eq) (tb := .ref C) hr.units0 hF I2.ok.mod.kin J J'.type (by simp [PySem.W.notFirst]) hm.at_ hm.fn (back_ni (run_fg (us := [.ref a, .ref b]) (vs := [.ref a, .ref b]) F hG hr hb tk I2 (.cons rfl (.cons rfl .nil)) q))
theorem pe_eqO (ha : PE X a ta) (hb' : PE X b tb) (oc : ObC X.K c C) (hm : OwnM X.K C "__eq__" f) (F : FnG X.prog X.w X.K X.mg X.base k f fd ps sp) (hG : X.A.guards = some []) (hr : Room k X.A) (hb : Binds X.K fd ps []) (tk : Takes X W) (hmk : behindInMarks .Eq b = false := by first | rfl | exact nomark _) :
    PE X (.Compare a [.Eq] [b] pos) (tCallS sp (WE W) (tOA X.K c (rrO X.K c) ta tb)) := by
  refine ⟨fun pins s σ H Q I h => ?_⟩
  exact wpAny_Compare1 (binT (R := fun x y H2 => ∃ a C dx fs, x = .ref a ∧ H2 a = some (.ins C dx fs) ∧ ObC X.K c C ∧ rrO X.K c H2 y ∧ sp [x, y] H2 Q (WE W σ)) ha hb' I h fun v u s2 x y H2 I2 rx ry q => run_eqO oc hm F hG hr hb tk I2 rx ry q) hmk
theorem pt_eqO (ha : PE X a ta) (hb' : PE X b tb) (oc : ObC X.K c C) (hm : OwnM X.K C "__eq__" f) (F : FnG X.prog X.w X.K X.mg X.base k f fd ps sp) (hG : X.A.guards = some []) (hr : Room k X.A) (hb : Binds X.K fd ps []) (tk : Takes X W) (hmk : behindInMarks .Eq b = false := by first | rfl | exact nomark _) :
    PT X (.Compare a [.Eq] [b] pos) (tTest (tCallS sp (WE W) (tOA X.K c (rrO X.K c) ta tb))) := by
  refine ⟨fun pins s σ H Q I h => ?_⟩
  refine wpAny_isTrue_Compare1 (thn (ha.run pins s σ H _ I h) fun v s1 ⟨x, H1, I1, r1, q1⟩ => thn (hb'.run pins s1 σ H1 _ I1 q1) fun u s2 ⟨y, H2, I2, r2, q2⟩ =>
    thn (run_eqO oc hm F hG hr hb tk I2 r1 r2 q2) fun c s3 ⟨z, H3, I3, r3, k, e, q3⟩ => ?_) hmk
  subst e
  cases r3
  exact wpAny_truthy_bool ⟨H3, I3, q3⟩
end
end QL
namespace QL
open PySem PySem.Spec L2
def tCls (K : PySem.W.Frag) (c : Str) : TE := fun σ H Q => ∀ C, ObC K c C → Q (.ref C) H
def dIsC (c : Str) : D → Option OV := fun d => bif (fldsOf c d).isSome then some (.fz (.bool true)) else none
section
variable {X : Cx} {W : WX} {a : Expr} {ta : TE} {fa : S → Res D} {c : Str} {C : Addr} {p p2 py pos : Pos}
theorem pe_cls (oc : ObC X.K c C) (hg : Gl X c) (hm : X.mg c = some (.ref C)) (hd : (c == ("__debug__" : Str)) = false := by decide) : PE X (.Name c pos) (tCls X.K c) :=
  ⟨fun pins s σ H Q I h => (pe_glob (v := .ref C) hg hm rfl hd).run pins s σ H Q I (h C oc)⟩
/-- a class of the text, and its name -/
structure DefO (K : PySem.W.Frag) (mg : Str → Option Value) (c : Str) : Prop where
  ex : ∃ C, ObC K c C ∧ mg c = some (.ref C)
end
/-- the class c is made by the __init__ with n arguments -/
structure DefC (P : Program) (w : World) (K : PySem.W.Frag) (mg : Str → Option Value) (base : Heap) (c : Str) (k n : Nat) (F : List D → FR) : Prop where
  ex : ∃ C f fd ps, ObC K c C ∧ Mk K C f ∧ FnG P w K mg base k f fd ps (spI K mg n c F) ∧ mg c = some (.ref C) ∧ Binds K fd ps []
/-- the class's method m, the object with it has n arguments -/
structure DefM (P : Program) (w : World) (K : PySem.W.Frag) (mg : Str → Option Value) (base : Heap) (c m : Str) (k n : Nat) (F : List D → FR) : Prop where
  ex : ∃ C f fd ps, ObC K c C ∧ Meth K C m f ∧ FnG P w K mg base k f fd ps (spF K mg n F) ∧ Binds K fd ps []
section
variable {X : Cx} {W : WX} {o e a b : Expr} {es : List Expr} {ta tb : TE} {tl : TA} {fa fb fo : S → Res D} {FL : S → Res (List D)} {F : List D → FR} {c m : Str} {C : Addr} {p p2 apos pos : Pos} {k k2 n : Nat}
theorem ex_makeD (h : DefC X.prog X.w X.K X.mg X.base c k n F) (hG : X.A.guards = some []) (hr : Room k2 X.A) (tk : Takes X W) (ha : AX X W (e :: es) tl FL) (hk : k + 1 ≤ k2 := by decide) (hg : Gl X c := by rfl)
    (hdb : (c == ("__debug__" : Str)) = false := by decide) (he : starEach (e :: es) X.env = (false, eval e X.env) :: starEach es X.env := by rfl) (hpl : (backTo pos (starEach es X.env)).any (·.1) = false := by rfl) :
    EX X W (.Call (.Name c p) (e :: es) [] pos) (tMakeG X.K c (spI X.K X.mg n c F) (WE W) tl) (fCall n (mkO F) FL) := by
  obtain ⟨C, f, fd, ps, h1, h2, h3, h4, h5⟩ := h.ex
  exact ex_make h1 h2 h3 hG (hr.mono hk) hg h4 h5 tk ha hdb he hpl
theorem ex_eqO (h : DefM X.prog X.w X.K X.mg X.base c "__eq__" k n F) (hG : X.A.guards = some []) (hr : Room k2 X.A) (tk : Takes X W) (ha : FX X W a ta fa) (hb : FX X W b tb fb) (hk : k ≤ k2 := by decide) (hmk : behindInMarks .Eq b = false := by first | rfl | exact nomark _) :
    EX X W (.Compare a [.Eq] [b] pos) (tCallS (spF X.K X.mg n F) (WE W) (tOA X.K c (rrO X.K c) ta tb)) (fCall n F (aOwn c (qOb c) fa fb)) := by
  obtain ⟨C, f, fd, ps, h1, h2, h3, h4⟩ := h.ex
  exact ⟨pe_eqO ha.pe hb.pe h1 ⟨h2.at_, h2.fn⟩ h3 hG (hr.mono hk) h4 tk hmk, sim_call (sim_own (fun O H d v r q => rr_ob O H d v r q) ha.sim hb.sim)⟩
end
end QL
namespace QL
open PySem PySem.Spec L2
def methS (j : Nat) : Stmt → Stmt
  | .ClassDef _ _ _ body _ _ _ _ _ _ _ => body.getD j (.Pass ⟨0, 0, 0, 0⟩)
  | s => s
section
variable {K : PySem.W.Frag} {c : Str} {C : Addr}
theorem kitO {T : String} (h : PySem.W.subIn K (.ref C) (.type T) = some false) (hm : PySem.W.kitMeta T = true) : PySem.W.kitOne K (.ref C) (.type T) = some false := by
  unfold PySem.W.kitOne
  have e : (Value.ref C == Value.type T) = false := Bool.eq_false_iff.mpr fun q => by cases beq_iff_eq.mp q
  rw [e, if_neg (by simp)]
  show (if PySem.W.kitMeta T = true then PySem.W.subIn K (.ref C) (.type T) else none) = some false
  rw [if_pos hm, h]
theorem obC_of (ns : PySem.W.nsIn K mainGlobals c = some (some (.ref C))) (pg : PySem.W.plainGet K C Str.empty = true) (hd : PySem.W.hasDictIn K C = true) (po : PySem.W.plainOver K C = true)
    (sa : PySem.W.findIn K (.ref C) "__setattr__" = some (some (.builtin "object.__setattr__"))) (ha : PySem.W.findIn K (.ref C) "__class__" = some (some (.builtin "object.__class__")))
    (hn : PySem.W.specialIn K (.builtin "object.__class__") "__get__" = some (some (.builtin "getset_descriptor.__get__"))) (htk : PySem.W.takesIn K (.builtin "object.__class__") = some true) (hm : PySem.W.mroIn K C (.type "object") = some true)
    (n1 : PySem.W.subIn K (.ref C) (.type "str") = some false) (n2 : PySem.W.subIn K (.ref C) (.type "int") = some false) (n3 : PySem.W.subIn K (.ref C) (.type "bool") = some false) (n4 : PySem.W.subIn K (.ref C) (.type "list") = some false)
    (n5 : PySem.W.subIn K (.ref C) (.type "tuple") = some false) (n6 : PySem.W.subIn K (.ref C) (.type "dict") = some false) : ObC K c C := by
  refine ⟨ns, ⟨⟨pg, hd, po, sa⟩, ha, hn, htk, hm, if_pos (beq_self_eq_true _)⟩, fun T hT => ?_⟩
  simp only [List.mem_cons, List.mem_nil_iff, or_false] at hT
  rcases hT with rfl | rfl | rfl | rfl | rfl | rfl
  · exact kitO n1 (by decide +kernel)
  · exact kitO n2 (by decide +kernel)
  · exact kitO n3 (by decide +kernel)
  · exact kitO n4 (by decide +kernel)
  · exact kitO n5 (by decide +kernel)
  · exact kitO n6 (by decide +kernel)
theorem noA_of {f : Str} (oc : ObC K c C) (h : PySem.W.findIn K (.ref C) f = some none) : NoA K c f := fun C' hC => by
  obtain rfl := oc.uniq hC
  exact h
end
section
variable {X : Cx} {W : WX} {o e a b : Expr} {es : List Expr} {ta tb : TE} {tl : TA} {fa fb fo : S → Res D} {FL : S → Res (List D)} {F : List D → FR} {c m : Str} {C : Addr} {p p2 apos pos : Pos} {k k2 n : Nat}
theorem tx_eqO (h : DefM X.prog X.w X.K X.mg X.base c "__eq__" k n F) (hG : X.A.guards = some []) (hr : Room k2 X.A) (tk : Takes X W) (ha : FX X W a ta fa) (hb : FX X W b tb fb) (hk : k ≤ k2 := by decide) (hmk : behindInMarks .Eq b = false := by first | rfl | exact nomark _) :
    TX X W (.Compare a [.Eq] [b] pos) (tTest (tCallS (spF X.K X.mg n F) (WE W) (tOA X.K c (rrO X.K c) ta tb))) (tV (fD (fCall n F (aOwn c (qOb c) fa fb)))) := by
  refine ⟨?_, sim_tv (EX.toB (ex_eqO (pos := pos) h hG hr tk ha hb hk hmk)).sim⟩
  obtain ⟨C, f, fd, ps, h1, h2, h3, h4⟩ := h.ex
  exact pt_eqO ha.pe hb.pe h1 ⟨h2.at_, h2.fn⟩ h3 hG (hr.mono hk) h4 tk hmk
theorem fgI {P : Program} {w : World} {K : PySem.W.Frag} {mg : Str → Option Value} {base : Heap} {k n m : Nat} {f : Addr} {fd : FuncData} {ps N : List Str} {qual x c : Str} {st : Stmt} {B : S → RS} {FF : List D → FR} (Fu : Fun K x qual st f fd) (Sc : FnScope N ps (defScope st)) (hF : FF = bodyI m c B) (hm : N.length = m) (hn : ps.length = n + 1)
    (hb : ∀ (cdv : Value) (A : Around) (out : List Env) (s : Shared) (H : Hp) (E : XK), A.guards = some [] → Room k (A.deeper (PyProof.Rows.envOfC qual (defScope st) s.heap.objs.size f cdv)) → Takes (cxOf (L2.CX P w) P w K mg base N qual (defScope st) f cdv A out s H E) (fun c d _ H' => E c d H') →
      ∃ t, SSX (cxOf (L2.CX P w) P w K mg base N qual (defScope st) f cdv A out s H E) (fun c d _ H' => E c d H') (defBody st) t B) : FnG P w K mg base (k + 1) f fd ps (spI K mg n c FF) := by
  subst hF hm
  exact fg_init Fu Sc hn fun cdv A out s H E hG hr => hb cdv A out s H E hG hr (takes_of rfl rfl rfl rfl)
end
end QL
namespace QL
open PySem PySem.Spec L2
theorem wipe_sub {σ : St} {vs1 vs : List Nat} (h : ∀ i ∈ vs1, i ∈ vs) : L2.wipe (L2.wipe σ vs1) vs = L2.wipe σ vs := by
  apply List.ext_getElem?
  intro j
  rw [wipe_at, wipe_at, L2.wipe_length, wipe_at]
  by_cases h1 : j ∈ vs ∧ j < σ.length
  · simp [h1]
  · rw [if_neg h1, if_neg h1]
    rw [if_neg]
    intro h2
    exact h1 ⟨h j h2.1, h2.2⟩
section
variable {K : PySem.W.Frag} {mg : Str → Option Value} {W : WX} {γ : Gh} {Oc : List Addr} {r r1 r2 : S} {σ : St} {H H' H1 H2 : Hp} {fs fs1 fs' fa fb : List Addr} {p : Addr}
theorem Stp.evoP {T : Option Addr} (s : Stp T fa H fb H') : Evo (fa ++ [p]) H (fb ++ [p]) H' :=
  ⟨fun a z => by
    rcases List.mem_append.mp z with z | z
    · exact .inl (List.mem_append_left _ (s.sub a z))
    · exact .inl (List.mem_append_right _ z), fun a o e n ht => s.keep a o e (fun _ z => n (List.mem_append_left _ z)) ht, s.there, s.tb⟩
theorem Evo.lessP (s : Evo (fa ++ [p]) H (fb ++ [p]) H') (h : ∀ a ∈ fs, a ∈ fb) : Evo (fa ++ [p]) H (fs ++ [p]) H' :=
  ⟨fun a z => by
    rcases List.mem_append.mp z with z | z
    · exact s.sub a (List.mem_append_left _ (h a z))
    · exact s.sub a (List.mem_append_right _ z), @Evo.keep _ _ _ _ s, s.there, s.tb⟩
theorem Stp.less {T : Option Addr} (s : Stp T fa H fb H') (h : ∀ a ∈ fs, a ∈ fb) : Stp T fa H fs H' := ⟨fun a z => s.sub a (h a z), @Stp.keep _ _ _ _ _ s, s.there, s.tb⟩
theorem Evo.setP {us : List V} {o : HO} (hD : H p = some o) (ho : LD o) : Evo (fs ++ [p]) H (fs ++ [p]) (upd H p (.lst us)) :=
  ⟨fun a z => .inl z, fun a o' e n ht => by
    have np : a ≠ p := fun z => n (by rw [z]; simp)
    rw [upd_ne np]; exact e, fun a e => nn_upd hD ho.nt e, fun P h => tabs_upd hD ho h⟩
theorem Rs.less {ds : List D} {us : List V} (ow : Own (fa ++ Oc) H) (h : ∀ a ∈ fs, a ∈ fa) (q : Rs K (fa ++ Oc) H ds us) : Rs K (fs ++ Oc) H ds us :=
  Rs.stab ow (Stab.weak (fun a z => by
    rcases List.mem_append.mp z with z | z
    · exact List.mem_append_left _ (h a z)
    · exact List.mem_append_right _ z) fun _ _ z => z) _ _ q
/-- the turns of one loop of a comprehension -/
theorem lc_turns {J : It} {es acc accE : List D} {g1 : TG} {tt1 : TT} {te : TE} {vs1 : List Nat} {G1 : D → S → Option S} {T1 : S → Res Bool} {F : S → Res D} {σ2 : St} {fs4 : List Addr} {H4 : Hp} {r4 rE : S} {us : List V}
    (hg : ∀ γ Oc r σ H fs d v r', Good K γ Oc r σ H fs → R K (fs ++ Oc) H d v → G1 d r = some r' → ∀ Q, (∀ σ' fs', Good K γ Oc r' σ' H fs' → (∀ a ∈ fs', a ∈ fs) → Q σ' H) → g1 v σ H Q) (hw : GWipe vs1 g1)
    (ht : Sim K mg WN (PTt K) tt1 T1) (he : Sim K mg WN (PF K) te F)
    (hp : H1 p = none) (g4 : Good K γ ([p] ++ Oc) r4 σ2 H4 fs4) (hD4 : H4 p = some (.lst us)) (racc4 : Rs K (fs4 ++ ([p] ++ Oc)) H4 acc us) (st4 : Stp γ.T fs1 H1 fs4 H4)
    (yl : Ylds K (fs4 ++ ([p] ++ Oc)) H4 J es) (eL : lcF vs1 G1 T1 F es acc { r4 with sl := wipeS vs1 r4.sl } = .ok accE rE) (Nx : Hp → Prop)
    (hNx : ∀ fs' us' H', Good K γ ([p] ++ Oc) rE (L2.wipe σ2 vs1) H' fs' → H' p = some (.lst us') → Rs K (fs' ++ ([p] ++ Oc)) H' accE us' → Stp γ.T fs1 H1 fs' H' → Nx H') :
    ∃ W1 : Nat → Nat → Hp → Prop, (∃ m, W1 0 m H4) ∧ ∀ j k H, W1 j k H →
      (J.stop j H ∧ Nx H) ∨ (J.go j H ∧ ∃ Nx1 : Hp → Prop, (∀ H', Nx1 H' → ∃ k', k' < k ∧ W1 (j + 1) k' H') ∧ ∀ x H', J.yld j H x H' → g1 x (L2.wipe σ2 vs1) H' fun σ3 H5 => L2.wipe σ3 vs1 = L2.wipe σ2 vs1 ∧ tt1 σ3 H5 fun b H6 =>
        if b = true then te σ3 H6 fun y H7 => ∃ acc, H7 p = some (.lst acc) ∧ acc.length < sizeLine ∧ Nx1 (upd H7 p (.lst (acc ++ [y]))) else Nx1 H6) := by
  obtain ⟨fw, gw, sw⟩ := g4.wipe vs1
  refine ⟨fun i m H => m = es.length - i ∧ i ≤ es.length ∧ ∃ r fs acc us, Good K γ ([p] ++ Oc) r (L2.wipe σ2 vs1) H fs ∧ H p = some (.lst us) ∧ Rs K (fs ++ ([p] ++ Oc)) H acc us ∧ Stp γ.T fs1 H1 fs H ∧ Evo (fs4 ++ [p]) H4 (fs ++ [p]) H ∧ lcF vs1 G1 T1 F (es.drop i) acc r = .ok accE rE,
    ⟨es.length, rfl, Nat.zero_le _, _, fw, acc, us, gw, hD4, Rs.less g4.ow sw racc4, st4.less sw, (Evo.refl _ _).lessP sw, by simpa using eL⟩, ?_⟩
  rintro i m H ⟨rfl, hil, r, fs, acc, us, g, hD, racc, st, ev, eF⟩
  have stab : Stab (fs4 ++ ([p] ++ Oc)) H4 (fs ++ ([p] ++ Oc)) H := by
    have := ev.stab (Oc := Oc)
    rwa [List.append_assoc, List.append_assoc] at this
  obtain ⟨go, stop⟩ := yl (fs ++ ([p] ++ Oc)) H g.ow stab i
  by_cases hlt : i < es.length
  · obtain ⟨hgo, hy⟩ := go hlt
    rw [List.drop_eq_getElem_cons hlt] at eF
    refine .inr ⟨hgo, fun H' => ∃ r' fs' acc' us', Good K γ ([p] ++ Oc) r' (L2.wipe σ2 vs1) H' fs' ∧ H' p = some (.lst us') ∧ Rs K (fs' ++ ([p] ++ Oc)) H' acc' us' ∧ Stp γ.T fs1 H1 fs' H' ∧ Evo (fs4 ++ [p]) H4 (fs' ++ [p]) H' ∧ lcF vs1 G1 T1 F (es.drop (i + 1)) acc' r' = .ok accE rE, fun H' h => ⟨es.length - (i + 1), by omega, rfl, hlt, h⟩, fun x H2 y => ?_⟩
    obtain ⟨kp, hx⟩ := hy x H2 y
    have rx := hx es[i] (List.getElem?_eq_getElem hlt)
    have kp' : SameT H H2 := .of kp
    have g2 := g.kept kp'
    have racc2 : Rs K (fs ++ ([p] ++ Oc)) H2 acc us := Rs.stab g.ow (Stab.weak (fun _ z => z) kp) _ _ racc
    have st2 : Stp γ.T fs1 H1 fs H2 := st.trans (Stp.same _ _ kp')
    have ev2 := ev.trans (Stp.same none fs kp').evoP
    unfold lcF at eF
    cases eG : G1 es[i] r with
    | none => rw [eG] at eF; cases eF
    | some r3 =>
      rw [eG] at eF
      dsimp only at eF
      refine hw.mono _ _ _ _ _ (fun σ3 H3 hh => ?_) (hw.own _ _ _ _ (hg γ ([p] ++ Oc) r (L2.wipe σ2 vs1) H2 fs es[i] x r3 g2 rx eG (fun σ' H3 => ∃ fs', Good K γ ([p] ++ Oc) r3 σ' H3 fs' ∧ (∀ a ∈ fs', a ∈ fs) ∧ H3 = H2) fun σ' fs' g' sub => ⟨fs', g', sub, rfl⟩))
      obtain ⟨⟨fs3, g3, sub3, eH⟩, ew⟩ := hh
      subst eH
      rw [wipe_wipe] at ew
      refine ⟨ew, ?_⟩
      have st3 : Stp γ.T fs1 H1 fs3 H3 := st2.less sub3
      have ev3 := ev2.lessP sub3
      have racc3 : Rs K (fs3 ++ ([p] ++ Oc)) H3 acc us := Rs.less g2.ow sub3 racc2
      have hD3 : H3 p = some (.lst us) := kp _ _ hD
      have ztt := ht γ ([p] ++ Oc) r3 σ3 H3 fs3 g3
      have keepP : ∀ {fa fb : List Addr} {Ha Hb : Hp} {ra : S} {σa : St}, Good K γ ([p] ++ Oc) ra σa Ha fa → Stp γ.T fa Ha fb Hb → Ha p = some (.lst us) → Hb p = some (.lst us) := fun ga sa e => by
        rw [ga.tmp (fp := [p]) sa p (by simp)]
        exact e
      cases eT : T1 r3 with
      | exc _ _ _ => rw [eT] at eF; cases eF
      | bad => rw [eT] at eF; cases eF
      | ok b r4 =>
        rw [eT] at eF ztt
        refine ztt _ fun c H4 ⟨fs4', g4', ec, s4⟩ => ?_
        subst ec
        have racc4 : Rs K (fs4' ++ ([p] ++ Oc)) H4 acc us := Rs.stab g3.ow (g3.stabSub s4) _ _ racc3
        have hD4 := keepP g3 s4 hD3
        have st4 := st3.trans s4
        have ev4 := ev3.trans s4.evoP
        cases c with
        | false =>
          rw [if_neg (by simp)]
          obtain ⟨fs5, g5, sub5⟩ := g4'.wipe vs1
          rw [ew] at g5
          exact ⟨_, fs5, acc, us, g5, hD4, Rs.less g4'.ow sub5 racc4, st4.less sub5, ev4.lessP sub5, eF⟩
        | true =>
          rw [if_pos rfl]
          dsimp only at eF
          have zee := he γ ([p] ++ Oc) r4 σ3 H4 fs4' g4'
          cases eE : F r4 with
          | exc _ _ _ => rw [eE] at eF; cases eF
          | bad => rw [eE] at eF; cases eF
          | ok y r5 =>
            rw [eE] at eF zee
            dsimp only at eF
            split at eF
            · rename_i hsz
              refine zee _ fun u H5 ⟨fs5, g5, ry, s5⟩ => ?_
              have racc5 : Rs K (fs5 ++ ([p] ++ Oc)) H5 acc us := Rs.stab g4'.ow (g4'.stabSub s5) _ _ racc4
              have hD5 := keepP g4' s5 hD4
              have st5 := st4.trans s5
              have ev5 := ev4.trans s5.evoP
              refine ⟨us, hD5, by rw [racc5.len]; exact hsz, ?_⟩
              obtain ⟨g6, stb6, np6⟩ := g5.setTmp (vs := us ++ [u])
              have rall : Rs K (fs5 ++ ([p] ++ Oc)) H5 (acc ++ [y]) (us ++ [u]) := racc5.app (by simp only [Rs]; exact ⟨u, [], rfl, ry, rfl⟩)
              have rall6 := Rs.stab g5.ow stb6 _ _ rall
              obtain ⟨fs7, g7, sub7⟩ := g6.wipe vs1
              rw [ew] at g7
              refine ⟨_, fs7, acc ++ [y], us ++ [u], g7, upd_same, Rs.less g6.ow sub7 rall6, ⟨fun a z => st5.sub a (sub7 a z), fun a o e n ht => ?_, fun a e => nn_upd hD5 rfl (st5.there a e), fun P h => tabs_upd hD5 trivial (st5.tb P h)⟩, (ev5.trans (Evo.setP hD5 trivial)).lessP sub7, eF⟩
              have np : a ≠ p := fun z => by rw [z, hp] at e; cases e
              rw [upd_ne np]
              exact st5.keep a o e n ht
            · cases eF
  · have e : es.drop i = [] := List.drop_eq_nil_of_le (by omega)
    rw [e] at eF
    unfold lcF at eF
    cases eF
    exact .inl ⟨stop (by omega), hNx _ _ _ g hD racc st⟩
end
def lc2F (vs vs1 : List Nat) (G : D → S → Option S) (T : S → Res Bool) (I1 : S → Res (List D)) (G1 : D → S → Option S) (T1 : S → Res Bool) (F : S → Res D) : List D → List D → S → Res (List D)
  | [], acc, r => .ok acc r
  | d :: ds, acc, r => match G d r with
    | none => .bad
    | some r => match T r with
      | .ok true r => match I1 r with
        | .ok es r => match lcF vs1 G1 T1 F es acc { r with sl := wipeS vs1 r.sl } with
          | .ok acc r => lc2F vs vs1 G T I1 G1 T1 F ds acc { r with sl := wipeS vs r.sl }
          | _ => .bad
        | _ => .bad
      | .ok false r => lc2F vs vs1 G T I1 G1 T1 F ds acc { r with sl := wipeS vs r.sl }
      | _ => .bad
def fLc2 (vs vs1 : List Nat) (I : S → Res (List D)) (G : D → S → Option S) (T : S → Res Bool) (I1 : S → Res (List D)) (G1 : D → S → Option S) (T1 : S → Res Bool) (F : S → Res D) : S → Res SV := fun r => (I r).bind fun ds r => match lc2F vs vs1 G T I1 G1 T1 F ds [] { r with sl := wipeS vs r.sl } with
  | .ok acc r' => Res.ok (SV.ol acc) { r' with sl := restS vs r.sl r'.sl }
  | _ => Res.bad
theorem lc2F_wiped {vs vs1 : List Nat} {G G1 : D → S → Option S} {T T1 : S → Res Bool} {I1 : S → Res (List D)} {F : S → Res D} : ∀ (ds acc : List D) (r : S) (acc' : List D) (r' : S), (∃ sl, r.sl = wipeS vs sl) → lc2F vs vs1 G T I1 G1 T1 F ds acc r = .ok acc' r' → ∃ sl, r'.sl = wipeS vs sl
  | [], acc, r, acc', r', h, e => by
    unfold lc2F at e
    cases e
    exact h
  | d :: ds, acc, r, acc', r', h, e => by
    unfold lc2F at e
    split at e
    · cases e
    · split at e
      · split at e
        · split at e
          · exact lc2F_wiped ds _ _ acc' r' ⟨_, rfl⟩ e
          · cases e
        · cases e
      · exact lc2F_wiped ds _ _ acc' r' ⟨_, rfl⟩ e
      · cases e
theorem sim_lc2 {K : PySem.W.Frag} {mg : Str → Option Value} {W : WX} {wi wi1 : TI} {g g1 : TG} {tt tt1 : TT} {te : TE} {vs vs1 : List Nat} {I I1 : S → Res (List D)} {G G1 : D → S → Option S} {T T1 : S → Res Bool} {F : S → Res D} (hv : ∀ i ∈ vs1, i ∈ vs)
    (hi : Sim K mg W (PIt K) wi I) (hg : ∀ γ Oc r σ H fs d v r', Good K γ Oc r σ H fs → R K (fs ++ Oc) H d v → G d r = some r' → ∀ Q, (∀ σ' fs', Good K γ Oc r' σ' H fs' → (∀ a ∈ fs', a ∈ fs) → Q σ' H) → g v σ H Q) (hw : GWipe vs g)
    (ht : Sim K mg WN (PTt K) tt T)
    (hi1 : Sim K mg WN (PIt K) wi1 I1) (hg1 : ∀ γ Oc r σ H fs d v r', Good K γ Oc r σ H fs → R K (fs ++ Oc) H d v → G1 d r = some r' → ∀ Q, (∀ σ' fs', Good K γ Oc r' σ' H fs' → (∀ a ∈ fs', a ∈ fs) → Q σ' H) → g1 v σ H Q) (hw1 : GWipe vs1 g1)
    (ht1 : Sim K mg WN (PTt K) tt1 T1) (he : Sim K mg WN (PF K) te F) : Sim K mg W (PV K) (tLc2 wi g tt wi1 g1 tt1 te vs vs1) (fLc2 vs vs1 I G T I1 G1 T1 F) := by
  intro γ Oc r σ H fs g0
  refine SimAt.bind (t2 := fun (J : It) (H1 : Hp) (Q : VK) => ∀ D, H1 D = none → ∃ W : Nat → Nat → Hp → Prop, (∃ m, W 0 m (upd H1 D (.lst []))) ∧ ∀ i m H, W i m H →
    (J.stop i H ∧ Q (.ref D) H) ∨ (J.go i H ∧ ∃ Nx : Hp → Prop, (∀ H', Nx H' → ∃ m', m' < m ∧ W (i + 1) m' H') ∧ ∀ x H', J.yld i H x H' → g x (L2.wipe σ vs) H' fun σ2 H2 => L2.wipe σ2 vs = L2.wipe σ vs ∧ tt σ2 H2 fun b H3 =>
      if b = true then wi1 σ2 H3 fun J1 H4 => ∃ W1 : Nat → Nat → Hp → Prop, (∃ m, W1 0 m H4) ∧ ∀ j k H, W1 j k H →
        (J1.stop j H ∧ Nx H) ∨ (J1.go j H ∧ ∃ Nx1 : Hp → Prop, (∀ H', Nx1 H' → ∃ k', k' < k ∧ W1 (j + 1) k' H') ∧ ∀ x H', J1.yld j H x H' → g1 x (L2.wipe σ2 vs1) H' fun σ3 H5 => L2.wipe σ3 vs1 = L2.wipe σ2 vs1 ∧ tt1 σ3 H5 fun b H6 =>
          if b = true then te σ3 H6 fun y H7 => ∃ acc, H7 D = some (.lst acc) ∧ acc.length < sizeLine ∧ Nx1 (upd H7 D (.lst (acc ++ [y]))) else Nx1 H6)
      else Nx H3)) (hi γ Oc r σ H fs g0) fun ds r1 J H1 ⟨fs1, g1', yl, s1⟩ => ?_
  refine SimAt.tr s1 ?_
  cases eL : lc2F vs vs1 G T I1 G1 T1 F ds [] { r1 with sl := wipeS vs r1.sl } with
  | exc _ _ _ => exact fun Q => trivial
  | bad => exact fun Q => trivial
  | ok accE rE =>
    obtain ⟨slE, eslE⟩ := lc2F_wiped _ _ _ _ _ ⟨_, rfl⟩ eL
    intro Q hq p hp
    have k0 := upd_kept (o := .lst []) hp
    obtain ⟨fw, gw, sw⟩ := g1'.wipe vs
    have gw1 : Good K γ ([p] ++ Oc) { r1 with sl := wipeS vs r1.sl } (L2.wipe σ vs) (upd H1 p (.lst [])) fw := gw.grow k0 (by simpa using hp) (by simp) (by simp [Own, upd_same, LD])
    refine ⟨fun i m H => m = ds.length - i ∧ i ≤ ds.length ∧ ∃ r fs acc us, Good K γ ([p] ++ Oc) r (L2.wipe σ vs) H fs ∧ H p = some (.lst us) ∧ Rs K (fs ++ ([p] ++ Oc)) H acc us ∧ Stp γ.T fs1 H1 fs H ∧ lc2F vs vs1 G T I1 G1 T1 F (ds.drop i) acc r = .ok accE rE,
      ⟨ds.length, rfl, Nat.zero_le _, _, fw, [], [], gw1, upd_same, by simp [Rs], ⟨sw, fun a o e _ _ => k0 a o e, (SameT.of k0).th, (SameT.of k0).tb⟩, by simpa using eL⟩, ?_⟩
    rintro i m H ⟨rfl, hil, r, fs, acc, us, g, hD, racc, st, eF⟩
    have stab : Stab (fs1 ++ Oc) H1 (fs ++ ([p] ++ Oc)) H := fun a n e => by
      have nf : a ∉ fs1 := fun z => n (List.mem_append_left _ z)
      have np : a ≠ p := fun z => e (z ▸ hp)
      refine ⟨fun z => ?_, fun u hu q => ?_, fun u hu q => st.keep a _ q (fun _ => nf) hu.nt⟩
      · simp only [List.mem_append, List.mem_singleton] at z
        rcases z with z | z | z
        · exact nf (st.sub a z)
        · exact np z
        · exact n (List.mem_append_right _ z)
      · rcases q with q | ⟨o, q⟩
        · exact .inl (st.keep a _ q (fun _ => nf) hu.nt)
        · exact .inr ⟨o, st.keep a _ q fun _ => nf⟩
    obtain ⟨go, stop⟩ := yl (fs ++ ([p] ++ Oc)) H g.ow stab i
    by_cases hlt : i < ds.length
    · obtain ⟨hgo, hy⟩ := go hlt
      rw [List.drop_eq_getElem_cons hlt] at eF
      refine .inr ⟨hgo, fun H' => ∃ r' fs' acc' us', Good K γ ([p] ++ Oc) r' (L2.wipe σ vs) H' fs' ∧ H' p = some (.lst us') ∧ Rs K (fs' ++ ([p] ++ Oc)) H' acc' us' ∧ Stp γ.T fs1 H1 fs' H' ∧ lc2F vs vs1 G T I1 G1 T1 F (ds.drop (i + 1)) acc' r' = .ok accE rE, fun H' h => ⟨ds.length - (i + 1), by omega, rfl, hlt, h⟩, fun x H2 y => ?_⟩
      obtain ⟨kp, hx⟩ := hy x H2 y
      have rx := hx ds[i] (List.getElem?_eq_getElem hlt)
      have kp' : SameT H H2 := .of kp
      have g2 := g.kept kp'
      have racc2 : Rs K (fs ++ ([p] ++ Oc)) H2 acc us := Rs.stab g.ow (Stab.weak (fun _ z => z) kp) _ _ racc
      have st2 : Stp γ.T fs1 H1 fs H2 := st.trans (Stp.same _ _ kp')
      unfold lc2F at eF
      cases eG : G ds[i] r with
      | none => rw [eG] at eF; cases eF
      | some r3 =>
        rw [eG] at eF
        dsimp only at eF
        refine hw.mono _ _ _ _ _ (fun σ2 H3 hh => ?_) (hw.own _ _ _ _ (hg γ ([p] ++ Oc) r (L2.wipe σ vs) H2 fs ds[i] x r3 g2 rx eG (fun σ' H3 => ∃ fs', Good K γ ([p] ++ Oc) r3 σ' H3 fs' ∧ (∀ a ∈ fs', a ∈ fs) ∧ H3 = H2) fun σ' fs' g' sub => ⟨fs', g', sub, rfl⟩))
        obtain ⟨⟨fs3, g3, sub3, eH⟩, ew⟩ := hh
        subst eH
        rw [wipe_wipe] at ew
        refine ⟨ew, ?_⟩
        have st3 : Stp γ.T fs1 H1 fs3 H3 := st2.less sub3
        have racc3 : Rs K (fs3 ++ ([p] ++ Oc)) H3 acc us := Rs.less g2.ow sub3 racc2
        have hD3 : H3 p = some (.lst us) := kp _ _ hD
        have ztt := ht γ ([p] ++ Oc) r3 σ2 H3 fs3 g3
        have keepP : ∀ {fa fb : List Addr} {Ha Hb : Hp} {ra : S} {σa : St}, Good K γ ([p] ++ Oc) ra σa Ha fa → Stp γ.T fa Ha fb Hb → Ha p = some (.lst us) → Hb p = some (.lst us) := fun ga sa e => by
          rw [ga.tmp (fp := [p]) sa p (by simp)]
          exact e
        cases eT : T r3 with
        | exc _ _ _ => rw [eT] at eF; cases eF
        | bad => rw [eT] at eF; cases eF
        | ok b r4 =>
          rw [eT] at eF ztt
          refine ztt _ fun c H4 ⟨fs4, g4, ec, s4⟩ => ?_
          subst ec
          have racc4 : Rs K (fs4 ++ ([p] ++ Oc)) H4 acc us := Rs.stab g3.ow (g3.stabSub s4) _ _ racc3
          have hD4 := keepP g3 s4 hD3
          have st4 := st3.trans s4
          cases c with
          | false =>
            rw [if_neg (by simp)]
            obtain ⟨fs5, g5, sub5⟩ := g4.wipe vs
            rw [ew] at g5
            exact ⟨_, fs5, acc, us, g5, hD4, Rs.less g4.ow sub5 racc4, st4.less sub5, eF⟩
          | true =>
            rw [if_pos rfl]
            dsimp only at eF
            have zI := hi1 γ ([p] ++ Oc) r4 σ2 H4 fs4 g4
            cases eI : I1 r4 with
            | exc _ _ _ => rw [eI] at eF; cases eF
            | bad => rw [eI] at eF; cases eF
            | ok es r5 =>
              rw [eI] at eF zI
              dsimp only at eF
              refine zI _ fun J1 H5 ⟨fs5, g5, yl5, s5⟩ => ?_
              have racc5 : Rs K (fs5 ++ ([p] ++ Oc)) H5 acc us := Rs.stab g4.ow (g4.stabSub s5) _ _ racc4
              have hD5 := keepP g4 s5 hD4
              have st5 := st4.trans s5
              split at eF
              · rename_i acc6 r6 eL6
                refine lc_turns hg1 hw1 ht1 he hp g5 hD5 racc5 st5 yl5 eL6 _ fun fs' us' H' g' hD' racc' st' => ?_
                obtain ⟨fs7, g7, sub7⟩ := g'.wipe vs
                rw [wipe_sub hv, ew] at g7
                exact ⟨_, fs7, acc6, us', g7, hD', Rs.less g'.ow sub7 racc', st'.less sub7, eF⟩
              · cases eF
    · have e : ds.drop i = [] := List.drop_eq_nil_of_le (by omega)
      rw [e] at eF
      unfold lc2F at eF
      cases eF
      refine .inl ⟨stop (by omega), hq _ _ ?_⟩
      have gu := g.unwipe eslE
      have old : Old K (fs ++ ([p] ++ Oc)) H σ r1.sl := fun j d hd => by
        obtain ⟨u, hu, ru⟩ := g1'.old j d hd
        exact ⟨u, hu, R.stab g1'.ow stab _ _ ru⟩
      obtain ⟨fs9, g9, sub9⟩ := gu.rest old vs
      exact ⟨fs9, [p], g9, ⟨p, us, rfl, hD, Rs.less g.ow sub9 racc, rfl⟩, st.less sub9, by simpa using hp⟩
section
variable {X : Cx} {W : WX} {elt tg iter tg1 iter1 : Expr} {ifs ifs1 : List Expr} {scope : Scope} {own : List (Str × Nat)} {vs1 : List Nat} {pos : Pos} {wi wi1 : TI} {g g1 : TG} {tt tt1 : TT} {te : TE} {I I1 : S → Res (List D)} {G G1 : D → S → Option S} {T T1 : S → Res Bool} {FF : S → Res D}
theorem ex_lc2W (hc : X.calm = true) (hN : X.N.Nodup) (ok : BlkOk X.N X.env.scope scope own) (hv : ∀ i ∈ vs1, i ∈ own.map (·.2)) (hi : IX X W tg iter wi I) (hw : GWipe (own.map (·.2)) g) (hw1 : GWipe vs1 g1)
    (hg : ∀ (s : Shared) (H : Hp) (C : Addr) (cl : List (Str × Addr)) (fp : List Addr), GX (X.blk s H scope (compEnvC scope cl C X.env) fp) tg g G)
    (ht : ∀ (s : Shared) (H : Hp) (C : Addr) (cl : List (Str × Addr)) (fp : List Addr), TsX (X.blk s H scope (compEnvC scope cl C X.env) fp) WN ifs tt T)
    (hi1 : ∀ (s : Shared) (H : Hp) (C : Addr) (cl : List (Str × Addr)) (fp : List Addr), IX (X.blk s H scope (compEnvC scope cl C X.env) fp) WN tg1 iter1 wi1 I1)
    (hg1 : ∀ (s : Shared) (H : Hp) (C : Addr) (cl : List (Str × Addr)) (fp : List Addr), GX (X.blk s H scope (compEnvC scope cl C X.env) fp) tg1 g1 G1)
    (ht1 : ∀ (s : Shared) (H : Hp) (C : Addr) (cl : List (Str × Addr)) (fp : List Addr), TsX (X.blk s H scope (compEnvC scope cl C X.env) fp) WN ifs1 tt1 T1)
    (he : ∀ (s : Shared) (H : Hp) (C : Addr) (cl : List (Str × Addr)) (fp : List Addr), FX (X.blk s H scope (compEnvC scope cl C X.env) fp) WN elt te FF) (hs : ∀ x, foldedSetIterable iter X.env x = pure x := by intro _; rfl) (hs1 : ∀ env x, foldedSetIterable iter1 env x = pure x := by intro _ _; rfl) :
    EX X W (.ListComp elt [⟨tg, iter, ifs, 0⟩, ⟨tg1, iter1, ifs1, 0⟩] scope pos) (tLc2 wi g tt wi1 g1 tt1 te (own.map (·.2)) vs1) (fLc2 (own.map (·.2)) vs1 I G T I1 G1 T1 FF) := by
  exact ⟨pe_lc2 hc hN hi.pi ok hv (fun s H C cl fp => (hg s H C cl fp).pg) (fun s H C cl fp => (ht s H C cl fp).pe) (fun s H C cl fp => (hi1 s H C cl fp).pi) (fun s H C cl fp => (hg1 s H C cl fp).pg) (fun s H C cl fp => (ht1 s H C cl fp).pe) (fun s H C cl fp => (he s H C cl fp).pe) hs hs1,
    sim_lc2 hv hi.sim (hg X.s_0 X.H_0 0 [] []).sim hw (ht X.s_0 X.H_0 0 [] []).sim (hi1 X.s_0 X.H_0 0 [] []).sim (hg1 X.s_0 X.H_0 0 [] []).sim hw1 (ht1 X.s_0 X.H_0 0 [] []).sim (he X.s_0 X.H_0 0 [] []).sim⟩
end
def metI (ns : List Int) : List Int := PyProof.Rows.firstMet (fun i => ns.getD i 0) ns.length
def tLenSetJ (K : PySem.W.Frag) (ta : TE) : TE := fun σ H Q => ta σ H fun x H1 => ∃ (l : Addr) (ns : List Int), x = V.ref l ∧ SqL K H1 l (ns.map V.int) ∧ ns.length < 4000 ∧ Q (.int (metI ns).length) H1
theorem pe_lenSetJ {X : Cx} {a : Expr} {ta : TE} {p p2 q pos : Pos} (hc : X.calm = true) (hg : Gl X "len") (hm : X.mg "len" = none) (hg2 : Gl X "set") (hm2 : X.mg "set" = none) (ha : PE X a ta)
    (na : starEach [a] X.env = (false, eval a X.env) :: starEach [] X.env := by rfl) : PE X (.Call (.Name "len" p) [.Call (.Name "set" p2) [a] [] q] [] pos) (tLenSetJ X.K ta) := by
  refine ⟨fun pins s σ H Q I h => ?_⟩
  refine PyProof.Rows.Call_ (ld_blt I hg hm PySem.boot_len ?_)
  refine PyProof.Rows.callWith_builtin1 (PyProof.Rows.args_cons ?_ rfl) rfl rfl
  refine PyProof.Rows.Call_ (ld_blt I hg2 hm2 PyProof.Rows.boot_set ?_)
  refine PyProof.Rows.callWith_type1 (PyProof.Rows.args_cons (thn (ha.run pins s σ H _ I h) fun v s1 ⟨x, H1, I1, r1, q1⟩ => PyProof.Rows.args_nil ?_) na) na rfl
  obtain ⟨l, ns, rfl, hq, h1, q1⟩ := q1
  cases r1
  obtain ⟨its, r, pl, hz⟩ := I1.list hq
  have hl : its.toArray.size = ns.length := by rw [List.size_toArray, ← r.length, List.length_map]
  refine call_set_list (I1.ok.hd hc) pl.isList (ns := ns) (by simpa using r.ints) (by unfold scanBound; omega) fun h' tk hS hk => ?_
  rw [hl] at hS
  have hle := PyProof.Rows.firstMet_length_le (fun i => ns.getD i 0) ns.length
  refine PyProof.Rows.args_nil ?_
  obtain ⟨o, es, ep, t, ho, hex, hd, _, _, _, hf, hn⟩ := hS
  have I2 : Inv X pins σ H1 { s1 with heap := h', toks := tk } := I1.kept fun b o e => hk b o (Heap.lt_size e) e
  refine call_len_set ho hex hd hf (by rw [hn] <;> omega) ⟨.int (metI ns).length, H1, I2.tok _, ⟨_, by rw [hn]; rfl⟩, q1⟩
def dLenSet : D → Option OV
  | .list ds => match intsD ds with
    | some ns => if ns.length < 4000 then some (.fz (.int (metI ns).length)) else none
    | none => none
  | _ => none
theorem ex_lenSet {X : Cx} {W : WX} {a : Expr} {ta : TE} {fa : S → Res D} {p p2 q pos : Pos} (hc : X.calm = true) (hm : X.mg "len" = none) (hm2 : X.mg "set" = none) (ha : BX X W a ta fa) (hg : Gl X "len" := by rfl) (hg2 : Gl X "set" := by rfl)
    (na : starEach [a] X.env = (false, eval a X.env) :: starEach [] X.env := by rfl) : EX X W (.Call (.Name "len" p) [.Call (.Name "set" p2) [a] [] q] [] pos) (tLenSetJ X.K ta) (fOp1 dLenSet fa) := by
  refine ⟨pe_lenSetJ hc hg hm hg2 hm2 ha.pe na, sim_op1 (rr := fun x H1 Q => ∃ (l : Addr) (ns : List Int), x = V.ref l ∧ SqL X.K H1 l (ns.map V.int) ∧ ns.length < 4000 ∧ Q (.int (metI ns).length) H1) (fun γ O H x v z Q ow hx e hq => ?_) ha.sim⟩
  unfold dLenSet at e
  split at e
  · rename_i ds
    split at e
    · rename_i ns en
      split at e
      · rename_i hl
        cases e
        obtain ⟨p, vs, q1, q2, q3⟩ := hx.tracked
        refine ⟨p, ns, q1, ?_, hl, hq _ (by simp [R])⟩
        rw [← q3.ints en]
        exact .inl (.inl q2)
      · cases e
    · cases e
  · cases e
end QL
namespace QL
open PySem PySem.Spec PyProof.Rows L2
def isTyV : Value → Bool
  | .type _ => true
  | _ => false
def sevenT : List String := ["NoneType", "bool", "int", "str", "list", "tuple", "dict"]
theorem sub_seven {K : PySem.W.Frag} {C : Addr} {T : String} (h : T ∈ sevenT) : PySem.W.subIn K (.type T) (.ref C) = some false := by
  have all : ∀ T ∈ sevenT, (fastBuiltinMro T).map (fun l => l.all isTyV) = some true := by
    intro T hT
    simp only [sevenT, List.mem_cons, List.mem_nil_iff, or_false] at hT
    rcases hT with rfl | rfl | rfl | rfl | rfl | rfl | rfl <;> decide +kernel
  obtain ⟨l, e, hl⟩ := Option.map_eq_some_iff.mp (all T h)
  show (fastBuiltinMro T).map (·.contains (.ref C)) = some false
  rw [e]
  refine congrArg some (Bool.eq_false_iff.mpr fun z => ?_)
  have m := List.contains_iff_mem.mp z
  have := List.all_eq_true.mp hl _ m
  cases this
def rrA (K : PySem.W.Frag) (c : Str) : Hp → V → Prop := fun H y => rrO K c H y ∨ (∃ T ∈ sevenT, TyX K H y (.type T)) ∨ ∃ a o kvs, y = .ref a ∧ H a = some (.frz o (.dT kvs))
/-- an object of the class, or none at all -/
def qAny (c : Str) : D → Bool := fun d => (fldsOf c d).isSome || (match d with
  | .dict kvs => !isOb kvs
  | _ => true)
theorem RE.tyA {K : PySem.W.Frag} {γ : Gh} {O : List Addr} {H : Hp} {c : Str} {d : D} {v : V} (h : RE K γ O H d v) (hq : qAny c d = true) :
    ((fldsOf c d).isSome = true ∧ rrO K c H v) ∨ ((fldsOf c d).isSome = false ∧ ((∃ T ∈ sevenT, TyX K H v (.type T)) ∨ ∃ a o kvs, v = .ref a ∧ H a = some (.frz o (.dT kvs)))) := by
  have base : ∀ {n : String}, n ∈ sevenT → (fldsOf c d).isSome = false → TyX K H v (.type n) → ((fldsOf c d).isSome = true ∧ rrO K c H v) ∨ ((fldsOf c d).isSome = false ∧ ((∃ T ∈ sevenT, TyX K H v (.type T)) ∨ ∃ a o kvs, v = .ref a ∧ H a = some (.frz o (.dT kvs)))) := fun m f t => .inr ⟨f, .inl ⟨_, m, t⟩⟩
  cases d with
  | none => simp only [RE, R] at h; subst h; exact base (by decide) rfl (.base .non)
  | bool b => simp only [RE, R] at h; subst h; exact base (by decide) rfl (.base (.bl b))
  | int b => simp only [RE, R] at h; subst h; exact base (by decide) rfl (.base (.int b))
  | str b => simp only [RE, R] at h; subst h; exact base (by decide) rfl (.base (.str b))
  | list ds =>
    obtain ⟨a, vs, e1, q, _⟩ := h.tracked
    subst e1
    exact base (by decide) rfl (.base (.lst q))
  | tuple ds =>
    simp only [RE, R] at h
    obtain ⟨a, vs, e1, q, _⟩ := h
    subst e1
    exact base (by decide) rfl (.base (.tup q))
  | dict kvs =>
    cases ef : fldsOf c (.dict kvs) with
    | some fs =>
      obtain ⟨a, C, dx, ws, e1, q, oc, _⟩ := h.ob ef
      exact .inl ⟨rfl, a, C, dx, ws, e1, q, oc⟩
    | none =>
      obtain ⟨a, e1, _, h⟩ := h
      subst e1
      rcases h with ⟨ws, q, hk⟩ | ⟨ws, q, hk⟩ | ⟨C, dx, ws, q, hk⟩
      · rcases q with q | ⟨o, q⟩
        · exact .inr ⟨rfl, .inl ⟨"dict", by decide, .base (.dK q)⟩⟩
        · exact .inr ⟨rfl, .inl ⟨"dict", by decide, .fDict q⟩⟩
      · rcases q with q | ⟨o, q⟩
        · exact .inr ⟨rfl, .inl ⟨"dict", by decide, .base (.dT q)⟩⟩
        · exact .inr ⟨rfl, .inr ⟨a, o, ws, rfl, q⟩⟩
      · obtain ⟨hob, _, _⟩ := hk.isOb
        unfold qAny at hq
        rw [ef] at hq
        simp [hob] at hq
theorem R.tyA {K : PySem.W.Frag} {O : List Addr} {H : Hp} {c : Str} {d : D} {v : V} (h : R K O H d v) (hq : qAny c d = true) : rrA K c H v := by
  have e : RE K g0 O H d v := by
    cases d with
    | list ds =>
      simp only [R] at h
      obtain ⟨a, vs, e, n, q, h2⟩ := h
      exact ⟨a, vs, e, by simp [g0], q, h2⟩
    | dict kvs =>
      simp only [R] at h
      obtain ⟨a, e, n, h⟩ := h
      exact ⟨a, e, by simp [g0], h⟩
    | none => exact h
    | bool _ => exact h
    | int _ => exact h
    | str _ => exact h
    | tuple _ => exact h
  rcases e.tyA hq with ⟨_, h⟩ | ⟨_, h⟩
  · exact .inl h
  · exact .inr h
section
variable {X : Cx} {k n : Nat} {f C : Addr} {fd : FuncData} {ps : List Str} {sp : Sp} {x c m : Str} {p apos pos : Pos} {o e a b : Expr} {es : List Expr} {ta tb : TE} {t tl : TA} {W : WX} {F : List D → FR} {FL : S → Res (List D)} {FO FA FB : S → Res D}
def noX : XK := fun _ _ _ => False
/-- the answer of a call, turned -/
def fNeg (G : S → Res SV) : S → Res SV := fun r => (G r).bind fun x r => match x with
  | .fz (.bool b) => .ok (.fz (.bool (!b))) r
  | _ => .bad
end
end QL
namespace QL
open PySem PySem.Spec L2
structure DefI (K : PySem.W.Frag) (mg : Str → Option Value) (c : Str) : Prop where
  ex : ∃ C, ObC K c C ∧ mg c = some (.ref C) ∧ ((PySem.W.clsIn K C).isSome && PySem.W.typeIn K (.ref C) == some (.type "type")) = true
def rIsA (K : PySem.W.Frag) (c : Str) : List V → Hp → VK → Prop := fun xs H Q => ∃ x C b, xs = [x, .ref C] ∧ ObC K c C ∧ ((b = true ∧ rrO K c H x) ∨ (b = false ∧ ((∃ T ∈ sevenT, TyX K H x (.type T)) ∨ ∃ a o kvs, x = .ref a ∧ H a = some (.frz o (.dT kvs))))) ∧ Q (.bl b) H
/-- whether anything is an object of the class (not asked of objects of other classes) -/
def dIsA (c : Str) : D → Option OV := fun d => if qAny c d = true then some (.fz (.bool (fldsOf c d).isSome)) else none
theorem kit_no {K : PySem.W.Frag} {C : Addr} {T : String} (hc : ((PySem.W.clsIn K C).isSome && PySem.W.typeIn K (.ref C) == some (.type "type")) = true) (hT : T ∈ sevenT) : PySem.W.kitOne K (.type T) (.ref C) = some false := by
  unfold PySem.W.kitOne
  have e : (Value.type T == Value.ref C) = false := Bool.eq_false_iff.mpr fun q => by cases beq_iff_eq.mp q
  rw [e, if_neg (by simp)]
  show (if ((PySem.W.clsIn K C).isSome && PySem.W.typeIn K (.ref C) == some (.type "type")) = true then PySem.W.subIn K (.type T) (.ref C) else none) = some false
  rw [if_pos hc]
  exact sub_seven hT
section
variable {X : Cx} {W : WX} {a : Expr} {ta : TE} {fa : S → Res D} {c : Str} {C : Addr} {p p2 py pos : Pos}
theorem call_isA {c : Str} (hc : ∀ C, ObC X.K c C → ((PySem.W.clsIn X.K C).isSome && PySem.W.typeIn X.K (.ref C) == some (.type "type")) = true) : CallR X (.builtin "isinstance") (rIsA X.K c) := by
  intro pins s σ H xs us Q I r h
  obtain ⟨x, C, b, ex, oc, hb, q⟩ := h
  rcases hb with ⟨rfl, a, C2, dx, fs, e1, ha, oc2⟩ | ⟨rfl, ⟨T, hT, ty⟩ | ⟨a, o, kvs, e1, e2⟩⟩
  · obtain rfl := oc.uniq oc2.ns
    exact C8.call_isC oc.ic pins s σ H xs us Q I r ⟨a, dx, fs, by rw [ex, e1], ha, q⟩
  · exact call_isi pins s σ H xs us Q I r ⟨x, .ref C, .type T, .ref C, false, ex, .own C, ty, kit_no (hc C oc) hT, q⟩
  · subst ex e1
    obtain ⟨u1, u2, rfl, r1, r2⟩ := vals2 r
    cases (show u1 = Value.ref a from r1)
    cases (show u2 = Value.ref C from r2)
    obtain ⟨_, _, _, vs, _, ob, es, ep, h1, h2, _⟩ := (show ObjOk X.prog X.w H s.heap a (.frz o (.dT kvs)) from I.hok a _ e2)
    have Z : PySem.W.KitX X.K (.ref a) (.type "dict") _ := PySem.W.kitx_dict
    exact PySem.W.kia_one Z I.kIn ⟨ob, h1, h2.1⟩ (kit_no (hc C oc) (by decide)) (fun z => nomatch z) fun tk => ⟨.bl false, H, I.tok tk, rfl, q⟩
theorem ex_isA (h : DefI X.K X.mg c) (hm : X.mg "isinstance" = none) (ha : BX X W a ta fa) (hg : Gl X "isinstance" := by rfl) (hgy : Gl X c := by rfl) (hd : (c == ("__debug__" : Str)) = false := by decide)
    (he : starEach [a, .Name c py] X.env = (false, eval a X.env) :: starEach [.Name c py] X.env := by rfl) (he2 : starEach [.Name c py] X.env = (false, eval (.Name c py) X.env) :: starEach [] X.env := by rfl) (hpl : (backTo pos (starEach [.Name c py] X.env)).any (·.1) = false := by rfl) :
    EX X W (.Call (.Name "isinstance" p) [a, .Name c py] [] pos) (tCB (rIsA X.K c) (tCons ta (tCons (tCls X.K c) tNil))) (fOp1 (dIsA c) fa) := by
  obtain ⟨C, oc, hmc, hk⟩ := h.ex
  refine ⟨pe_callB (call_isA fun C' oc' => by obtain rfl := oc.uniq oc'.ns; exact hk) hg hm PyProof.Rows.boot_isinstance (pa_cons ha.pe (pa_cons (pe_cls oc hgy hmc hd) pa_nil he2) he) (by decide) (by decide) he hpl, fun γ Oc r σ H fs g => ?_⟩
  refine SimAt.bind (t2 := fun x H1 Q => ∀ C, ObC X.K c C → rIsA X.K c [x, .ref C] H1 Q) (ha.sim γ Oc r σ H fs g) fun d r1 v H1 ⟨fs1, g1, v1, s1⟩ => ?_
  refine SimAt.tr s1 fun Q => ?_
  unfold ovR dIsA
  by_cases hq : qAny c d = true
  · rw [if_pos hq]
    intro hQ C oc
    refine ⟨v, C, (fldsOf c d).isSome, rfl, oc, ?_, ?_⟩
    · rcases v1.tyA hq with ⟨h1, h2⟩ | ⟨h1, h2⟩
      · exact .inl ⟨h1, h2⟩
      · exact .inr ⟨h1, h2⟩
    · have := ovq_of g1 hQ
      exact this (.bl (fldsOf c d).isSome) (by simp [R])
  · rw [if_neg hq]
    trivial
end
def tPropF (K : PySem.W.Frag) (mg : Str → Option Value) (c : Str) (F : List D → FR) (ta : TE) : TE := fun σ H Q => ta σ H fun x H1 => ∃ a C dx fs, x = .ref a ∧ H1 a = some (.ins C dx fs) ∧ ObC K c C ∧ spF K mg 1 F [.ref a] H1 Q noX
def outP (R : FR) (r : S) : Res SV := match R with
  | .ok x _ => if x.out then .ok x r else .bad
  | _ => .bad
def fProp (c : Str) (F : List D → FR) (fa : S → Res D) : S → Res SV := fun r => (fa r).bind fun d r => bif (fldsOf c d).isSome then outP (F [d]) r else .bad
structure DefP (P : Program) (w : World) (K : PySem.W.Frag) (mg : Str → Option Value) (base : Heap) (c f : Str) (k : Nat) (F : List D → FR) : Prop where
  ex : ∃ C p g fd ps, ObC K c C ∧ PropOf K C f p g ∧ FnG P w K mg base k g fd ps (spF K mg 1 F) ∧ Binds K fd ps []
section
variable {X : Cx} {W : WX} {e : Expr} {ta : TE} {fa : S → Res D} {F : List D → FR} {c f : Str} {C p g a dx : Addr} {fs : List (Str × V)} {fd : FuncData} {ps : List Str} {sp : Sp} {pos : Pos} {k k2 : Nat}
theorem getpropF {pins : List (Addr × Obj)} {σ : St} {H : Hp} {s : Shared} {Q : VK} {b : Bool} {E' : Value → Shared → Prop} (I : Inv X pins σ H s) (ea : H a = some (.ins C dx fs)) (c : Cls X.K C) (hp : PropOf X.K C f p g)
    (F : FnG X.prog X.w X.K X.mg X.base k g fd ps sp) (hG : X.A.guards = some []) (hr : Room (k + 1) X.A) (hb : Binds X.K fd ps []) (h : sp [.ref a] H Q noX) :
    wpAny (model X.prog X.w) X.A (getAttr (.ref a) f b) (EP X pins σ Q) E' s := by
  obtain ⟨mA, O, _, _, _, _⟩ := ins_get I.hok ea
  obtain ⟨od, J, _⟩ := O.look
  obtain ⟨rest, hrec⟩ := hp.rec_
  have I1 := I.tok (s.toks + 1)
  have hl : ([Value.ref a] ++ ([] : List Value)).length = ps.length := by
    rw [← F.len _ _ _ _ h]; rfl
  have hbs := hb { s with toks := s.toks + 1 } [.ref a] I1.kIn hl
  rw [List.append_nil] at hbs
  have hc : (PySem.W.clsIn X.K C).isSome = true := by
    obtain ⟨cd, hc, _⟩ := PySem.W.any_some c.hd
    rw [hc]
    rfl
  refine PySem.W.get_bind I.kIn J (PySem.W.plainGet_of (c.get f)).1 (PySem.W.findObj_data hc hp.at_ hp.get hp.tak) (PySem.W.plainGet_of (c.get f)).2 (wpAny_call (PySem.W.prop_get (s := { s with toks := s.toks + 1 }) I.kIn hrec ?_))
  refine codeAny_mono (F.run X.A.in1 X.stack { s with toks := s.toks + 1 } H ⟨[.ref a], []⟩ [.ref a] [.ref a] Q noX hG hr.in1 I1.env0.in1 hbs (.cons rfl .nil) h) fun r s' hq => ?_
  cases r with
  | error er =>
    obtain ⟨_, _, _, _, _, _, _, _, _, _, _, _, hE⟩ := (show L2.CX X.prog X.w X.stack H { s with toks := s.toks + 1 } noX er s' from hq)
    exact hE.elim
  | ok fl =>
    cases fl with
    | ret u =>
      obtain ⟨v, H', I3, rv, q3⟩ := I1.after hq
      show wpAny _ _ (handedOut u) _ _ _
      rw [PySem.W.handedOut_of (handed_of rv)]
      exact wpAny_pure ⟨v, H', I3, rv, q3⟩
    | next => exact False.elim hq
    | brk => exact False.elim hq
    | cont => exact False.elim hq
theorem sim_prop {K : PySem.W.Frag} {mg : Str → Option Value} (h : Sim K mg W (PF K) ta fa) : Sim K mg W (PV K) (tPropF K mg c F ta) (fProp c F fa) := by
  intro γ Oc r σ H fs g
  refine SimAt.bind (t2 := fun (x : V) (H1 : Hp) (Q : VK) => ∃ a C dx fs, x = .ref a ∧ H1 a = some (.ins C dx fs) ∧ ObC K c C ∧ spF K mg 1 F [.ref a] H1 Q noX) (h γ Oc r σ H fs g) fun d r1 v H1 ⟨fs1, g1, v1, s1⟩ => ?_
  refine SimAt.tr s1 fun Q => ?_
  cases ef : fldsOf c d with
  | none => exact trivial
  | some kvs =>
    obtain ⟨a, C, dx, ws, e1, na, e2, oc, rf⟩ := v1.ob ef
    rw [show (some kvs).isSome = true from rfl, cond_true]
    unfold outP
    cases eF : F [d] with
    | bad => exact trivial
    | exc _ _ _ => exact trivial
    | ok y tp =>
      dsimp only
      by_cases ho : y.out = true
      · rw [if_pos ho]
        intro hq
        refine ⟨a, C, dx, ws, e1, e2, oc, [d], fs1 ++ Oc, rfl, g1.ow, g1.nd, by simp only [Rs]; exact ⟨.ref a, [], rfl, e1 ▸ v1, rfl⟩, ?_⟩
        rw [eF]
        refine ⟨ho, fun H' v fp kp nd nw ow hv => hq v H' ?_⟩
        have g2 := g1.grow kp nw nd ow
        refine ⟨fs1, fp, g2, SVR.ghost ho (hv.mono (ow.app (g1.kept kp).ow) fun a z => ?_), Stp.same _ _ kp, nw⟩
        simp only [List.mem_append] at z ⊢
        rcases z with z | z | z <;> simp [z]
      · rw [if_neg ho]; exact trivial
theorem ex_propD (h : DefP X.prog X.w X.K X.mg X.base c f k F) (hG : X.A.guards = some []) (hr : Room k2 X.A) (ha : FX X W e ta fa) (hk : k + 1 ≤ k2 := by decide) (hab : attributeBase e f X.env (eval e X.env) = eval e X.env := by rfl) :
    EX X W (.Attribute e f pos) (tPropF X.K X.mg c F ta) (fProp c F fa) := by
  obtain ⟨C, p, g, fd, ps, oc, hp, hF, hb⟩ := h.ex
  refine ⟨⟨fun pins s σ H Q I h => ?_⟩, sim_prop ha.sim⟩
  refine attr_of hab (thn (ha.pe.run pins s σ H _ I h) fun u s1 ⟨x, H1, I1, rx, a, C', dx, fs, ex, ea, oc', q⟩ => ?_)
  subst ex
  obtain rfl := oc.uniq oc'.ns
  obtain rfl : u = Value.ref a := rx
  exact getpropF I1 ea oc.ic.cl hp hF hG (hr.mono hk) hb q
end
end QL
namespace QL
open PySem PySem.Spec L2
/-- the pairs of a list -/
def prOf : D → Option (D × D)
  | .tuple [k, v] => some (k, v)
  | _ => none
def prsKV : List D → Option (List (D × D))
  | [] => some []
  | d :: r => match prOf d, prsKV r with
    | some p, some ps => some (p :: ps)
    | _, _ => none
section
variable {X : Cx}
/-- dict(xs) -/
def eDictL (FA : S → Res D) : S → Res SV := fun r => (FA r).bind fun d r => match d with
  | .list ds => match prsKV ds with
    | some ps => match keysDT ps with
      | some cs => Res.ok (SV.ot (mergeDT [] cs)) r
      | none => Res.bad
    | none => Res.bad
  | _ => Res.bad
variable {W : WX} {e : Expr} {ta : TE} {fa : S → Res D} {p pos : Pos}
end
end QL
namespace QL
open PySem PySem.Spec L2
def gLstF (n : Nat) (Gs : List D → S → Option S) : D → S → Option S := fun d r => match d with
  | .list ds => if ds.length = n then Gs ds r else none
  | _ => none
end QL
namespace QL
open PySem PySem.Spec L2
def preN (a b : List Nat) : Bool := decide (a.take b.length = b)
def sufN (a b : List Nat) : Bool := decide (b.length ≤ a.length ∧ a.drop (a.length - b.length) = b)
theorem len_cps (x : Str) : x.length = x.cps.toList.length := by show x.cps.size = _; simp
theorem starts_eq (x y : Str) : Txt.startswith x y = preN x.cps.toList y.cps.toList := by
  unfold Txt.startswith preN
  rw [PySem.StrLaws.subAt_eq, List.drop_zero, len_cps, len_cps, Nat.zero_add]
  by_cases h : x.cps.toList.take y.cps.toList.length = y.cps.toList
  · rw [decide_eq_true h, h]
    have := congrArg List.length h
    rw [List.length_take] at this
    rw [decide_eq_true (by omega)]
    simp
  · rw [decide_eq_false h]
    have : (x.cps.toList.take y.cps.toList.length == y.cps.toList) = false := by simpa using h
    rw [this, Bool.and_false]
theorem ends_eq (x y : Str) : Txt.endswith x y = sufN x.cps.toList y.cps.toList := by
  unfold Txt.endswith sufN
  rw [PySem.StrLaws.subAt_eq, len_cps, len_cps, Nat.zero_add]
  by_cases hl : y.cps.toList.length ≤ x.cps.toList.length
  · have e : (x.cps.toList.drop (x.cps.toList.length - y.cps.toList.length)).take y.cps.toList.length = x.cps.toList.drop (x.cps.toList.length - y.cps.toList.length) := List.take_of_length_le (by rw [List.length_drop]; omega)
    rw [e, decide_eq_true hl, Bool.true_and]
    by_cases h : x.cps.toList.drop (x.cps.toList.length - y.cps.toList.length) = y.cps.toList
    · rw [decide_eq_true ⟨hl, h⟩, h]; simp
    · rw [decide_eq_false (fun z => h z.2)]; simpa using h
  · rw [decide_eq_false hl, decide_eq_false (fun z => hl z.1)]; rfl
def dStarts : D → List D → Option OV
  | .str a, [.str b] => some (.fz (.bool (preN a.cps.toList b.cps.toList)))
  | _, _ => none
def rStarts : V → List V → Hp → VK → Prop := fun x xs H Q => ∃ (a b : Str), x = .str a ∧ xs = [.str b] ∧ Q (.bl (Txt.startswith a b)) H
theorem opm_starts {K : PySem.W.Frag} : OpM K rStarts dStarts := by
  intro γ O H x ds vs z Q ow h e hq
  unfold dStarts at e
  split at e
  · rename_i a b e1
    cases e1
    cases e
    obtain ⟨v, ws, e1, r1, e4⟩ := h
    simp only [RE, R] at r1
    exact ⟨_, b, rfl, by rw [e1, e4, r1], hq _ (by simp [R, starts_eq])⟩
  · cases e
def dEnds : D → List D → Option OV
  | .str a, [.str b] => some (.fz (.bool (sufN a.cps.toList b.cps.toList)))
  | _, _ => none
def rEnds : V → List V → Hp → VK → Prop := fun x xs H Q => ∃ (a b : Str), x = .str a ∧ xs = [.str b] ∧ Q (.bl (Txt.endswith a b)) H
theorem opm_ends {K : PySem.W.Frag} : OpM K rEnds dEnds := by
  intro γ O H x ds vs z Q ow h e hq
  unfold dEnds at e
  split at e
  · rename_i a b e1
    cases e1
    cases e
    obtain ⟨v, ws, e1, r1, e4⟩ := h
    simp only [RE, R] at r1
    exact ⟨_, b, rfl, by rw [e1, e4, r1], hq _ (by simp [R, ends_eq])⟩
  · cases e
end QL
namespace QL
open PySem PySem.Spec L2
theorem usOf {K : PySem.W.Frag} {C : Addr} (h : PySem.W.hasDictIn K C = true) (t : PySem.W.typeIn K (.ref C) = some (.type "type")) : ((PySem.W.clsIn K C).isSome && PySem.W.typeIn K (.ref C) == some (.type "type")) = true := by
  unfold PySem.W.hasDictIn at h
  cases e : PySem.W.clsIn K C with
  | none => rw [e] at h; cases h
  | some cd => rw [t]; simp
def dSplit : D → List D → Option OV
  | .str a, [.str b] => if (b.length == 0) = false ∧ a.length + 2 ≤ sizeLine then some (.nl ((Txt.split a b).map .str)) else none
  | _, _ => none
def rSplit : V → List V → Hp → VK → Prop := fun x xs H Q => ∃ (a b : Str), x = .str a ∧ xs = [.str b] ∧ (b.length == 0) = false ∧ a.length + 2 ≤ sizeLine ∧ rNewStrs (Txt.split a b) H Q
theorem opm_split {K : PySem.W.Frag} : OpM K rSplit dSplit := by
  intro γ O H x ds vs z Q ow h e hq
  unfold dSplit at e
  split at e
  · rename_i a b e1
    split at e
    · rename_i hb
      cases e1
      cases e
      obtain ⟨v, ws, e1, r1, e4⟩ := h
      simp only [RE, R] at r1
      exact ⟨_, b, rfl, by rw [e1, e4, r1], hb.1, hb.2, fun p hp => hq p _ hp (Rs.ofStrs _)⟩
    · cases e
  · cases e
def dStrI : List D → Option OV
  | [.int i] => if i.natAbs.log2 < 1920 then some (.fz (.str (toString i))) else none
  | _ => none
def rStrI : List V → Hp → VK → Prop := fun xs H Q => ∃ i, xs = [.int i] ∧ i.natAbs.log2 < 1920 ∧ Q (.str (toString i)) H
theorem opb_strI {K : PySem.W.Frag} : OpB K rStrI dStrI := by
  intro γ O H ds vs z Q ow h e hq
  unfold dStrI at e
  split at e
  · rename_i i
    split at e
    · rename_i hi
      cases e
      obtain ⟨v, ws, e1, r1, e2⟩ := h
      simp only [RE, R] at r1
      exact ⟨i, by rw [e1, e2, r1], hi, hq _ (by simp [R])⟩
    · cases e
  · cases e
def dIntS : List D → Option OV
  | [.str a] => match PySem.intText? a with
    | some n => if a.length ≤ 640 then some (.fz (.int n)) else none
    | none => none
  | _ => none
def rIntS : List V → Hp → VK → Prop := fun xs H Q => ∃ a n, xs = [.str a] ∧ PySem.intText? a = some n ∧ a.length ≤ 640 ∧ Q (.int n) H
theorem opb_intS {K : PySem.W.Frag} : OpB K rIntS dIntS := by
  intro γ O H ds vs z Q ow h e hq
  unfold dIntS at e
  split at e
  · rename_i a
    split at e
    · rename_i n hn
      split at e
      · rename_i hl
        cases e
        obtain ⟨v, ws, e1, r1, e2⟩ := h
        simp only [RE, R] at r1
        exact ⟨a, n, by rw [e1, e2, r1], hn, hl, hq _ (by simp [R])⟩
      · cases e
    · cases e
  · cases e
section
variable {X : Cx} {W : WX} {a : Expr} {p pos : Pos} {tl : TA} {FL : S → Res (List D)}
theorem ex_strI (hm : X.mg "str" = none) (ha : BAX X W [a] tl FL) (hg : Gl X "str" := by rfl) (he : starEach [a] X.env = (false, eval a X.env) :: starEach [] X.env := by rfl) : EX X W (.Call (.Name "str" p) [a] [] pos) (tCB rStrI tl) (fCB dStrI FL) :=
  ex_cb (pe_callTy call_str_int hg hm PyProof.Rows.boot_str ha.pe (by decide) (by decide) he (by rfl)) opb_strI ha
theorem ex_intS (hm : X.mg "int" = none) (ha : BAX X W [a] tl FL) (hg : Gl X "int" := by rfl) (he : starEach [a] X.env = (false, eval a X.env) :: starEach [] X.env := by rfl) : EX X W (.Call (.Name "int" p) [a] [] pos) (tCB rIntS tl) (fCB dIntS FL) :=
  ex_cb (pe_callTy call_int_str hg hm PyProof.Rows.boot_int ha.pe (by decide) (by decide) he (by rfl)) opb_intS ha
end
end QL
namespace QP
open PySem PySem.Spec L2 QL
def B__law_pick : S → RS := sSeq (sIf (tV (fD (fOp dGe (fD (fTk 0 true)) (gV 1)))) (sSeq (sAsg 2 (fOp dMod (fD (fCB dInt (aCons (fD (fTk 0 true)) (aNil)))) (gV 1)))
  (sSeq (sTk 0 true (fD (fOp dFdiv (fD (fTk 0 true)) (gV 1))))
  (sRetV 2))) (sNext))
  (sSeq (sTk 0 false (fD (fOp dMod (fD (fCB dInt (aCons (fD (fOp dAdd (fD (fOp dMul (fD (fTk 0 false)) (fC (.int 40014)))) (fC (.int 1031)))) (aNil)))) (fC (.int 2147483563)))))
  (sSeq (sAsg 3 (fOp dMod (fD (fCB dInt (aCons (fD (fOp dPow (fD (fTk 0 false)) (fC (.int 2)))) (aNil)))) (fC (.int 2147483399))))
  (sRet (fOp dMod (fD (fCB dInt (aCons (fD (fOp dFdiv (fD (fOp dMod (fD (fCB dInt (aCons (fD (fOp dPow (gV 3) (fC (.int 3)))) (aNil)))) (fC (.int 998244353)))) (fC (.int 13)))) (aNil)))) (gV 1)))))
def F__law_pick : Int × Int → List D → FR := bodyT 4 B__law_pick
def is_text_t1 : S → Res Bool := tV (fD (fOp dNotIn (gV 1) (fC (.str "abcdefghijklmnopqrstuvwxyz"))))
def is_text_e2 : S → Res D := fV 1
def B_is_text : S → RS := sRet (eAndF (fD (fOp1 (dIsi "str") (gV 0))) (fOp dEq (fD (fLc [1] (fItems (fV 0)) (gNm 1) (is_text_t1) (is_text_e2))) (fD (eLst (aNil)))))
def F_is_text : List D → FR := bodyF 2 B_is_text
def B_is_count : S → RS := sRet (eAndF (fD (fOp1 (dIsi "int") (gV 0))) (eAndF (fD (eNotF (fD (fOp1 (dIsi "bool") (gV 0))))) (fOp dGe (gV 0) (fC (.int 0)))))
def F_is_count : List D → FR := bodyF 1 B_is_count
def is_letters_e1 : S → Res D := fD (fOp dLt (gV 1) (gV 2))
def B_is_letters : S → RS := sSeq (sIf (tOrF (tNotF (tV (fD (fCall 1 F_is_text (aCons (fV 0) (aNil)))))) (tV (fD (fOp dEq (gV 0) (fC (.str "")))))) (sRet (eD (fC (.bool false)))) (sNext))
  (sRet (fOp dNotIn (fC (.bool false)) (fD (fLc [1, 2] (fZip (aCons (fV 0) (aCons (fD (fSl (gV 0) (oSom (fC (.int 1))) (oNon))) (aNil)))) (gTupF 2 (gConsF (gNm 1) (gConsF (gNm 2) (gNilF)))) (tYesF) (is_letters_e1)))))
def F_is_letters : List D → FR := bodyF 3 B_is_letters
def B_must_be_letters : S → RS := sIf (tNotF (tV (fD (fCall 1 F_is_letters (aCons (fV 0) (aNil)))))) (sBad) (sNext)
def F_must_be_letters : List D → FR := bodyF 1 B_must_be_letters
def B__law_one_of : S → RS := sRet (fOp dIx (gV 1) (fD (fCallT 0 1 F__law_pick (aCons (fD (fCB dLen (aCons (gV 1) (aNil)))) (aNil)))))
def F__law_one_of : Int × Int → List D → FR := bodyT 2 B__law_one_of
def _law_shuffled_t1 : S → Res Bool := tV (fD (fOp dNe (gV 2) (fD (eLst (aNil)))))
def _law_shuffled_b2 : S → RS := sApp 3 (fPop 2 (fD (fCallT 0 1 F__law_pick (aCons (fD (fCB dLen (aCons (gV 2) (aNil)))) (aNil)))))
def B__law_shuffled : S → RS := sSeq (sPar2 2 3 (oCons (fCB dListA (aCons (gV 1) (aNil))) (oCons (eLst (aNil)) (oNil))))
  (sSeq (sWhile (_law_shuffled_t1) (_law_shuffled_b2))
  (sRetV 3))
def F__law_shuffled : Int × Int → List D → FR := bodyT 4 B__law_shuffled
def B__law_any : S → RS := sSeq (sAsg 1 (eLst (aCons (fC .none) (aCons (fC (.bool true)) (aCons (fC (.bool false)) (aCons (fC (.int 0)) (aCons (fC (.int 1)) (aCons (fC (.int 2)) (aCons (fC (.int 3)) (aCons (fC (.int 7)) (aCons (fD (fOp dSub (fC (.int 0)) (fC (.int 1)))) (aCons (fD (fOp dPow (fC (.int 10)) (fC (.int 39)))) (aCons (fC (.str "")) (aCons (fC (.str "a")) (aCons (fC (.str "ab")) (aCons (fC (.str "ba")) (aCons (fC (.str "A")) (aCons (fC (.str "a b")) (aCons (fC (.str "abc")) (aCons (fD (eTup (aNil))) (aCons (fD (eLst (aNil))) (aCons (fD (eDK)) (aCons (fD (eTup (aCons (fC (.int 0)) (aNil)))) (aCons (fD (eLst (aCons (fC (.int 0)) (aNil)))) (aCons (fD (eDisp (pCons (fC (.str "a")) (fC (.int 1)) (pNil)))) (aCons (fD (eTup (aCons (fC (.int 0)) (aCons (fC (.int 0)) (aNil))))) (aNil)))))))))))))))))))))))))))
  (sSeq (sAsg 1 (fOp dAdd (gV 1) (fD (eLst (aCons (fD (eTup (aCons (fC (.str "has")) (aCons (fC (.str "a")) (aNil))))) (aCons (fD (eTup (aCons (fC (.str "not")) (aCons (fD (eTup (aCons (fC (.str "has")) (aCons (fC (.str "a")) (aNil))))) (aNil))))) (aCons (fD (eTup (aCons (fC (.str "out")) (aCons (fC (.int 0)) (aNil))))) (aCons (fD (eTup (aCons (fC (.str "swap")) (aCons (fC (.int 0)) (aNil))))) (aCons (fD (eTup (aCons (fC (.str "in")) (aCons (fC (.int 0)) (aCons (fC (.str "a")) (aNil)))))) (aCons (fD (eLst (aCons (fD (eTup (aCons (fC (.str "out")) (aCons (fC (.int 0)) (aNil))))) (aNil)))) (aCons (fD (eDispT (pCons (fD (eTup (aCons (fC (.int 0)) (aCons (fC (.int 0)) (aNil))))) (fC (.int 0)) (pNil)))) (aCons (fD (eLst (aCons (fD (eTup (aCons (fC (.int 0)) (aCons (fC (.str "")) (aNil))))) (aNil)))) (aCons (fD (eTup (aCons (fC (.str "a")) (aCons (fC (.str "a")) (aNil))))) (aNil))))))))))))))
  (sRet (fCallT 0 1 F__law_one_of (aCons (fD (fOp dAdd (gV 1) (fD (eLst (aCons (fD (eLst (aCons (fC (.str "a")) (aNil)))) (aCons (fD (eLst (aCons (fC (.str "")) (aCons (fC (.str "a")) (aNil))))) (aCons (fD (eTup (aCons (fC (.str "behind")) (aCons (fC (.str "a")) (aNil))))) (aCons (fD (eTup (aCons (fC (.str "strike")) (aCons (fC (.int 0)) (aNil))))) (aCons (fD (eLst (aCons (fD (eTup (aCons (fC (.int 0)) (aCons (fC (.int 0)) (aNil))))) (aNil)))) (aCons (fD (eTup (aCons (fC .none) (aNil)))) (aCons (fD (eLst (aCons (fC .none) (aNil)))) (aCons (fC (.str "0")) (aCons (fC (.str "has a")) (aCons (fC (.str "letters a")) (aNil))))))))))))))) (aNil)))))
def F__law_any : Int × Int → List D → FR := bodyT 2 B__law_any
def B__law_is_count : S → RS := sRet (eAndF (fD (fOp1 (dIsi "int") (gV 0))) (eAndF (fD (eNotF (fD (fOp1 (dIsi "bool") (gV 0))))) (fOp dGe (gV 0) (fC (.int 0)))))
def F__law_is_count : List D → FR := bodyF 1 B__law_is_count
end QP
namespace QP
open PySem PySem.Spec L2 QL
def _law_drawn_machine_e1 : S → Res D := fD (fCallT 0 1 F__law_pick (aCons (fV 3) (aNil)))
def _law_drawn_machine_e2 : S → Res D := fD (fCB dTupA (aCons (fD (fLc [5] (fItems (fD (fCB dListA (aCons (gV 1) (aNil))))) (gNm 5) (tYesF) (_law_drawn_machine_e1))) (aNil)))
def _law_drawn_machine_e3 : S → Res D := fD (fCB dMax2 (aCons (gV 6) (aCons (gV 7) (aNil))))
def _law_drawn_machine_e4 : S → Res D := fD (fCB dTupA (aCons (fD (fLc [7] (fItems (fV 8)) (gNm 7) (tYesF) (_law_drawn_machine_e3))) (aNil)))
def _law_drawn_machine_t5 : S → Res Bool := tV (fD (fOp dEq (fD (fCallT 0 1 F__law_pick (aCons (fC (.int 2)) (aNil)))) (fC (.int 0))))
def _law_drawn_machine_e6 : S → Res D := fV 6
def B__law_drawn_machine : S → RS := sSeq (sAsg 3 (fOp dAdd (fC (.int 1)) (fD (fCallT 0 1 F__law_pick (aCons (fV 2) (aNil))))))
  (sSeq (sAsg 4 (fLc [6] (fRng1 (aCons (fV 3) (aNil))) (gNm 6) (tYesF) (_law_drawn_machine_e2)))
  (sSeq (sIf (tV (fD (fOp dEq (fD (fCallT 0 1 F__law_pick (aCons (fC (.int 2)) (aNil)))) (fC (.int 0))))) (sAsg 4 (fLc [6, 8] (fEnum (aCons (fV 4) (aNil))) (gTupF 2 (gConsF (gNm 6) (gConsF (gNm 8) (gNilF)))) (tYesF) (_law_drawn_machine_e4))) (sNext))
  (sRet (eLst (aCons (fV 1) (aCons (fV 4) (aCons (fD (fCB dSortA (aCons (fD (fLc [6] (fRng1 (aCons (fV 3) (aNil))) (gNm 6) (_law_drawn_machine_t5) (_law_drawn_machine_e6))) (aNil)))) (aNil))))))))
def F__law_drawn_machine : Int × Int → List D → FR := bodyT 9 B__law_drawn_machine
def are_rows_e1 : S → Res D := fD (eAndF (fD (fOp1 (dIsi "tuple") (gV 2))) (fOp dEq (fD (fCB dLen (aCons (gV 2) (aNil)))) (fD (fCB dLen (aCons (gV 0) (aNil))))))
def are_rows_i2 : S → Res (List D) := fItems (fV 2)
def are_rows_e3 : S → Res D := fD (eAndF (fD (fCall 1 F_is_count (aCons (fV 3) (aNil)))) (fOp dLt (gV 3) (fD (fCB dLen (aCons (gV 1) (aNil))))))
def B_are_rows : S → RS := sSeq (sIf (tOrF (tNotF (tV (fD (fOp1 (dIsi "list") (gV 1))))) (tV (fD (fOp dEq (gV 1) (fD (eLst (aNil))))))) (sRet (eD (fC (.bool false)))) (sNext))
  (sSeq (sIf (tV (fD (fOp dIn (fC (.bool false)) (fD (fLc [2] (fItems (fV 1)) (gNm 2) (tYesF) (are_rows_e1)))))) (sRet (eD (fC (.bool false)))) (sNext))
  (sRet (fOp dNotIn (fC (.bool false)) (fD (fLc2 [2, 3] [3] (fItems (fV 1)) (gNm 2) (tYesF) (are_rows_i2) (gNm 3) (tYesF) (are_rows_e3))))))
def F_are_rows : List D → FR := bodyF 4 B_are_rows
def are_lets_e1 : S → Res D := fD (eAndF (fD (fCall 1 F_is_count (aCons (fV 2) (aNil)))) (fOp dLt (gV 2) (gV 0)))
def B_are_lets : S → RS := sSeq (sIf (tOrF (tNotF (tV (fD (fOp1 (dIsi "list") (gV 1))))) (tV (fD (fOp dIn (fC (.bool false)) (fD (fLc [2] (fItems (fV 1)) (gNm 2) (tYesF) (are_lets_e1))))))) (sRet (eD (fC (.bool false)))) (sNext))
  (sRet (fOp dEq (fD (fOp1 dLenSet (gV 1))) (fD (fCB dLen (aCons (gV 1) (aNil))))))
def F_are_lets : List D → FR := bodyF 3 B_are_lets
def B_Machine_rows : S → RS := sRet (fCB dListA (aCons (fD (fOp1 (dFld "Machine" "lines") (gV 0))) (aNil)))
def F_Machine_rows : List D → FR := bodyF 1 B_Machine_rows
def B_Machine_letters : S → RS := sRet (fOp1 (dFld "Machine" "signs") (gV 0))
def F_Machine_letters : List D → FR := bodyF 1 B_Machine_letters
def B_Machine_lets : S → RS := sRet (fCB dListA (aCons (fD (fOp1 (dFld "Machine" "ends") (gV 0))) (aNil)))
def F_Machine_lets : List D → FR := bodyF 1 B_Machine_lets
def format_machine_e1 : S → Res D := fD (fCB dStrI (aCons (gV 4) (aNil)))
def format_machine_b2 : S → RS := sApp 1 (fD (fOp dAdd (fD (fMt dJoin (fC (.str " ")) (aCons (fD (fLc [4] (fItems (fV 3)) (gNm 4) (tYesF) (format_machine_e1))) (aNil)))) (fD (eIfF (tV (fD (fOp dIn (gV 2) (fD (fProp "Machine" F_Machine_lets (fV 0)))))) (eD (fC (.str " lets"))) (eD (fC (.str "")))))))
def B_format_machine : S → RS := sSeq (sAsg 1 (eLst (aCons (fD (fOp dAdd (fC (.str "letters ")) (fD (fProp "Machine" F_Machine_letters (fV 0))))) (aNil))))
  (sSeq (sFor (fEnum (aCons (fD (fProp "Machine" F_Machine_rows (fV 0))) (aNil))) (gTupF 2 (gConsF (gNm 2) (gConsF (gNm 3) (gNilF)))) (format_machine_b2))
  (sRet (fMt dJoin (fC (.str "\n")) (aCons (gV 1) (aNil)))))
def F_format_machine : List D → FR := bodyF 5 B_format_machine
def B_Machine_init_v2 : S → RS := sSeq (sExp (fCall 1 F_must_be_letters (aCons (fV 1) (aNil))))
  (sSeq (sIf (tNotF (tV (fD (fCall 2 F_are_rows (aCons (fV 1) (aCons (fV 2) (aNil))))))) (sBad) (sNext))
  (sSeq (sIf (tNotF (tV (fD (fCall 2 F_are_lets (aCons (fD (fCB dLen (aCons (gV 2) (aNil)))) (aCons (fV 3) (aNil))))))) (sBad) (sNext))
  (sSeq (sFst "Machine" 0 "signs" (fV 1))
  (sSeq (sFst "Machine" 0 "lines" (fD (fCB dTupA (aCons (gV 2) (aNil)))))
  (sFst "Machine" 0 "ends" (fD (fCB dTupA (aCons (fD (fCB dSortA (aCons (gV 3) (aNil)))) (aNil)))))))))
def F_Machine_init_v2 : List D → FR := bodyI 4 "Machine" B_Machine_init_v2
def number_of_v3_t1 : S → Res Bool := tV (fD (fOp dNotIn (gV 1) (fC (.str "0123456789"))))
def number_of_v3_e2 : S → Res D := fV 1
def B_number_of_v3 : S → RS := sSeq (sIf (tOrF (tV (fD (fOp dEq (gV 0) (fC (.str ""))))) (tV (fD (fOp dNe (fD (fLc [1] (fItems (fV 0)) (gNm 1) (number_of_v3_t1) (number_of_v3_e2))) (fD (eLst (aNil))))))) (sRet (eD (fC .none))) (sNext))
  (sRet (eIfF (tOrF (tV (fD (fOp dEq (gV 0) (fC (.str "0"))))) (tV (fD (fOp dNe (fD (fOp dIx (gV 0) (fC (.int 0)))) (fC (.str "0")))))) (fCB dIntS (aCons (gV 0) (aNil))) (eD (fC .none))))
def F_number_of_v3 : List D → FR := bodyF 2 B_number_of_v3
def row_of_e1 : S → Res D := fD (fCall 1 F_number_of_v3 (aCons (fV 5) (aNil)))
def B_row_of : S → RS := sSeq (sAsg 2 (fMt dEnds (gV 0) (aCons (fC (.str " lets")) (aNil))))
  (sSeq (sAsg 3 (fMt dSplit (fD (eIfF (tV (gV 2)) (fSl (gV 0) (oNon) (oSom (fD (fOp1 dNeg (fD (fCB dLen (aCons (fC (.str " lets")) (aNil)))))))) (eD (fV 0)))) (aCons (fC (.str " ")) (aNil))))
  (sSeq (sAsg 4 (fCB dTupA (aCons (fD (fLc [5] (fItems (fV 3)) (gNm 5) (tYesF) (row_of_e1))) (aNil))))
  (sRet (eIfF (tAndF (tV (fD (fOp dEq (fD (fCB dLen (aCons (gV 4) (aNil)))) (gV 1)))) (tV (fD (fOp dNotIn (fC .none) (gV 4))))) (eTup (aCons (fV 4) (aCons (fV 2) (aNil)))) (eD (fC .none))))))
def F_row_of : List D → FR := bodyF 6 B_row_of
def begins_i1 : S → Res (List D) := fItems (fV 2)
def begins_e2 : S → Res D := fD (fOp dGe (gV 3) (gV 1))
def B_begins : S → RS := sRet (fOp dNotIn (fC (.bool true)) (fD (fLc2 [2, 3] [3] (fItems (fV 0)) (gNm 2) (tYesF) (begins_i1) (gNm 3) (tYesF) (begins_e2))))
def F_begins : List D → FR := bodyF 4 B_begins
def read_machine_b1 : S → RS := sSeq (sAsg 7 (fCall 2 F_row_of (aCons (fV 6) (aCons (fD (fCB dLen (aCons (gV 2) (aNil)))) (aNil)))))
  (sSeq (sIf (tV (fD (fOp dIs (gV 7) (fC .none)))) (sBad) (sNext))
  (sSeq (sApp 3 (fD (fOp dIx (gV 7) (fC (.int 0)))))
  (sIf (tV (fD (fOp dIx (gV 7) (fC (.int 1))))) (sApp 4 (fV 5)) (sNext))))
def B_read_machine : S → RS := sSeq (sIf (tNotF (tV (fD (fOp1 (dIsi "str") (gV 0))))) (sBad) (sNext))
  (sSeq (sAsg 1 (fMt dSplit (gV 0) (aCons (fC (.str "\n")) (aNil))))
  (sSeq (sAsg 2 (fSl (fD (fOp dIx (gV 1) (fC (.int 0)))) (oSom (fD (fCB dLen (aCons (fC (.str "letters ")) (aNil))))) (oNon)))
  (sSeq (sIf (tOrF (tNotF (tV (fD (fMt dStarts (fD (fOp dIx (gV 1) (fC (.int 0)))) (aCons (fC (.str "letters ")) (aNil)))))) (tNotF (tV (fD (fCall 1 F_is_letters (aCons (fV 2) (aNil))))))) (sBad) (sNext))
  (sSeq (sPar2 3 4 (oCons (eLst (aNil)) (oCons (eLst (aNil)) (oNil))))
  (sSeq (sFor (fEnum (aCons (fD (fSl (gV 1) (oSom (fC (.int 1))) (oNon))) (aNil))) (gTupF 2 (gConsF (gNm 5) (gConsF (gNm 6) (gNilF)))) (read_machine_b1))
  (sSeq (sIf (tOrF (tV (fD (fOp dEq (gV 3) (fD (eLst (aNil)))))) (tNotF (tV (fD (fCallV 2 F_begins (aCons (gV 3) (aCons (fD (fCB dLen (aCons (gV 3) (aNil)))) (aNil)))))))) (sBad) (sNext))
  (sRet (fCall 3 (mkO F_Machine_init_v2) (aCons (fV 2) (aCons (fV 3) (aCons (fV 4) (aNil))))))))))))
def F_read_machine : List D → FR := bodyF 8 B_read_machine
def _law_plan_text_e1 : S → Res D := fD (fCB dStrI (aCons (gV 4) (aNil)))
def _law_plan_text_b2 : S → RS := sApp 1 (fD (fOp dAdd (fD (fMt dJoin (fC (.str " ")) (aCons (fD (fLc [4] (fItems (fV 3)) (gNm 4) (tYesF) (_law_plan_text_e1))) (aNil)))) (fD (eIfF (tV (fD (fOp dIn (gV 2) (fD (fOp dIx (gV 0) (fC (.int 2))))))) (eD (fC (.str " lets"))) (eD (fC (.str "")))))))
def B__law_plan_text : S → RS := sSeq (sAsg 1 (eLst (aCons (fD (fOp dAdd (fC (.str "letters ")) (fD (fOp dIx (gV 0) (fC (.int 0)))))) (aNil))))
  (sSeq (sFor (fEnum (aCons (fD (fOp dIx (gV 0) (fC (.int 1)))) (aNil))) (gTupF 2 (gConsF (gNm 2) (gConsF (gNm 3) (gNilF)))) (_law_plan_text_b2))
  (sRet (fMt dJoin (fC (.str "\n")) (aCons (gV 1) (aNil)))))
def F__law_plan_text : List D → FR := bodyF 5 B__law_plan_text
def B_Machine_eq : S → RS := sSeq (sIf (tNotF (tV (fD (fOp1 (dIsA "Machine") (gV 1))))) (sRet (eD (fC (.bool false)))) (sNext))
  (sRet (eAndF (fD (fOp dEq (fD (fOp1 (dFld "Machine" "signs") (gV 0))) (fD (fOp1 (dFld "Machine" "signs") (gV 1))))) (eAndF (fD (fOp dEq (fD (fOp1 (dFld "Machine" "lines") (gV 0))) (fD (fOp1 (dFld "Machine" "lines") (gV 1))))) (fOp dEq (fD (fOp1 (dFld "Machine" "ends") (gV 0))) (fD (fOp1 (dFld "Machine" "ends") (gV 1)))))))
def F_Machine_eq : List D → FR := bodyF 2 B_Machine_eq
end QP
namespace QM
open PySem PySem.Spec L2 QL QP
section
variable {α β : Type} {a : α} {s r : S} {c : Str} {f : List (Str × D)} {k : α → S → Res β} {kS : α → S → RS} {kR : S → RS}
@[simp] theorem bind_ok : (Res.ok a s).bind k = k a s := rfl
@[simp] theorem bind_exc : (Res.exc c f s : Res α).bind k = .exc c f s := rfl
@[simp] theorem bind_bad : (Res.bad : Res α).bind k = .bad := rfl
@[simp] theorem bindS_ok : (Res.ok a s).bindS kS = kS a s := rfl
@[simp] theorem bindS_exc : (Res.exc c f s : Res α).bindS kS = .exc c f s := rfl
@[simp] theorem bindS_bad : (Res.bad : Res α).bindS kS = .bad := rfl
@[simp] theorem go_nx : (RS.nx s).go kR = kR s := rfl
@[simp] theorem go_rt {v : SV} : (RS.rt v s).go kR = .rt v s := rfl
@[simp] theorem go_exc : (RS.exc c f s).go kR = .exc c f s := rfl
@[simp] theorem go_bad : RS.bad.go kR = .bad := rfl
end
section
variable {r : S} {fa fb fc : S → Res D} {F G : S → Res SV} {FL : S → Res (List D)} {FS : S → Res (List SV)} {T U : S → Res Bool} {A B C : S → RS} {op : D → D → Option OV} {o1 : D → Option OV} {ob : List D → Option OV} {om : D → List D → Option OV} {d e : D} {x : SV} {i j l n : Nat} {a b : Int} {z y : Str} {ds es : List D} {sl : List (Option SV)} {tp : Option (Int × Int)}
@[simp] theorem s_fC : fC d r = .ok d r := id rfl
@[simp] theorem s_fD : fD F r = (F r).bind fun x r => asD x r fun d r => .ok d r := id rfl
@[simp] theorem s_eD : eD fa r = (fa r).bind fun d r => .ok (.fz d) r := id rfl
@[simp] theorem s_asfz {α} {k : D → S → Res α} : asD (.fz d) r k = k d r := id rfl
@[simp] theorem s_asol {α} {k : D → S → Res α} : asD (.ol ds) r k = k (.list ds) r := id rfl
@[simp] theorem s_fOp : fOp op fa fb r = (fa r).bind fun x r => (fb r).bind fun y r => ovR (op x y) r := id rfl
@[simp] theorem s_fOp1 : fOp1 o1 fa r = (fa r).bind fun x r => ovR (o1 x) r := id rfl
@[simp] theorem s_fCB : fCB ob FL r = (FL r).bind fun ds r => ovR (ob ds) r := id rfl
@[simp] theorem s_fMt : fMt om fa FL r = (fa r).bind fun x r => match x with
  | .str z => (FL r).bind fun ds r => ovR (om (.str z) ds) r
  | _ => Res.bad := id rfl
@[simp] theorem s_ovfz : ovR (some (.fz d)) r = .ok (.fz d) r := id rfl
@[simp] theorem s_ovnl : ovR (some (.nl ds)) r = .ok (.ol ds) r := id rfl
@[simp] theorem s_ovnt : ovR (some (.nt ds)) r = .ok (.fz (.tuple ds)) r := id rfl
@[simp] theorem s_ovno : ovR none r = .bad := id rfl
@[simp] theorem s_gV : gV i ⟨sl, tp⟩ = match sl[i]? with
  | some (some x) => asD x ⟨sl, tp⟩ fun d r => .ok d r
  | _ => .bad := id rfl
@[simp] theorem s_fV : fV i ⟨sl, tp⟩ = match sl[i]? with
  | some (some x) => asD x ⟨sl, tp⟩ fun d r => .ok d { r with sl := r.sl.set i (some (.fz d)) }
  | _ => .bad := id rfl
@[simp] theorem s_tV : tV fa r = (fa r).bind fun d r => match d with
  | .bool b => .ok b r
  | _ => .bad := id rfl
@[simp] theorem s_tNot : tNotF T r = (T r).bind fun b r => .ok (!b) r := id rfl
@[simp] theorem s_tAnd : tAndF T U r = (T r).bind fun b r => if b then U r else .ok false r := id rfl
@[simp] theorem s_tOr : tOrF T U r = (T r).bind fun b r => if b then .ok true r else U r := id rfl
@[simp] theorem s_eAnd : eAndF fa G r = (fa r).bind fun x r => match x with
  | .bool true => G r
  | .bool false => Res.ok (SV.fz (PyData.bool false)) r
  | _ => Res.bad := id rfl
@[simp] theorem s_eOr : eOrF fa G r = (fa r).bind fun x r => match x with
  | .bool false => G r
  | .bool true => Res.ok (SV.fz (PyData.bool true)) r
  | _ => Res.bad := id rfl
@[simp] theorem s_eNot : eNotF fa r = (fa r).bind fun x r => match x with
  | .bool b => Res.ok (SV.fz (PyData.bool (!b))) r
  | _ => Res.bad := id rfl
@[simp] theorem s_eIf : eIfF T F G r = (T r).bind fun b r => if b then F r else G r := id rfl
@[simp] theorem s_aNil : aNil r = .ok [] r := id rfl
@[simp] theorem s_aCons : aCons fa FL r = (fa r).bind fun d r => (FL r).bind fun ds r => .ok (d :: ds) r := id rfl
@[simp] theorem s_oNil : oNil r = .ok [] r := id rfl
@[simp] theorem s_oCons : oCons F FS r = (F r).bind fun d r => (FS r).bind fun ds r => .ok (d :: ds) r := id rfl
@[simp] theorem s_eLst : eLst FL r = (FL r).bind fun ds r => if ds.length ≤ sizeLine then .ok (.ol ds) r else .bad := id rfl
@[simp] theorem s_eTup : eTup FL r = (FL r).bind fun ds r => if ds.length ≤ sizeLine then .ok (.fz (.tuple ds)) r else .bad := id rfl
@[simp] theorem s_oNon : oNon r = .ok none r := id rfl
@[simp] theorem s_oSom : oSom fa r = (fa r).bind fun d r => match d with
  | .int i => Res.ok (some i) r
  | _ => Res.bad := id rfl
@[simp] theorem s_fSl {fl fh : S → Res (Option Int)} : fSl fa fl fh r = (fa r).bind fun x r => (fl r).bind fun l r => (fh r).bind fun h r => ovR (dSl x l h) r := id rfl
@[simp] theorem s_sSeq : sSeq A B r = (A r).go B := id rfl
@[simp] theorem s_sIf : sIf T A B r = (T r).bindS fun b r => if b then A r else B r := id rfl
@[simp] theorem s_sNext : sNext r = .nx r := id rfl
@[simp] theorem s_sBad : sBad r = .bad := id rfl
@[simp] theorem s_sExp : sExp F r = (F r).bindS fun _ r => .nx r := id rfl
@[simp] theorem s_sRet : sRet F r = (F r).bindS fun x r => .rt x r := id rfl
@[simp] theorem s_sRetV : sRetV i ⟨sl, tp⟩ = match sl[i]? with
  | some (some x) => .rt x ⟨sl.set i none, tp⟩
  | _ => .bad := id rfl
@[simp] theorem s_sAsg : sAsg i F r = (F r).bindS fun x r => setS i x r := id rfl
@[simp] theorem s_setS : setS i x ⟨sl, tp⟩ = if i < sl.length then .nx ⟨sl.set i (some x), tp⟩ else .bad := id rfl
@[simp] theorem s_p2 : sPar2 i j FS r = (FS r).bindS fun xs r => match xs with
  | [x, y] => (setS i x r).go fun r => setS j y r
  | _ => .bad := id rfl
@[simp] theorem s_p3 : sPar3 i j l FS r = (FS r).bindS fun xs r => match xs with
  | [x, y, z] => (setS i x r).go fun r => (setS j y r).go fun r => setS l z r
  | _ => .bad := id rfl
@[simp] theorem s_pN {is : List Nat} : sParN is FS r = (FS r).bindS fun xs r => if xs.length = is.length then setAll is xs r else RS.bad := id rfl
@[simp] theorem s_all0 : setAll [] [] r = .nx r := id rfl
@[simp] theorem s_all1 {is : List Nat} {xs : List SV} : setAll (i :: is) (x :: xs) r = (setS i x r).go (setAll is xs) := id rfl
@[simp] theorem s_sApp : sApp i fa ⟨sl, tp⟩ = match sl[i]? with
  | some (some (.ol _)) => (fa ⟨sl, tp⟩).bindS fun d r => match r.sl[i]? with
    | some (some (.ol xs)) => if xs.length < sizeLine then RS.nx { r with sl := r.sl.set i (some (.ol (xs ++ [d]))) } else RS.bad
    | _ => RS.bad
  | _ => .bad := id rfl
@[simp] theorem s_fTk {k : Bool} : fTk i k ⟨sl, tp⟩ = match sl[i]? with
  | some (some .tape) => match tp with
    | some t => .ok (.fz (.int (tkG k t))) ⟨sl, tp⟩
    | none => .bad
  | _ => .bad := id rfl
@[simp] theorem s_sTk {k : Bool} : sTk i k fa r = (fa r).bindS fun d r => match r.sl[i]? with
  | some (some .tape) => match r.tp, d with
    | some t, .int x => RS.nx { r with tp := some (tkP k t x) }
    | _, _ => RS.bad
  | _ => RS.bad := id rfl
@[simp] theorem s_fItems : fItems fa r = (fa r).bind fun d r => match itemsD d with
  | some ds => Res.ok ds r
  | none => Res.bad := id rfl
@[simp] theorem s_rng1 : fRng1 FL r = (FL r).bind fun ds r => match intsD ds with
  | some [j] => if sml j = true then Res.ok (rngL 0 j.toNat) r else Res.bad
  | _ => Res.bad := id rfl
@[simp] theorem s_rng2 : fRng2 FL r = (FL r).bind fun ds r => match intsD ds with
  | some [i, j] => if sml i = true ∧ sml j = true then Res.ok (rngL i (j - i).toNat) r else Res.bad
  | _ => Res.bad := id rfl
@[simp] theorem s_rng3 : fRng3 FL r = (FL r).bind fun ds r => match intsD ds with
  | some [i, j, c] => if sml i = true ∧ sml j = true ∧ c = -1 then Res.ok ((List.range (i - j).toNat).map fun k => .int (i - (k : Nat))) r else Res.bad
  | _ => Res.bad := id rfl
@[simp] theorem s_lr1 : fLRg1 fa r = (fa r).bind fun d r => match d with
  | .int n => if rgOk 0 n = true then Res.ok (SV.ol (rngL 0 (n - 0).toNat)) r else Res.bad
  | _ => Res.bad := id rfl
@[simp] theorem s_lr2 : fLRg2 fa fb r = (fa r).bind fun d r => (fb r).bind fun d2 r => match d, d2 with
  | .int i, .int j => if rgOk i j = true then Res.ok (SV.ol (rngL i (j - i).toNat)) r else Res.bad
  | _, _ => Res.bad := id rfl
@[simp] theorem s_lr3 : fLRg3 FL r = (FL r).bind fun ds r => match intsD ds with
  | some [i, j, c] => if rgOk i j = true ∧ (i - j).toNat ≤ 2 ^ 24 ∧ c = -1 then Res.ok (SV.ol ((List.range (i - j).toNat).map fun k => .int (i - ((k : Nat) : Int)))) r else Res.bad
  | _ => Res.bad := id rfl
@[simp] theorem s_enum : fEnum FL r = (FL r).bind fun ds r => match ds with
  | [.list ds] => Res.ok (enumL ds) r
  | [.str z] => Res.ok (enumL (z.cps.toList.map fun c => .str (tx [c]))) r
  | _ => Res.bad := id rfl
@[simp] theorem s_sFor {I : S → Res (List D)} {Gf : D → S → Option S} : sFor I Gf B r = (I r).bindS fun ds r => forF Gf B ds r := id rfl
@[simp] theorem s_fLc {vs : List Nat} {I : S → Res (List D)} {Gf : D → S → Option S} : fLc vs I Gf T fa r = (I r).bind fun ds r => match lcF vs Gf T fa ds [] { r with sl := wipeS vs r.sl } with
  | .ok acc r' => Res.ok (SV.ol acc) { r' with sl := restS vs r.sl r'.sl }
  | _ => Res.bad := id rfl
@[simp] theorem s_call {FD : List D → FR} : fCall n FD FL r = (FL r).bind fun ds r => if ds.length = n then outR (FD ds) r else .bad := id rfl
@[simp] theorem s_callT {FD : Int × Int → List D → FR} : fCallT i n FD FL ⟨sl, tp⟩ = match sl[i]? with
  | some (some .tape) => (FL ⟨sl, tp⟩).bind fun ds r => match r.tp with
    | some t => if ds.length = n then outT (FD t ds) r else .bad
    | none => .bad
  | _ => .bad := id rfl
@[simp] theorem s_outR : outR (.ok x tp) r = if x.out then .ok x r else .bad := id rfl
@[simp] theorem s_outRx {c : Str} {f : List (Str × D)} : outR (.exc c f tp) r = .exc c f r := id rfl
@[simp] theorem s_outT {t : Int × Int} : outT (.ok x (some t)) r = if x.out then .ok x { r with tp := some t } else .bad := id rfl
@[simp] theorem s_out1 : (SV.fz d).out = true := id rfl
@[simp] theorem s_out2 : (SV.ol ds).out = true := id rfl
@[simp] theorem s_bodyF : bodyF n B ds = outF (B (mkS n (ds.map .fz) none)) := id rfl
@[simp] theorem s_bodyT {t : Int × Int} : bodyT n B t ds = outF (B (mkS n (.tape :: ds.map .fz) (some t))) := id rfl
@[simp] theorem s_mkS {xs : List SV} : mkS n xs tp = ⟨xs.map some ++ List.replicate (n - xs.length) none, tp⟩ := id rfl
@[simp] theorem s_oF1 : outF (.nx r) = .ok (.fz .none) r.tp := id rfl
@[simp] theorem s_oF2 : outF (.rt x r) = if x.out then .ok x r.tp else .bad := id rfl
@[simp] theorem s_gNm : gNm i d ⟨sl, tp⟩ = if i < sl.length then some ⟨sl.set i (some (.fz d)), tp⟩ else none := id rfl
@[simp] theorem s_gTup {Gs : List D → S → Option S} : gTupF n Gs (.tuple ds) r = if ds.length = n then Gs ds r else none := id rfl
@[simp] theorem s_gNil : gNilF [] r = some r := id rfl
@[simp] theorem s_gCons {Gf : D → S → Option S} {Gs : List D → S → Option S} : gConsF Gf Gs (d :: ds) r = match Gf d r with
  | some r => Gs ds r
  | none => none := id rfl
@[simp] theorem s_wipe0 : wipeS [] sl = sl := id rfl
@[simp] theorem s_wipe1 {vs : List Nat} : wipeS (i :: vs) sl = (wipeS vs sl).set i none := id rfl
@[simp] theorem s_rest0 {old : List (Option SV)} : restS [] old sl = sl := id rfl
@[simp] theorem s_rest1 {vs : List Nat} {old : List (Option SV)} : restS (i :: vs) old sl = match old[i]? with
  | some (some (.fz d)) => (restS vs old sl).set i (some (.fz d))
  | _ => restS vs old sl := id rfl
@[simp] theorem s_tkG1 {t : Int × Int} : tkG true t = t.1 := id rfl
@[simp] theorem s_tkG2 {t : Int × Int} : tkG false t = t.2 := id rfl
@[simp] theorem s_tkP1 {t : Int × Int} : tkP true t a = (a, t.2) := id rfl
@[simp] theorem s_tkP2 {t : Int × Int} : tkP false t a = (t.1, a) := id rfl
@[simp] theorem s_tYes : tYesF r = .ok true r := id rfl
@[simp] theorem d_addI : dAdd (.int a) (.int b) = some (.fz (.int (a + b))) := id rfl
@[simp] theorem d_addS : dAdd (.str z) (.str y) = if z.length + y.length ≤ sizeLine then some (.fz (.str (z ++ y))) else none := id rfl
@[simp] theorem d_addL : dAdd (.list ds) (.list es) = if ds.length + es.length ≤ sizeLine then some (.nl (ds ++ es)) else none := id rfl
@[simp] theorem d_sub : dSub (.int a) (.int b) = some (.fz (.int (a - b))) := id rfl
@[simp] theorem d_mulI : dMul (.int a) (.int b) = if bitsI a + bitsI b ≤ 134217728 then some (.fz (.int (a * b))) else none := id rfl
@[simp] theorem d_mulS : dMul (.str z) (.int b) = if z.length * b.toNat ≤ sizeLine ∧ -(2 ^ 40) < b ∧ b < 2 ^ 40 then some (.fz (.str (tx (List.replicate b.toNat z.cps.toList).flatten))) else none := id rfl
@[simp] theorem d_mulL : dMul (.list ds) (.int b) = if ds.length * b.toNat ≤ sizeLine ∧ -(2 ^ 40) < b ∧ b < 2 ^ 40 then some (.nl (List.replicate b.toNat ds).flatten) else none := id rfl
@[simp] theorem d_div : dFdiv (.int a) (.int b) = if 0 < b ∧ b < 1000000000000000000000000000000 then some (.fz (.int (a / b))) else none := id rfl
@[simp] theorem d_mod : dMod (.int a) (.int b) = if 0 < b then some (.fz (.int (a % b))) else none := id rfl
@[simp] theorem d_pow : dPow (.int a) (.int b) = if 0 ≤ b ∧ (bitsI a : Int) * b ≤ 2 ^ 27 then some (.fz (.int (a ^ b.toNat))) else none := id rfl
@[simp] theorem d_ordI {fi : Int → Int → Bool} {ft : List Nat → List Nat → Bool} : dOrd fi ft (.int a) (.int b) = some (.fz (.bool (fi a b))) := id rfl
@[simp] theorem d_ordS {fi : Int → Int → Bool} {ft : List Nat → List Nat → Bool} : dOrd fi ft (.str z) (.str y) = some (.fz (.bool (ft z.cps.toList y.cps.toList))) := id rfl
@[simp] theorem d_eq {f : Bool → Bool} : dEqF f d e = if okD d = true ∧ okD e = true then some (.fz (.bool (f (PyData.eqv d e)))) else if unEq d e = true then some (.fz (.bool (f false))) else none := by unfold dEqF; rw [okF_eq, okF_eq, eqF_eq]
@[simp] theorem d_inS {f : Bool → Bool} : dInF f (.str z) (.str y) = some (.fz (.bool (f (strIn z y)))) := id rfl
@[simp] theorem d_neg : dNeg (.int a) = some (.fz (.int (-a))) := id rfl
theorem d_ixL : dIx (.list ds) (.int a) = (atI ds a).map .fz := id rfl
theorem d_ixT : dIx (.tuple ds) (.int a) = (atI ds a).map .fz := id rfl
theorem d_ixS : dIx (.str z) (.int a) = if z.length ≤ sizeLine then (atI z.cps.toList a).map fun c => .fz (.str (tx [c])) else none := id rfl
@[simp] theorem d_slL {lo hi : Option Int} : dSl (.list ds) lo hi = some (.nl (cutL ds lo hi)) := id rfl
@[simp] theorem d_slS {lo hi : Option Int} : dSl (.str z) lo hi = if z.length ≤ sizeLine then some (.fz (.str (tx (cutL z.cps.toList lo hi)))) else none := id rfl
@[simp] theorem d_revL : dRev (.list ds) = some (.nl ds.reverse) := id rfl
@[simp] theorem d_revS : dRev (.str z) = if z.length ≤ sizeLine then some (.fz (.str (tx z.cps.toList.reverse))) else none := id rfl
@[simp] theorem d_lenS : dLen [.str z] = if z.length ≤ sizeLine then some (.fz (.int z.length)) else none := id rfl
@[simp] theorem d_lenL : dLen [.list ds] = some (.fz (.int ds.length)) := id rfl
@[simp] theorem d_lenT : dLen [.tuple ds] = some (.fz (.int ds.length)) := id rfl
@[simp] theorem d_int : dInt [.int a] = some (.fz (.int a)) := id rfl
@[simp] theorem d_max2 : dMax2 [.int a, .int b] = some (.fz (.int (if b > a then b else a))) := id rfl
@[simp] theorem d_min2 : dMin2 [.int a, .int b] = some (.fz (.int (if b < a then b else a))) := id rfl
@[simp] theorem d_isi_none {T : String} : dIsi T (PyData.none) = (kitB "NoneType" T).map fun b => .fz (.bool b) := id rfl
@[simp] theorem d_isi_bool {T : String} {p} : dIsi T (PyData.bool p) = (kitB "bool" T).map fun b => .fz (.bool b) := id rfl
@[simp] theorem d_isi_int {T : String} {p} : dIsi T (PyData.int p) = (kitB "int" T).map fun b => .fz (.bool b) := id rfl
@[simp] theorem d_isi_str {T : String} {p} : dIsi T (PyData.str p) = (kitB "str" T).map fun b => .fz (.bool b) := id rfl
@[simp] theorem d_isi_list {T : String} {p} : dIsi T (PyData.list p) = (kitB "list" T).map fun b => .fz (.bool b) := id rfl
@[simp] theorem d_isi_tuple {T : String} {p} : dIsi T (PyData.tuple p) = (kitB "tuple" T).map fun b => .fz (.bool b) := id rfl
@[simp] theorem d_find3 : dFind3 (.str z) [.str y, .int a] = some (.fz (.int (Txt.find3 z y a))) := by rw [← find3f_eq] <;> rfl
@[simp] theorem d_rfind4 : dRfind4 (.str z) [.str y, .int a, .int b] = some (.fz (.int (Txt.rfindIn z y a b))) := by rw [← rfind4f_eq] <;> rfl
@[simp] theorem d_isN {f : Bool → Bool} : dIsF f d .none = some (.fz (.bool (f (isN d)))) := by cases d <;> rfl
@[simp] theorem d_isB {f : Bool → Bool} {p q : Bool} : dIsF f (.bool p) (.bool q) = some (.fz (.bool (f (decide (p = q))))) := id rfl
@[simp] theorem d_ints0 : intsD [] = some [] := id rfl
@[simp] theorem d_ints1 : intsD (.int a :: ds) = (intsD ds).map (a :: ·) := id rfl
@[simp] theorem d_ints {ns : List Int} : intsD (ns.map PyData.int) = some ns := by
  induction ns with
  | nil => rfl
  | cons a r ih => rw [List.map_cons, d_ints1, ih]; rfl
@[simp] theorem d_itL : itemsD (.list ds) = some ds := id rfl
@[simp] theorem d_itT : itemsD (.tuple ds) = some ds := id rfl
@[simp] theorem d_itS : itemsD (.str z) = some (z.cps.toList.map fun c => .str (tx [c])) := id rfl
@[simp] theorem tx_cps' {l : List Nat} : (tx l).cps = l.toArray := id rfl
@[simp] theorem tx_len' {l : List Nat} : (tx l).length = l.length := by simp [tx, Str.length]
@[simp] theorem tx_add {l m : List Nat} : tx l ++ tx m = tx (l ++ m) := by
  show (⟨l.toArray ++ m.toArray⟩ : Str) = ⟨(l ++ m).toArray⟩
  simp
theorem tx_inj {l m : List Nat} : tx l = tx m ↔ l = m := by simp [tx]
end
@[simp] theorem kb_ss : kitB "str" "str" = some true := by decide +kernel
@[simp] theorem kb_ii : kitB "int" "int" = some true := by decide +kernel
@[simp] theorem kb_ib : kitB "int" "bool" = some false := by decide +kernel
@[simp] theorem kb_tt : kitB "tuple" "tuple" = some true := by decide +kernel
@[simp] theorem kb_ll : kitB "list" "list" = some true := by decide +kernel
@[simp] theorem ty_s {z : Str} : tyN (.str z) = "str" := id rfl
@[simp] theorem ty_i {i : Int} : tyN (.int i) = "int" := id rfl
@[simp] theorem ty_t {ds : List D} : tyN (.tuple ds) = "tuple" := id rfl
@[simp] theorem ty_l {ds : List D} : tyN (.list ds) = "list" := id rfl
@[simp] theorem ty_b {b : Bool} : tyN (.bool b) = "bool" := id rfl
@[simp] theorem ty_n : tyN .none = "NoneType" := id rfl
end QM
namespace QM
open PySem PySem.Spec L2 QL QP
theorem strIn_one (c : Nat) (z : Str) : strIn (tx [c]) z = decide (c ∈ z.cps.toList) := (QM.inF_eq _ _).trans (StrLaws.found_one z c)
end QM
namespace QM
open PySem PySem.Spec L2 QL QP
/-- a comprehension whose state stays -/
theorem lcF_map {vs : List Nat} {G : D → S → Option S} {T : S → Res Bool} {F : S → Res D} (p : D → Bool) (f : D → D) {r0 : S} : ∀ (ds acc : List D), acc.length + ds.length ≤ sizeLine →
    (∀ d ∈ ds, ∃ r1 r2, G d r0 = some r1 ∧ T r1 = .ok (p d) r2 ∧ (p d = true → ∃ r3, F r2 = .ok (f d) r3 ∧ (⟨wipeS vs r3.sl, r3.tp⟩ : S) = r0) ∧ (p d = false → (⟨wipeS vs r2.sl, r2.tp⟩ : S) = r0)) →
    lcF vs G T F ds acc r0 = .ok (acc ++ (ds.filter p).map f) r0
  | [], acc, _, _ => by simp [lcF]
  | d :: ds, acc, hl, h => by
    obtain ⟨r1, r2, e1, e2, h1, h2⟩ := h d List.mem_cons_self
    unfold lcF
    rw [e1]
    dsimp only
    rw [e2]
    cases hp : p d with
    | true =>
      obtain ⟨r3, e3, e4⟩ := h1 hp
      dsimp only
      rw [e3]
      dsimp only
      rw [List.length_cons] at hl
      rw [if_pos (by omega), e4, lcF_map p f ds _ (by rw [List.length_append, List.length_singleton]; omega) fun d' hd => h d' (List.mem_cons_of_mem _ hd)]
      rw [List.filter_cons_of_pos hp, List.map_cons, List.append_assoc, List.singleton_append]
    | false =>
      dsimp only
      rw [h2 hp, lcF_map p f ds acc (by rw [List.length_cons] at hl; omega) fun d' hd => h d' (List.mem_cons_of_mem _ hd)]
      rw [List.filter_cons_of_neg (by simp [hp])]
def okN (n : Nat) (d : D) : Prop := d.plain = true ∧ d.depth ≤ n
theorem okN.ok {n : Nat} {d : D} (h : okN n d) (hn : n ≤ 60 := by decide) : okD d = true := by
  unfold okD
  simp only [Bool.and_eq_true, decide_eq_true_eq]
  exact ⟨h.1, Nat.le_trans h.2 hn⟩
theorem okN_all {n : Nat} : ∀ {ds : List D}, (∀ d ∈ ds, okN n d) → PyData.plainAll ds = true ∧ PyData.depthAll ds ≤ n
  | [], _ => ⟨rfl, Nat.zero_le _⟩
  | d :: ds, h => by
    obtain ⟨a, b⟩ := okN_all fun e he => h e (List.mem_cons_of_mem _ he)
    obtain ⟨c, e⟩ := h d List.mem_cons_self
    simp only [PyData.plainAll, PyData.depthAll, Bool.and_eq_true]
    exact ⟨⟨c, a⟩, by omega⟩
theorem okN_list {n : Nat} {ds : List D} (h : ∀ d ∈ ds, okN n d) : okN (n + 1) (.list ds) := by
  obtain ⟨a, b⟩ := okN_all h
  exact ⟨by simpa [PyData.plain] using a, by simp only [PyData.depth]; omega⟩
theorem okN_tup {n : Nat} {ds : List D} (h : ∀ d ∈ ds, okN n d) : okN (n + 1) (.tuple ds) := by
  obtain ⟨a, b⟩ := okN_all h
  exact ⟨by simpa [PyData.plain] using a, by simp only [PyData.depth]; omega⟩
theorem okN.up {n m : Nat} {d : D} (h : okN n d) (hm : n ≤ m) : okN m d := ⟨h.1, Nat.le_trans h.2 hm⟩
theorem okN_int {i : Int} {n : Nat} : okN n (.int i) := ⟨rfl, Nat.zero_le _⟩
theorem okN_str {i : Str} {n : Nat} : okN n (.str i) := ⟨rfl, Nat.zero_le _⟩
theorem okN_bool {i : Bool} {n : Nat} : okN n (.bool i) := ⟨rfl, Nat.zero_le _⟩
@[simp] theorem ok_int {i : Int} : okD (.int i) = true := rfl
@[simp] theorem ok_str {i : Str} : okD (.str i) = true := rfl
@[simp] theorem ok_bool {i : Bool} : okD (.bool i) = true := rfl
@[simp] theorem ok_none : okD .none = true := rfl
@[simp] theorem ok_ints {ns : List Int} : okD (.list (ns.map PyData.int)) = true := (okN_list (n := 0) fun d hd => by obtain ⟨i, _, rfl⟩ := List.mem_map.mp hd; exact okN_int).ok
@[simp] theorem ok_strs {ns : List Str} : okD (.list (ns.map PyData.str)) = true := (okN_list (n := 0) fun d hd => by obtain ⟨i, _, rfl⟩ := List.mem_map.mp hd; exact okN_str).ok
theorem eqv_int {a b : Int} : PyData.eqv (.int a) (.int b) = decide (a = b) := by
  show (a == b) = _
  rw [Bool.eq_iff_iff]; simp
theorem eqv_str {a b : Str} : PyData.eqv (.str a) (.str b) = decide (a = b) := by
  show (a == b) = _
  rw [Bool.eq_iff_iff]; simp
theorem tx_dec {l m : List Nat} : decide (tx l = tx m) = decide (l = m) := by simp [tx_inj]
theorem bits_lt {a : Int} {n : Nat} (h0 : 0 ≤ a) (h : a < 2 ^ n) : bitsI a ≤ n := PySem.intBits_le_iff.mpr (by
  have : ((a.natAbs : Nat) : Int) < ((2 ^ n : Nat) : Int) := by
    rw [Int.natAbs_of_nonneg h0]
    simpa using h
  exact Int.ofNat_lt.mp this)
theorem pick_eq {t : Int × Int} (ok : TapeOk t = true) {many : Int} (h0 : 0 < many) (h1 : many < 1000000000000000000000000000000) : ∃ f t', F__law_pick t [.int many] = .ok (.fz (.int f)) (some t') ∧ TapeOk t' = true ∧ 0 ≤ f ∧ f < many := by
  obtain ⟨d, m⟩ := t
  unfold TapeOk at ok
  simp only [Bool.and_eq_true, decide_eq_true_eq] at ok
  obtain ⟨⟨⟨d0, d1⟩, m0⟩, m1⟩ := ok
  by_cases hd : many ≤ d
  · refine ⟨d % many, (d / many, m), ?_, ?_, Int.emod_nonneg _ (by omega), Int.emod_lt_of_pos _ h0⟩
    · simp [F__law_pick, B__law_pick, hd, h0, h1]
    · unfold TapeOk
      simp only [Bool.and_eq_true, decide_eq_true_eq]
      have q0 : 0 ≤ d / many := Int.ediv_nonneg d0 (by omega)
      have q1 : d / many ≤ d := Int.ediv_le_self _ d0
      exact ⟨⟨⟨q0, PySem.intBits_le_of_natAbs (by omega) d1⟩, m0⟩, m1⟩
  · have b1 : bitsI m + bitsI 40014 ≤ 134217728 := by
      have := bits_lt (n := 40) m0 (by simpa using m1)
      have : bitsI 40014 ≤ 16 := by decide
      omega
    generalize ea : (m * 40014 + 1031) % 2147483563 = a
    have a0 : 0 ≤ a := by rw [← ea]; exact Int.emod_nonneg _ (by decide)
    have a1 : a < 2147483563 := by rw [← ea]; exact Int.emod_lt_of_pos _ (by decide)
    have b2 : (bitsI a : Int) * 2 ≤ 134217728 := by
      have := bits_lt (n := 31) a0 (by omega)
      omega
    generalize eb : a ^ (2 : Int).toNat % 2147483399 = b
    have c0 : 0 ≤ b := by rw [← eb]; exact Int.emod_nonneg _ (by decide)
    have c1 : b < 2147483399 := by rw [← eb]; exact Int.emod_lt_of_pos _ (by decide)
    have b3 : (bitsI b : Int) * 3 ≤ 134217728 := by
      have := bits_lt (n := 31) c0 (by omega)
      omega
    refine ⟨b ^ (3 : Int).toNat % 998244353 / 13 % many, (d, a), ?_, ?_, Int.emod_nonneg _ (by omega), Int.emod_lt_of_pos _ h0⟩
    · have e2 : a ^ 2 % 2147483399 = b := eb
      simp [F__law_pick, B__law_pick, hd, h0, b1, ea, b2, e2, b3]
    · unfold TapeOk
      simp only [Bool.and_eq_true, decide_eq_true_eq]
      exact ⟨⟨⟨d0, d1⟩, a0⟩, by omega⟩
end QM
namespace QM
open PySem PySem.Spec L2 QL QP
def Tx (l : List Nat) : Prop := ∀ c ∈ l, 97 ≤ c ∧ c ≤ 122
instance (l : List Nat) : Decidable (Tx l) := by unfold Tx; infer_instance
theorem alpha_eq : (Str.ofString "abcdefghijklmnopqrstuvwxyz") = tx (List.range' 97 26) := by decide
theorem mem_alpha {c : Nat} : c ∈ List.range' 97 26 ↔ 97 ≤ c ∧ c ≤ 122 := by rw [List.mem_range'_1]; omega
def lets (l : List Nat) : List D := l.map fun c => .str (tx [c])
theorem mem_lets {l : List Nat} {d : D} (h : d ∈ lets l) : ∃ c ∈ l, d = .str (tx [c]) := by
  obtain ⟨c, hc, e⟩ := List.mem_map.mp h
  exact ⟨c, hc, e.symm⟩
def badL (d : D) : Bool := match d with
  | .str z => !strIn z (tx (List.range' 97 26))
  | _ => false
theorem badL_one (c : Nat) : badL (.str (tx [c])) = !decide (97 ≤ c ∧ c ≤ 122) := by
  unfold badL
  dsimp only
  rw [strIn_one]
  congr 1
  have : (tx (List.range' 97 26)).cps.toList = List.range' 97 26 := rfl
  rw [this]
  exact decide_eq_decide.mpr mem_alpha
theorem lets_bad {l : List Nat} : ((lets l).filter badL).map id = [] ↔ Tx l := by
  rw [List.map_id, List.filter_eq_nil_iff]
  constructor
  · intro h c hc
    have := h (.str (tx [c])) (List.mem_map.mpr ⟨c, hc, rfl⟩)
    rw [badL_one] at this
    simpa using this
  · intro h d hd
    obtain ⟨c, hc, rfl⟩ := mem_lets hd
    rw [badL_one]
    simp [h c hc]
theorem is_text_eq (l : List Nat) (hl : l.length ≤ sizeLine) : F_is_text [.str (tx l)] = .ok (.fz (.bool (decide (Tx l)))) none := by
  have h := lcF_map (vs := [1]) (G := gNm 1) (T := is_text_t1) (F := is_text_e2) badL id (r0 := ⟨[some (.fz (.str (tx l))), none], none⟩) (lets l) [] (by simpa [lets] using hl) fun d hd => by
    obtain ⟨c, hc, rfl⟩ := mem_lets hd
    refine ⟨⟨[some (.fz (.str (tx l))), some (.fz (.str (tx [c])))], none⟩, ⟨[some (.fz (.str (tx l))), some (.fz (.str (tx [c])))], none⟩, by simp, ?_, fun _ => ⟨_, by simp [is_text_e2]; rfl, by simp⟩, fun _ => by simp⟩
    simp [is_text_t1, alpha_eq, badL]
  have hb := lets_bad (l := l)
  have ho : okD (.list (((lets l).filter badL).map id)) = true := (okN_list (n := 0) fun d hd => by
    rw [List.map_id] at hd
    obtain ⟨c, _, rfl⟩ := mem_lets (List.mem_filter.mp hd).1
    exact okN_str).ok
  rw [List.nil_append] at h
  generalize ((lets l).filter badL).map id = bs at h hb ho
  have he : PyData.eqv (.list bs) (.list []) = decide (Tx l) := by
    cases bs with
    | nil => simp [PyData.eqv, PyData.eqvAll, hb.mp rfl]
    | cons b bs =>
      have : ¬ Tx l := fun z => by have := hb.mpr z; cases this
      simp [PyData.eqv, PyData.eqvAll, this]
  have o0 : okD (.list []) = true := rfl
  unfold lets at h
  simp [F_is_text, B_is_text, h, ho, he, o0]
theorem is_count_eq (i : Int) : F_is_count [.int i] = .ok (.fz (.bool (decide (0 ≤ i)))) none := by
  simp [F_is_count, B_is_count]
theorem cut_to {α : Type} (xs : List α) (b : Nat) : cutL xs none (some (b : Int)) = xs.take b := by
  unfold cutL
  rw [HT.sIx_nat, HT.sIx_none, Nat.sub_zero, List.drop_zero, ← List.take_take, List.take_length]
/-- ways ahead: the ways of the places before -/
def wstep (l : List Nat) (f : List Int) (i c : Nat) : Int := match prv l c i with
  | none => 1
  | some k => 1 + minI (f.drop k)
def waysTo (l : List Nat) : Nat → List Int
  | 0 => []
  | n + 1 => waysTo l n ++ [wstep l (waysTo l n) n (l.getD n 0)]
end QM
namespace QM
open PySem PySem.Spec L2 QL QP
def pr2 (p : Int × Int) : D := .tuple [.int p.1, .int p.2]
@[simp] theorem s_lz {FL : S → Res (List D)} {r : S} : fListZip FL r = (FL r).bind fun ds r => match ds with
  | [.list xs, .list ys] => Res.ok (SV.ol (zipL xs ys)) r
  | _ => Res.bad := id rfl
def spI (k : Int) : List (Int × Int) → Nat → List Nat
  | [], _ => []
  | (a, b) :: r, i => if k + 1 < a + b then i :: spI k r (i + 1) else spI k r (i + 1)
@[simp] theorem d_sumA2 {a b : Int} : dSumA [.tuple [.int a, .int b]] = some (.fz (.int (a + b))) := by
  show some (OV.fz (.int ([a, b].sum))) = _
  simp
end QM
namespace QM
open PySem PySem.Spec L2 QL QP
@[simp] theorem ok_pr2 (p : Int × Int) : okD (pr2 p) = true := rfl
@[simp] theorem eqv_pr2 (p q : Int × Int) : PyData.eqv (pr2 p) (pr2 q) = decide (p = q) := by
  obtain ⟨a, b⟩ := p
  obtain ⟨c, d⟩ := q
  show ((a == c) && ((b == d) && true)) = _
  rw [Bool.eq_iff_iff]
  simp
@[simp] theorem d_sumP {p : Int × Int} : dSumA [pr2 p] = some (.fz (.int (p.1 + p.2))) := d_sumA2
end QM
namespace QM
open PySem PySem.Spec L2 QL QP
end QM
namespace QM
open PySem PySem.Spec L2 QL QP
@[simp] theorem d_sortSet {l : List Nat} : dSortSet (.str (tx l)) = if l.length < 4000 then some (.nl ((QS.sortU l).map fun c => .str (tx [c]))) else none := by
  show (if (tx l).length < 4000 then some (OV.nl ((QS.sortU (tx l).cps.toList).map fun c => .str (tx [c]))) else none) = _
  rw [tx_len l]
  rfl
@[simp] theorem d_sumL {ns : List Int} : dSumA [.list (ns.map PyData.int)] = some (.fz (.int ns.sum)) := by
  show (match intsD (ns.map PyData.int) with
    | some ns => some (OV.fz (.int ns.sum))
    | _ => none) = _
  rw [d_ints]
end QM
namespace QM
open PySem PySem.Spec L2 QL QP
section
variable {l : List Nat} {s : Nat} {a3 a4 : Option SV}
def st0 (l : List Nat) (s : Nat) (fd : List D) (a3 : Option SV) (x : SV) : S := ⟨[some (.fz (.str (tx l))), some (.ol fd), some (.fz (.int (s : Nat))), a3, some x, none, none, none, none], none⟩
end
end QM
namespace QM
open PySem PySem.Spec L2 QL QP
end QM
namespace K57
open PySem PySem.Spec L2 QL QP
def topS (i : Nat) : Stmt := PySem.Challenge.pw_scatteredpieces_k57_machines_written.main.body.getD i (.Pass ⟨0, 0, 0, 0⟩)
section
variable {P : Program} {w : World} {K : PySem.W.Frag} {mg : Str → Option Value} {base : Heap}
abbrev s__law_tape : Stmt := topS 27
theorem sc__law_tape : FnScope ["script", "start", "mixed", "cell", "digits"] ["script", "start"] (defScope s__law_tape) := ⟨rfl, rfl, rfl, by decide +kernel, rfl, by decide +kernel, by decide +kernel⟩
theorem fn__law_tape {f : Addr} {fd : FuncData} (Fu : Fun K "_law_tape" "_law_tape" s__law_tape f fd) (m_int : mg "int" = none) (m_len : mg "len" = none) : FnG P w K mg base 1 f fd ["script", "start"] (spTp K) :=
  fg_tape Fu sc__law_tape rfl fun cdv A out s H E hr =>
    pss_cons (ps_set (i := 2) sc__law_tape.nd rfl (.inl rfl) (pe_op op_add pe_int (pe_op op_mulB (pv 1) pe_int)))
    (pss_cons (ps_for (passes_of rfl) rfl (pi_list (pv 0)) (pg_name (i := 3) sc__law_tape.nd rfl (.inl rfl)) (pss_one (ps_set (i := 2) sc__law_tape.nd rfl (.inl rfl)
      (pe_op op_add (pe_op op_mod (pe_callTy call_int1 (by rfl) m_int PyProof.Rows.boot_int (pa_cons (pe_op op_powB (pe_op op_add (pe_op op_add (pe_op op_mulB (pv 2) pe_int) (pe_op op_mulB (pv 3) (pv 3))) pe_int) pe_int) pa_nil)) pe_int) pe_int))))
    (pss_cons (ps_set (i := 4) sc__law_tape.nd rfl (.inl rfl) (pe_ifExp (PW.pt (pw_and (pt_cmpR op_lt (pv 1) (pe_callB call_len (by rfl) m_len PySem.boot_len (pa_cons (pv 0) pa_nil)) (nomark _))
        (pw_and1 (pt_cmpR op_ge (pe_ix ix_seq (pv 0) (pv 1) (fun _ _ => rfl)) (pe_op op_powB pe_int pe_int) (nomark _)))))
      (pe_op op_sub (pe_ix ix_seq (pv 0) (pv 1) (fun _ _ => rfl)) (pe_op op_powB pe_int pe_int)) pe_int))
    (pss_one (ps_ret (pe_disp (pps_cons pe_str (pv 4) (pps_cons pe_str (pv 2) pps_nil)) rfl rfl (by decide) (by decide))))))
abbrev s_Machine_rows : Stmt := methS 2 (topS 16)
theorem sc_Machine_rows : FnScope ["self"] ["self"] (defScope s_Machine_rows) := ⟨rfl, rfl, rfl, by decide +kernel, rfl, by decide +kernel, by decide +kernel⟩
theorem fn_Machine_rows {f : Addr} {fd : FuncData} (Fu : Fun K "rows" "Machine.rows" s_Machine_rows f fd) (na_Machine_lines : NoA K "Machine" "lines") (m_list : mg "list" = none) : FnG P w K mg base 1 f fd ["self"] (spF K mg 1 F_Machine_rows) :=
  fgF (B := B_Machine_rows) Fu sc_Machine_rows rfl rfl rfl fun cdv A out s H E hG hr tk => ⟨_,
    (ssx_one (sx_ret (ex_listA rfl m_list (bax_cons (EX.toB (ex_fld na_Machine_lines (bx_var (pv 0)))) bax_nil))))⟩
abbrev s_Machine_letters : Stmt := methS 1 (topS 16)
theorem sc_Machine_letters : FnScope ["self"] ["self"] (defScope s_Machine_letters) := ⟨rfl, rfl, rfl, by decide +kernel, rfl, by decide +kernel, by decide +kernel⟩
theorem fn_Machine_letters {f : Addr} {fd : FuncData} (Fu : Fun K "letters" "Machine.letters" s_Machine_letters f fd) (na_Machine_signs : NoA K "Machine" "signs") : FnG P w K mg base 1 f fd ["self"] (spF K mg 1 F_Machine_letters) :=
  fgF (B := B_Machine_letters) Fu sc_Machine_letters rfl rfl rfl fun cdv A out s H E hG hr tk => ⟨_,
    (ssx_one (sx_ret (ex_fld na_Machine_signs (bx_var (pv 0)))))⟩
abbrev s_Machine_lets : Stmt := methS 3 (topS 16)
theorem sc_Machine_lets : FnScope ["self"] ["self"] (defScope s_Machine_lets) := ⟨rfl, rfl, rfl, by decide +kernel, rfl, by decide +kernel, by decide +kernel⟩
theorem fn_Machine_lets {f : Addr} {fd : FuncData} (Fu : Fun K "lets" "Machine.lets" s_Machine_lets f fd) (na_Machine_ends : NoA K "Machine" "ends") (m_list : mg "list" = none) : FnG P w K mg base 1 f fd ["self"] (spF K mg 1 F_Machine_lets) :=
  fgF (B := B_Machine_lets) Fu sc_Machine_lets rfl rfl rfl fun cdv A out s H E hG hr tk => ⟨_,
    (ssx_one (sx_ret (ex_listA rfl m_list (bax_cons (EX.toB (ex_fld na_Machine_ends (bx_var (pv 0)))) bax_nil))))⟩
abbrev s_format_machine : Stmt := topS 21
theorem sc_format_machine : FnScope ["machine", "found", "place", "row", "other"] ["machine"] (defScope s_format_machine) := ⟨rfl, rfl, rfl, by decide +kernel, rfl, by decide +kernel, by decide +kernel⟩
theorem fn_format_machine {f : Addr} {fd : FuncData} (Fu : Fun K "format_machine" "format_machine" s_format_machine f fd) (d_Machine_rows : DefP P w K mg base "Machine" "rows" 1 F_Machine_rows) (d_Machine_letters : DefP P w K mg base "Machine" "letters" 1 F_Machine_letters) (d_Machine_lets : DefP P w K mg base "Machine" "lets" 1 F_Machine_lets) (m_enumerate : mg "enumerate" = none) (m_str : mg "str" = none) (m_HEAD : ∃ tk, mg "HEAD" = some (.str "letters " tk)) (m_TAIL : ∃ tk, mg "TAIL" = some (.str " lets" tk)) : FnG P w K mg base 3 f fd ["machine"] (spF K mg 1 F_format_machine) :=
  fgF (B := B_format_machine) Fu sc_format_machine rfl rfl rfl fun cdv A out s H E hG hr tk => ⟨_,
    (ssx_cons (sx_set sc_format_machine.nd (ex_lst (ax_cons (EX.toF (ex_op op_addA ops_add (FX.toB (fx_gs m_HEAD)) (EX.toB (ex_propD d_Machine_letters hG hr (fx_var (pv 0)))))) ax_nil)))
      (ssx_cons (sx_for (passes_of rfl) rfl (ix_enum (by rfl) m_enumerate (ax_cons (EX.toF (ex_propD d_Machine_rows hG hr (fx_var (pv 0)))) ax_nil)) (gx_tp rfl (gxs_cons (gx_nm sc_format_machine.nd) (gxs_cons (gx_nm sc_format_machine.nd) gxs_nil))) (ssx_one (sx_append (pv 1) (EX.toF (ex_op op_addA ops_add (EX.toB (ex_ms (rr := (rJoin K)) PySem.F.slot_str_join PySem.F.type_str_join mt_join opm_join (FX.toB fx_str) (bax_cons (EX.toB (ex_lcW (own := [("other", 4)]) (g := gName 4) (tt := tYes) (te := tCB rStrI (tCons (tVar 4) (tNil))) rfl sc_format_machine.nd (blkOk_by (N := ["machine", "found", "place", "row", "other"]) (sc := defScope s_format_machine) (by decide +kernel)) (ix_seq (fx_var (pv 3))) (gw_name (by decide)) (fun s H C cl fp => (gx_nm sc_format_machine.nd)) (fun s H C cl fp => tsx_nil) (fun s H C cl fp => (EX.toF (ex_strI m_str (bax_cons (bx_var (pv 4)) bax_nil)))))) bax_nil))) (EX.toB (ex_if (tx_cmp (op_inP hr.units) ops_in (bx_var (pv 2)) (EX.toB (ex_propD d_Machine_lets hG hr (fx_var (pv 0)))) (by with_unfolding_all rfl)) (FX.toE (fx_gs m_TAIL)) (FX.toE fx_str))))))))
      (ssx_one (sx_ret (ex_ms (rr := (rJoin K)) PySem.F.slot_str_join PySem.F.type_str_join mt_join opm_join (FX.toB fx_str) (bax_cons (bx_var (pv 1)) bax_nil))))))⟩
abbrev s__law_pick : Stmt := topS 28
theorem sc__law_pick : FnScope ["tape", "many", "found", "once"] ["tape", "many"] (defScope s__law_pick) := ⟨rfl, rfl, rfl, by decide +kernel, rfl, by decide +kernel, by decide +kernel⟩
theorem fn__law_pick {f : Addr} {fd : FuncData} (Fu : Fun K "_law_pick" "_law_pick" s__law_pick f fd) (m_int : mg "int" = none) : FnG P w K mg base 1 f fd ["tape", "many"] (spT K mg 1 F__law_pick) :=
  fgT (B := B__law_pick) Fu sc__law_pick rfl rfl rfl fun cdv A out s H E hG hr tk => ⟨_,
    (ssx_cons (sx_if (tx_cmp op_geA ops_ord (EX.toB (ex_tkW (kk := true) (hu_of hr) (pv 0))) (bx_var (pv 1)) (nomark _)) (ssx_cons (sx_set sc__law_pick.nd (ex_op op_mod ops_mod (EX.toB (ex_int m_int (bax_cons (EX.toB (ex_tkW (kk := true) (hu_of hr) (pv 0))) bax_nil))) (bx_var (pv 1))))
      (ssx_cons (sx_tkW (kk := true) (hu_of hr) (pv 0) (EX.toF (ex_op op_fdivW ops_fdiv (EX.toB (ex_tkW (kk := true) (hu_of hr) (pv 0))) (bx_var (pv 1)))))
      (ssx_one (sx_retV (pv 2))))) ssx_nil)
      (ssx_cons (sx_tkW (kk := false) (hu_of hr) (pv 0) (EX.toF (ex_op op_mod ops_mod (EX.toB (ex_int m_int (bax_cons (EX.toB (ex_op op_addA ops_add (EX.toB (ex_op op_mulA ops_mul (EX.toB (ex_tkW (kk := false) (hu_of hr) (pv 0))) (FX.toB fx_int))) (FX.toB fx_int))) bax_nil))) (FX.toB fx_int))))
      (ssx_cons (sx_set sc__law_pick.nd (ex_op op_mod ops_mod (EX.toB (ex_int m_int (bax_cons (EX.toB (ex_op op_powB ops_pow (EX.toB (ex_tkW (kk := false) (hu_of hr) (pv 0))) (FX.toB fx_int))) bax_nil))) (FX.toB fx_int)))
      (ssx_one (sx_ret (ex_op op_mod ops_mod (EX.toB (ex_int m_int (bax_cons (EX.toB (ex_op op_fdivW ops_fdiv (EX.toB (ex_op op_mod ops_mod (EX.toB (ex_int m_int (bax_cons (EX.toB (ex_op op_powB ops_pow (bx_var (pv 3)) (FX.toB fx_int))) bax_nil))) (FX.toB fx_int))) (FX.toB fx_int))) bax_nil))) (bx_var (pv 1))))))))⟩
abbrev s__law_drawn_machine : Stmt := topS 31
theorem sc__law_drawn_machine : FnScope ["tape", "letters", "most", "many", "rows", "letter", "place", "other", "row"] ["tape", "letters", "most"] (defScope s__law_drawn_machine) := ⟨rfl, rfl, rfl, by decide +kernel, rfl, by decide +kernel, by decide +kernel⟩
theorem fn__law_drawn_machine {f : Addr} {fd : FuncData} (Fu : Fun K "_law_drawn_machine" "_law_drawn_machine" s__law_drawn_machine f fd) (d__law_pick : DefT P w K mg base "_law_pick" 1 1 F__law_pick) (m_enumerate : mg "enumerate" = none) (m_list : mg "list" = none) (m_max : mg "max" = none) (m_range : mg "range" = none) (m_sorted : mg "sorted" = none) (m_tuple : mg "tuple" = none) : FnG P w K mg base 2 f fd ["tape", "letters", "most"] (spT K mg 2 F__law_drawn_machine) :=
  fgT (B := B__law_drawn_machine) Fu sc__law_drawn_machine rfl rfl rfl fun cdv A out s H E hG hr tk => ⟨_,
    (ssx_cons (sx_set sc__law_drawn_machine.nd (ex_op op_addA ops_add (FX.toB fx_int) (EX.toB (ex_callDT d__law_pick hG hr tk (pv 0) (ax_cons (fx_var (pv 2)) ax_nil)))))
      (ssx_cons (sx_setLc (own := [("place", 6)]) (g := gName 6) (tt := tYes) (te := tCB (rTupA K) (tCons (tLc (iSeq K (tCB (rListA K) (tCons (tVar 1) (tNil)))) (gName 5) (tYes) (tCallS (spT K mg 1 F__law_pick) (WE WN) (tCons (tVar 0) (tCons (tVar 3) (tNil)))) [5]) (tNil))) rfl sc__law_drawn_machine.nd (blkOk_by (N := ["tape", "letters", "most", "many", "rows", "letter", "place", "other", "row"]) (sc := defScope s__law_drawn_machine) (by decide +kernel)) (ix_rng1 (by rfl) m_range (ax_cons (fx_var (pv 3)) ax_nil)) (gw_name (by decide)) (fun s H C cl fp => (gx_nm sc__law_drawn_machine.nd)) (fun s H C cl fp => tsx_nil) (fun s H C cl fp => (EX.toF (ex_tupA rfl m_tuple (bax_cons (EX.toB (ex_lcW (own := [("letter", 5)]) (g := gName 5) (tt := tYes) (te := tCallS (spT K mg 1 F__law_pick) (WE WN) (tCons (tVar 0) (tCons (tVar 3) (tNil)))) rfl sc__law_drawn_machine.nd (blkOk_by (N := ["tape", "letters", "most", "many", "rows", "letter", "place", "other", "row"]) (by first | rfl | decide +kernel)) (ix_seq (EX.toF (ex_listA rfl m_list (bax_cons (bx_var (pv 1)) bax_nil)))) (gw_name (by decide)) (fun s H C cl fp => (gx_nm sc__law_drawn_machine.nd)) (fun s H C cl fp => tsx_nil) (fun s H C cl fp => (EX.toF (ex_callDT d__law_pick hG hr takes0 (pv 0) (ax_cons (fx_var (pv 3)) ax_nil)))))) bax_nil)))))
      (ssx_cons (sx_if (tx_cmp (op_eqP hr.units) ops_eq (EX.toB (ex_callDT d__law_pick hG hr tk (pv 0) (ax_cons fx_int ax_nil))) (FX.toB fx_int) (nomark _)) (ssx_one (sx_setLc (own := [("place", 6), ("row", 8)]) (g := gTup K 2 (gCons (gName 6) (gCons (gName 8) (gNil)))) (tt := tYes) (te := tCB (rTupA K) (tCons (tLc (iSeq K (tVar 8)) (gName 7) (tYes) (tCB (rMM2 fun i j => if j > i then j else i) (tCons (tVar 6) (tCons (tVar 7) (tNil)))) [7]) (tNil))) rfl sc__law_drawn_machine.nd (blkOk_by (N := ["tape", "letters", "most", "many", "rows", "letter", "place", "other", "row"]) (sc := defScope s__law_drawn_machine) (by decide +kernel)) (ix_enum (by rfl) m_enumerate (ax_cons (fx_var (pv 4)) ax_nil)) (gw_tup (gw_cons (gw_name (by decide)) (gw_cons (gw_name (by decide)) gw_nil))) (fun s H C cl fp => (gx_tp rfl (gxs_cons (gx_nm sc__law_drawn_machine.nd) (gxs_cons (gx_nm sc__law_drawn_machine.nd) gxs_nil)))) (fun s H C cl fp => tsx_nil) (fun s H C cl fp => (EX.toF (ex_tupA rfl m_tuple (bax_cons (EX.toB (ex_lcW (own := [("other", 7)]) (g := gName 7) (tt := tYes) (te := tCB (rMM2 fun i j => if j > i then j else i) (tCons (tVar 6) (tCons (tVar 7) (tNil)))) rfl sc__law_drawn_machine.nd (blkOk_by (N := ["tape", "letters", "most", "many", "rows", "letter", "place", "other", "row"]) (by first | rfl | decide +kernel)) (ix_seq (fx_var (pv 8))) (gw_name (by decide)) (fun s H C cl fp => (gx_nm sc__law_drawn_machine.nd)) (fun s H C cl fp => tsx_nil) (fun s H C cl fp => (EX.toF (ex_max2 rfl m_max (bax_cons (bx_var (pv 6)) (bax_cons (bx_var (pv 7)) bax_nil))))))) bax_nil)))))) ssx_nil)
      (ssx_one (sx_ret (ex_lst (ax_cons (fx_var (pv 1)) (ax_cons (fx_var (pv 4)) (ax_cons (EX.toF (ex_sortA m_sorted (bax_cons (EX.toB (ex_lcW (own := [("place", 6)]) (g := gName 6) (tt := tTest (tOp (rEqP K id) (tCallS (spT K mg 1 F__law_pick) (WE WN) (tCons (tVar 0) (tCons (tC (.int 2)) (tNil)))) (tC (.int 0)))) (te := tVar 6) rfl sc__law_drawn_machine.nd (blkOk_by (N := ["tape", "letters", "most", "many", "rows", "letter", "place", "other", "row"]) (sc := defScope s__law_drawn_machine) (by decide +kernel)) (ix_rng1 (by rfl) m_range (ax_cons (fx_var (pv 3)) ax_nil)) (gw_name (by decide)) (fun s H C cl fp => (gx_nm sc__law_drawn_machine.nd)) (fun s H C cl fp => (tsx_one (tx_cmp (op_eqP hr.units) ops_eq (EX.toB (ex_callDT d__law_pick hG hr takes0 (pv 0) (ax_cons fx_int ax_nil))) (FX.toB fx_int) (nomark _)))) (fun s H C cl fp => (fx_var (pv 6))))) bax_nil))) ax_nil)))))))))⟩
abbrev s_is_text : Stmt := topS 10
theorem sc_is_text : FnScope ["value", "letter"] ["value"] (defScope s_is_text) := ⟨rfl, rfl, rfl, by decide +kernel, rfl, by decide +kernel, by decide +kernel⟩
theorem fn_is_text {f : Addr} {fd : FuncData} (Fu : Fun K "is_text" "is_text" s_is_text f fd) (m_isinstance : mg "isinstance" = none) (m_str : mg "str" = none) (m_ALPHABET : ∃ tk, mg "ALPHABET" = some (.str "abcdefghijklmnopqrstuvwxyz" tk)) : FnG P w K mg base 1 f fd ["value"] (spF K mg 1 F_is_text) :=
  fgF (B := B_is_text) Fu sc_is_text rfl rfl rfl fun cdv A out s H E hG hr tk => ⟨_,
    (ssx_one (sx_ret (ex_and (EX.toB (ex_isiT (Ty := "str") m_isinstance m_str (by decide +kernel) (bx_var (pv 0)))) (ex_one (ex_cmp (op_eqP hr.units) ops_eq (EX.toB (ex_lcW (own := [("letter", 1)]) (g := gName 1) (tt := tTest (tOp (rInP K not) (tVar 1) (tC (.str "abcdefghijklmnopqrstuvwxyz")))) (te := tVar 1) rfl sc_is_text.nd (blkOk_by (N := ["value", "letter"]) (sc := defScope s_is_text) (by decide +kernel)) (ix_seq (fx_var (pv 0))) (gw_name (by decide)) (fun s H C cl fp => (gx_nm sc_is_text.nd)) (fun s H C cl fp => (tsx_one (tx_cmp (op_notInP hr.units) ops_in (bx_var (pv 1)) (FX.toB (fx_gs m_ALPHABET)) (by with_unfolding_all rfl)))) (fun s H C cl fp => (fx_var (pv 1))))) (EX.toB (ex_lst ax_nil)) (nomark _))))))⟩
abbrev s_is_letters : Stmt := topS 11
theorem sc_is_letters : FnScope ["value", "one", "other"] ["value"] (defScope s_is_letters) := ⟨rfl, rfl, rfl, by decide +kernel, rfl, by decide +kernel, by decide +kernel⟩
theorem fn_is_letters {f : Addr} {fd : FuncData} (Fu : Fun K "is_letters" "is_letters" s_is_letters f fd) (d_is_text : DefF P w K mg base "is_text" 1 1 F_is_text) (m_zip : mg "zip" = none) : FnG P w K mg base 2 f fd ["value"] (spF K mg 1 F_is_letters) :=
  fgF (B := B_is_letters) Fu sc_is_letters rfl rfl rfl fun cdv A out s H E hG hr tk => ⟨_,
    (ssx_cons (sx_if (WXt.t (wx_or (tx_not (tx_val (EX.toB (ex_callD d_is_text hG hr tk (ax_cons (fx_var (pv 0)) ax_nil))))) (wx_or1 (tx_cmp (op_eqP hr.units) ops_eq (bx_var (pv 0)) (FX.toB fx_str) (nomark _))))) (ssx_one (sx_ret (FX.toE fx_bl))) ssx_nil)
      (ssx_one (sx_ret (ex_cmp (op_notInP hr.units) ops_in (FX.toB fx_bl) (EX.toB (ex_lcW (own := [("one", 1), ("other", 2)]) (g := gTup K 2 (gCons (gName 1) (gCons (gName 2) (gNil)))) (tt := tYes) (te := tOp hLt (tVar 1) (tVar 2)) rfl sc_is_letters.nd (blkOk_by (N := ["value", "one", "other"]) (sc := defScope s_is_letters) (by decide +kernel)) (ix_zip (by rfl) m_zip (ax_cons (fx_var (pv 0)) (ax_cons (EX.toF (ex_sl (bx_var (pv 0)) (ox_some (FX.toB fx_int)) ox_none)) ax_nil))) (gw_tup (gw_cons (gw_name (by decide)) (gw_cons (gw_name (by decide)) gw_nil))) (fun s H C cl fp => (gx_tp rfl (gxs_cons (gx_nm sc_is_letters.nd) (gxs_cons (gx_nm sc_is_letters.nd) gxs_nil)))) (fun s H C cl fp => tsx_nil) (fun s H C cl fp => (EX.toF (ex_cmp op_ltA ops_ord (bx_var (pv 1)) (bx_var (pv 2)) (nomark _)))))) (by with_unfolding_all rfl)))))⟩
abbrev s_must_be_letters : Stmt := topS 12
theorem sc_must_be_letters : FnScope ["value"] ["value"] (defScope s_must_be_letters) := ⟨rfl, rfl, rfl, by decide +kernel, rfl, by decide +kernel, by decide +kernel⟩
theorem fn_must_be_letters {f : Addr} {fd : FuncData} (Fu : Fun K "must_be_letters" "must_be_letters" s_must_be_letters f fd) (d_is_letters : DefF P w K mg base "is_letters" 2 1 F_is_letters) : FnG P w K mg base 3 f fd ["value"] (spF K mg 1 F_must_be_letters) :=
  fgF (B := B_must_be_letters) Fu sc_must_be_letters rfl rfl rfl fun cdv A out s H E hG hr tk => ⟨_,
    (ssx_one (sx_if (tx_not (tx_val (EX.toB (ex_callD d_is_letters hG hr tk (ax_cons (fx_var (pv 0)) ax_nil))))) (ssx_one sx_never) ssx_nil))⟩
abbrev s_is_count : Stmt := topS 9
theorem sc_is_count : FnScope ["value"] ["value"] (defScope s_is_count) := ⟨rfl, rfl, rfl, by decide +kernel, rfl, by decide +kernel, by decide +kernel⟩
theorem fn_is_count {f : Addr} {fd : FuncData} (Fu : Fun K "is_count" "is_count" s_is_count f fd) (m_bool : mg "bool" = none) (m_int : mg "int" = none) (m_isinstance : mg "isinstance" = none) : FnG P w K mg base 1 f fd ["value"] (spF K mg 1 F_is_count) :=
  fgF (B := B_is_count) Fu sc_is_count rfl rfl rfl fun cdv A out s H E hG hr tk => ⟨_,
    (ssx_one (sx_ret (ex_and (EX.toB (ex_isiT (Ty := "int") m_isinstance m_int (by decide +kernel) (bx_var (pv 0)))) (ex_and (EX.toB (ex_not (EX.toB (ex_isiT (Ty := "bool") m_isinstance m_bool (by decide +kernel) (bx_var (pv 0)))))) (ex_one (ex_cmp op_geA ops_ord (bx_var (pv 0)) (FX.toB fx_int) (nomark _)))))))⟩
abbrev s_are_rows : Stmt := topS 14
theorem sc_are_rows : FnScope ["letters", "value", "row", "place"] ["letters", "value"] (defScope s_are_rows) := ⟨rfl, rfl, rfl, by decide +kernel, rfl, by decide +kernel, by decide +kernel⟩
theorem fn_are_rows {f : Addr} {fd : FuncData} (Fu : Fun K "are_rows" "are_rows" s_are_rows f fd) (d_is_count : DefF P w K mg base "is_count" 1 1 F_is_count) (m_isinstance : mg "isinstance" = none) (m_len : mg "len" = none) (m_list : mg "list" = none) (m_tuple : mg "tuple" = none) : FnG P w K mg base 2 f fd ["letters", "value"] (spF K mg 2 F_are_rows) :=
  fgF (B := B_are_rows) Fu sc_are_rows rfl rfl rfl fun cdv A out s H E hG hr tk => ⟨_,
    (ssx_cons (sx_if (WXt.t (wx_or (tx_not (tx_val (EX.toB (ex_isiT (Ty := "list") m_isinstance m_list (by decide +kernel) (bx_var (pv 1)))))) (wx_or1 (tx_cmp (op_eqP hr.units) ops_eq (bx_var (pv 1)) (EX.toB (ex_lst ax_nil)) (nomark _))))) (ssx_one (sx_ret (FX.toE fx_bl))) ssx_nil)
      (ssx_cons (sx_if (tx_cmp (op_inP hr.units) ops_in (FX.toB fx_bl) (EX.toB (ex_lcW (own := [("row", 2)]) (g := gName 2) (tt := tYes) (te := tAndV (tCB (rIsiD K "tuple") (tCons (tVar 2) (tCons (tC (.ty "tuple")) tNil))) (tOp (rEqP K id) (tCB (QL.rLen K) (tCons (tVar 2) (tNil))) (tCB (QL.rLen K) (tCons (tVar 0) (tNil))))) rfl sc_are_rows.nd (blkOk_by (N := ["letters", "value", "row", "place"]) (sc := defScope s_are_rows) (by decide +kernel)) (ix_seq (fx_var (pv 1))) (gw_name (by decide)) (fun s H C cl fp => (gx_nm sc_are_rows.nd)) (fun s H C cl fp => tsx_nil) (fun s H C cl fp => (EX.toF (ex_and (EX.toB (ex_isiT (Ty := "tuple") m_isinstance m_tuple (by decide +kernel) (bx_var (pv 2)))) (ex_one (ex_cmp (op_eqP hr.units) ops_eq (EX.toB (ex_len m_len (bax_cons (bx_var (pv 2)) bax_nil))) (EX.toB (ex_len m_len (bax_cons (bx_var (pv 0)) bax_nil))) (nomark _)))))))) (by with_unfolding_all rfl)) (ssx_one (sx_ret (FX.toE fx_bl))) ssx_nil)
      (ssx_one (sx_ret (ex_cmp (op_notInP hr.units) ops_in (FX.toB fx_bl) (EX.toB (ex_lc2W (own := [("row", 2), ("place", 3)]) (vs1 := [3]) (g := gName 2) (tt := tYes) (wi1 := iSeq K (tVar 2)) (g1 := gName 3) (tt1 := tYes) (te := tAndV (tCallS (spF K mg 1 F_is_count) (WE WN) (tCons (tVar 3) (tNil))) (tOp hLt (tVar 3) (tCB (QL.rLen K) (tCons (tVar 1) (tNil))))) rfl sc_are_rows.nd (blkOk_by (N := ["letters", "value", "row", "place"]) (sc := defScope s_are_rows) (by decide +kernel)) (by decide) (ix_seq (fx_var (pv 1))) (gw_name (by decide)) (gw_name (by decide)) (fun s H C cl fp => (gx_nm sc_are_rows.nd)) (fun s H C cl fp => tsx_nil) (fun s H C cl fp => (ix_seq (fx_var (pv 2)))) (fun s H C cl fp => (gx_nm sc_are_rows.nd)) (fun s H C cl fp => tsx_nil) (fun s H C cl fp => (EX.toF (ex_and (EX.toB (ex_callD d_is_count hG hr takes0 (ax_cons (fx_var (pv 3)) ax_nil))) (ex_one (ex_cmp op_ltA ops_ord (bx_var (pv 3)) (EX.toB (ex_len m_len (bax_cons (bx_var (pv 1)) bax_nil))) (nomark _)))))))) (by with_unfolding_all rfl))))))⟩
abbrev s_are_lets : Stmt := topS 15
theorem sc_are_lets : FnScope ["many", "value", "place"] ["many", "value"] (defScope s_are_lets) := ⟨rfl, rfl, rfl, by decide +kernel, rfl, by decide +kernel, by decide +kernel⟩
theorem fn_are_lets {f : Addr} {fd : FuncData} (Fu : Fun K "are_lets" "are_lets" s_are_lets f fd) (d_is_count : DefF P w K mg base "is_count" 1 1 F_is_count) (m_isinstance : mg "isinstance" = none) (m_len : mg "len" = none) (m_list : mg "list" = none) (m_set : mg "set" = none) : FnG P w K mg base 2 f fd ["many", "value"] (spF K mg 2 F_are_lets) :=
  fgF (B := B_are_lets) Fu sc_are_lets rfl rfl rfl fun cdv A out s H E hG hr tk => ⟨_,
    (ssx_cons (sx_if (WXt.t (wx_or (tx_not (tx_val (EX.toB (ex_isiT (Ty := "list") m_isinstance m_list (by decide +kernel) (bx_var (pv 1)))))) (wx_or1 (tx_cmp (op_inP hr.units) ops_in (FX.toB fx_bl) (EX.toB (ex_lcW (own := [("place", 2)]) (g := gName 2) (tt := tYes) (te := tAndV (tCallS (spF K mg 1 F_is_count) (WE WN) (tCons (tVar 2) (tNil))) (tOp hLt (tVar 2) (tVar 0))) rfl sc_are_lets.nd (blkOk_by (N := ["many", "value", "place"]) (sc := defScope s_are_lets) (by decide +kernel)) (ix_seq (fx_var (pv 1))) (gw_name (by decide)) (fun s H C cl fp => (gx_nm sc_are_lets.nd)) (fun s H C cl fp => tsx_nil) (fun s H C cl fp => (EX.toF (ex_and (EX.toB (ex_callD d_is_count hG hr takes0 (ax_cons (fx_var (pv 2)) ax_nil))) (ex_one (ex_cmp op_ltA ops_ord (bx_var (pv 2)) (bx_var (pv 0)) (nomark _)))))))) (by with_unfolding_all rfl))))) (ssx_one (sx_ret (FX.toE fx_bl))) ssx_nil)
      (ssx_one (sx_ret (ex_cmp (op_eqP hr.units) ops_eq (EX.toB (ex_lenSet rfl m_len m_set (bx_var (pv 1)))) (EX.toB (ex_len m_len (bax_cons (bx_var (pv 1)) bax_nil))) (nomark _)))))⟩
abbrev s_Machine_init : Stmt := methS 0 (topS 16)
theorem sc_Machine_init : FnScope ["self", "letters", "rows", "lets"] ["self", "letters", "rows", "lets"] (defScope s_Machine_init) := ⟨rfl, rfl, rfl, by decide +kernel, rfl, by decide +kernel, by decide +kernel⟩
theorem fn_Machine_init {f : Addr} {fd : FuncData} (Fu : Fun K "__init__" "Machine.__init__" s_Machine_init f fd) (d_must_be_letters : DefF P w K mg base "must_be_letters" 3 1 F_must_be_letters) (d_are_rows : DefF P w K mg base "are_rows" 2 2 F_are_rows) (d_are_lets : DefF P w K mg base "are_lets" 2 2 F_are_lets) (na_Machine_ends : NoA K "Machine" "ends") (na_Machine_lines : NoA K "Machine" "lines") (na_Machine_signs : NoA K "Machine" "signs") (m_len : mg "len" = none) (m_sorted : mg "sorted" = none) (m_tuple : mg "tuple" = none) : FnG P w K mg base 4 f fd ["self", "letters", "rows", "lets"] (spI K mg 3 "Machine" F_Machine_init_v2) :=
  fgI (B := B_Machine_init_v2) Fu sc_Machine_init rfl rfl rfl fun cdv A out s H E hG hr tk => ⟨_,
    (ssx_cons (sx_expr (ex_callD d_must_be_letters hG hr tk (ax_cons (fx_var (pv 1)) ax_nil)))
      (ssx_cons (sx_if (tx_not (tx_val (EX.toB (ex_callD d_are_rows hG hr tk (ax_cons (fx_var (pv 1)) (ax_cons (fx_var (pv 2)) ax_nil)))))) (ssx_one sx_never) ssx_nil)
      (ssx_cons (sx_if (tx_not (tx_val (EX.toB (ex_callD d_are_lets hG hr tk (ax_cons (EX.toF (ex_len m_len (bax_cons (bx_var (pv 2)) bax_nil))) (ax_cons (fx_var (pv 3)) ax_nil)))))) (ssx_one sx_never) ssx_nil)
      (ssx_cons (sx_fst na_Machine_signs (pv 0) (fx_var (pv 1)))
      (ssx_cons (sx_fst na_Machine_lines (pv 0) (EX.toF (ex_tupA rfl m_tuple (bax_cons (bx_var (pv 2)) bax_nil))))
      (ssx_one (sx_fst na_Machine_ends (pv 0) (EX.toF (ex_tupA rfl m_tuple (bax_cons (EX.toB (ex_sortA m_sorted (bax_cons (bx_var (pv 3)) bax_nil))) bax_nil))))))))))⟩
abbrev s_number_of : Stmt := topS 22
theorem sc_number_of : FnScope ["word", "sign"] ["word"] (defScope s_number_of) := ⟨rfl, rfl, rfl, by decide +kernel, rfl, by decide +kernel, by decide +kernel⟩
theorem fn_number_of {f : Addr} {fd : FuncData} (Fu : Fun K "number_of" "number_of" s_number_of f fd) (m_int : mg "int" = none) (m_DIGITS : ∃ tk, mg "DIGITS" = some (.str "0123456789" tk)) : FnG P w K mg base 1 f fd ["word"] (spF K mg 1 F_number_of_v3) :=
  fgF (B := B_number_of_v3) Fu sc_number_of rfl rfl rfl fun cdv A out s H E hG hr tk => ⟨_,
    (ssx_cons (sx_if (WXt.t (wx_or (tx_cmp (op_eqP hr.units) ops_eq (bx_var (pv 0)) (FX.toB fx_str) (nomark _)) (wx_or1 (tx_cmp (op_neP hr.units) ops_eq (EX.toB (ex_lcW (own := [("sign", 1)]) (g := gName 1) (tt := tTest (tOp (rInP K not) (tVar 1) (tC (.str "0123456789")))) (te := tVar 1) rfl sc_number_of.nd (blkOk_by (N := ["word", "sign"]) (sc := defScope s_number_of) (by decide +kernel)) (ix_seq (fx_var (pv 0))) (gw_name (by decide)) (fun s H C cl fp => (gx_nm sc_number_of.nd)) (fun s H C cl fp => (tsx_one (tx_cmp (op_notInP hr.units) ops_in (bx_var (pv 1)) (FX.toB (fx_gs m_DIGITS)) (by with_unfolding_all rfl)))) (fun s H C cl fp => (fx_var (pv 1))))) (EX.toB (ex_lst ax_nil)) (nomark _))))) (ssx_one (sx_ret (FX.toE fx_non))) ssx_nil)
      (ssx_one (sx_ret (ex_if (WXt.t (wx_or (tx_cmp (op_eqP hr.units) ops_eq (bx_var (pv 0)) (FX.toB fx_str) (nomark _)) (wx_or1 (tx_cmp (op_neP hr.units) ops_eq (EX.toB (ex_ix (bx_var (pv 0)) (FX.toB fx_int) (fun _ _ => rfl))) (FX.toB fx_str) (nomark _))))) (ex_intS m_int (bax_cons (bx_var (pv 0)) bax_nil)) (FX.toE fx_non)))))⟩
abbrev s_row_of : Stmt := topS 23
theorem sc_row_of : FnScope ["line", "width", "is_let", "words", "row", "word"] ["line", "width"] (defScope s_row_of) := ⟨rfl, rfl, rfl, by decide +kernel, rfl, by decide +kernel, by decide +kernel⟩
theorem fn_row_of {f : Addr} {fd : FuncData} (Fu : Fun K "row_of" "row_of" s_row_of f fd) (d_number_of : DefF P w K mg base "number_of" 1 1 F_number_of_v3) (m_len : mg "len" = none) (m_tuple : mg "tuple" = none) (m_TAIL : ∃ tk, mg "TAIL" = some (.str " lets" tk)) : FnG P w K mg base 2 f fd ["line", "width"] (spF K mg 2 F_row_of) :=
  fgF (B := B_row_of) Fu sc_row_of rfl rfl rfl fun cdv A out s H E hG hr tk => ⟨_,
    (ssx_cons (sx_set sc_row_of.nd (ex_ms (rr := rEnds) PySem.F.slot_str_endswith PySem.F.type_str_endswith mt_endswith opm_ends (bx_var (pv 0)) (bax_cons (FX.toB (fx_gs m_TAIL)) bax_nil)))
      (ssx_cons (sx_set sc_row_of.nd (ex_ms (rr := rSplit) PySem.F.slot_str_split PySem.F.type_str_split mt_split opm_split (EX.toB (ex_if (tx_val (bx_var (pv 2))) (ex_sl (bx_var (pv 0)) ox_none (ox_some (EX.toB (ex_neg (EX.toB (ex_len m_len (bax_cons (FX.toB (fx_gs m_TAIL)) bax_nil))))))) (FX.toE (fx_var (pv 0))))) (bax_cons (FX.toB fx_str) bax_nil)))
      (ssx_cons (sx_set sc_row_of.nd (ex_tupA rfl m_tuple (bax_cons (EX.toB (ex_lcW (own := [("word", 5)]) (g := gName 5) (tt := tYes) (te := tCallS (spF K mg 1 F_number_of_v3) (WE WN) (tCons (tVar 5) (tNil))) rfl sc_row_of.nd (blkOk_by (N := ["line", "width", "is_let", "words", "row", "word"]) (sc := defScope s_row_of) (by decide +kernel)) (ix_seq (fx_var (pv 3))) (gw_name (by decide)) (fun s H C cl fp => (gx_nm sc_row_of.nd)) (fun s H C cl fp => tsx_nil) (fun s H C cl fp => (EX.toF (ex_callD d_number_of hG hr takes0 (ax_cons (fx_var (pv 5)) ax_nil)))))) bax_nil)))
      (ssx_one (sx_ret (ex_if (WXt.t (wx_and (tx_cmp (op_eqP hr.units) ops_eq (EX.toB (ex_len m_len (bax_cons (bx_var (pv 4)) bax_nil))) (bx_var (pv 1)) (nomark _)) (wx_and1 (tx_cmp (op_notInP hr.units) ops_in (FX.toB fx_non) (bx_var (pv 4)) (by with_unfolding_all rfl))))) (ex_tp (ax_cons (fx_var (pv 4)) (ax_cons (fx_var (pv 2)) ax_nil))) (FX.toE fx_non)))))))⟩
abbrev s_begins : Stmt := topS 24
theorem sc_begins : FnScope ["rows", "many", "row", "place"] ["rows", "many"] (defScope s_begins) := ⟨rfl, rfl, rfl, by decide +kernel, rfl, by decide +kernel, by decide +kernel⟩
theorem fn_begins {f : Addr} {fd : FuncData} (Fu : Fun K "begins" "begins" s_begins f fd)  : FnG P w K mg base 1 f fd ["rows", "many"] (spF K mg 2 F_begins) :=
  fgF (B := B_begins) Fu sc_begins rfl rfl rfl fun cdv A out s H E hG hr tk => ⟨_,
    (ssx_one (sx_ret (ex_cmp (op_notInP hr.units) ops_in (FX.toB fx_bl) (EX.toB (ex_lc2W (own := [("row", 2), ("place", 3)]) (vs1 := [3]) (g := gName 2) (tt := tYes) (wi1 := iSeq K (tVar 2)) (g1 := gName 3) (tt1 := tYes) (te := tOp hGe (tVar 3) (tVar 1)) rfl sc_begins.nd (blkOk_by (N := ["rows", "many", "row", "place"]) (sc := defScope s_begins) (by decide +kernel)) (by decide) (ix_seq (fx_var (pv 0))) (gw_name (by decide)) (gw_name (by decide)) (fun s H C cl fp => (gx_nm sc_begins.nd)) (fun s H C cl fp => tsx_nil) (fun s H C cl fp => (ix_seq (fx_var (pv 2)))) (fun s H C cl fp => (gx_nm sc_begins.nd)) (fun s H C cl fp => tsx_nil) (fun s H C cl fp => (EX.toF (ex_cmp op_geA ops_ord (bx_var (pv 3)) (bx_var (pv 1)) (nomark _)))))) (by with_unfolding_all rfl))))⟩
abbrev s_read_machine : Stmt := topS 25
theorem sc_read_machine : FnScope ["signs", "lines", "letters", "rows", "lets", "place", "line", "found"] ["signs"] (defScope s_read_machine) := ⟨rfl, rfl, rfl, by decide +kernel, rfl, by decide +kernel, by decide +kernel⟩
theorem fn_read_machine {f : Addr} {fd : FuncData} (Fu : Fun K "read_machine" "read_machine" s_read_machine f fd) (d_is_letters : DefF P w K mg base "is_letters" 2 1 F_is_letters) (d_row_of : DefF P w K mg base "row_of" 2 2 F_row_of) (d_begins : DefF P w K mg base "begins" 1 2 F_begins) (d_Machine : DefC P w K mg base "Machine" 4 3 F_Machine_init_v2) (m_enumerate : mg "enumerate" = none) (m_isinstance : mg "isinstance" = none) (m_len : mg "len" = none) (m_str : mg "str" = none) (m_HEAD : ∃ tk, mg "HEAD" = some (.str "letters " tk)) : FnG P w K mg base 6 f fd ["signs"] (spF K mg 1 F_read_machine) :=
  fgF (B := B_read_machine) Fu sc_read_machine rfl rfl rfl fun cdv A out s H E hG hr tk => ⟨_,
    (ssx_cons (sx_if (tx_not (tx_val (EX.toB (ex_isiT (Ty := "str") m_isinstance m_str (by decide +kernel) (bx_var (pv 0)))))) (ssx_one sx_never) ssx_nil)
      (ssx_cons (sx_set sc_read_machine.nd (ex_ms (rr := rSplit) PySem.F.slot_str_split PySem.F.type_str_split mt_split opm_split (bx_var (pv 0)) (bax_cons (FX.toB fx_str) bax_nil)))
      (ssx_cons (sx_set sc_read_machine.nd (ex_sl (EX.toB (ex_ix (bx_var (pv 1)) (FX.toB fx_int) (fun _ _ => rfl))) (ox_some (EX.toB (ex_len m_len (bax_cons (FX.toB (fx_gs m_HEAD)) bax_nil)))) ox_none))
      (ssx_cons (sx_if (WXt.t (wx_or (tx_not (tx_val (EX.toB (ex_ms (rr := rStarts) PySem.F.slot_str_startswith PySem.F.type_str_startswith mt_startswith opm_starts (EX.toB (ex_ix (bx_var (pv 1)) (FX.toB fx_int) (fun _ _ => rfl))) (bax_cons (FX.toB (fx_gs m_HEAD)) bax_nil))))) (wx_or1 (tx_not (tx_val (EX.toB (ex_callD d_is_letters hG hr tk (ax_cons (fx_var (pv 2)) ax_nil)))))))) (ssx_one sx_never) ssx_nil)
      (ssx_cons (sx_p2 rfl sc_read_machine.nd (oax_cons (ex_lst ax_nil) (oax_cons (ex_lst ax_nil) oax_nil)))
      (ssx_cons (sx_for (passes_of rfl) rfl (ix_enum (by rfl) m_enumerate (ax_cons (EX.toF (ex_sl (bx_var (pv 1)) (ox_some (FX.toB fx_int)) ox_none)) ax_nil)) (gx_tp rfl (gxs_cons (gx_nm sc_read_machine.nd) (gxs_cons (gx_nm sc_read_machine.nd) gxs_nil))) (ssx_cons (sx_set sc_read_machine.nd (ex_callD d_row_of hG hr tk (ax_cons (fx_var (pv 6)) (ax_cons (EX.toF (ex_len m_len (bax_cons (bx_var (pv 2)) bax_nil))) ax_nil))))
      (ssx_cons (sx_if (tx_cmp op_isA ops_is (bx_var (pv 7)) (FX.toB fx_non) (nomark _)) (ssx_one sx_never) ssx_nil)
      (ssx_cons (sx_append (pv 3) (EX.toF (ex_ix (bx_var (pv 7)) (FX.toB fx_int) (fun _ _ => rfl))))
      (ssx_one (sx_if (tx_val (EX.toB (ex_ix (bx_var (pv 7)) (FX.toB fx_int) (fun _ _ => rfl)))) (ssx_one (sx_append (pv 4) (fx_var (pv 5)))) ssx_nil))))))
      (ssx_cons (sx_if (WXt.t (wx_or (tx_cmp (op_eqP hr.units) ops_eq (bx_var (pv 3)) (EX.toB (ex_lst ax_nil)) (nomark _)) (wx_or1 (tx_not (tx_val (EX.toB (ex_callV d_begins hG hr tk (bax_cons (bx_var (pv 3)) (bax_cons (EX.toB (ex_len m_len (bax_cons (bx_var (pv 3)) bax_nil))) bax_nil))))))))) (ssx_one sx_never) ssx_nil)
      (ssx_one (sx_ret (ex_makeD d_Machine hG hr tk (ax_cons (fx_var (pv 2)) (ax_cons (fx_var (pv 3)) (ax_cons (fx_var (pv 4)) ax_nil)))))))))))))⟩
abbrev s__law_one_of : Stmt := topS 29
theorem sc__law_one_of : FnScope ["tape", "things"] ["tape", "things"] (defScope s__law_one_of) := ⟨rfl, rfl, rfl, by decide +kernel, rfl, by decide +kernel, by decide +kernel⟩
theorem fn__law_one_of {f : Addr} {fd : FuncData} (Fu : Fun K "_law_one_of" "_law_one_of" s__law_one_of f fd) (d__law_pick : DefT P w K mg base "_law_pick" 1 1 F__law_pick) (m_len : mg "len" = none) : FnG P w K mg base 2 f fd ["tape", "things"] (spT K mg 1 F__law_one_of) :=
  fgT (B := B__law_one_of) Fu sc__law_one_of rfl rfl rfl fun cdv A out s H E hG hr tk => ⟨_,
    (ssx_one (sx_ret (ex_ix (bx_var (pv 1)) (EX.toB (ex_callDT d__law_pick hG hr tk (pv 0) (ax_cons (EX.toF (ex_len m_len (bax_cons (bx_var (pv 1)) bax_nil))) ax_nil))) (fun _ _ => rfl))))⟩
abbrev s__law_plan_text : Stmt := topS 32
theorem sc__law_plan_text : FnScope ["plan", "lines", "place", "row", "other"] ["plan"] (defScope s__law_plan_text) := ⟨rfl, rfl, rfl, by decide +kernel, rfl, by decide +kernel, by decide +kernel⟩
theorem fn__law_plan_text {f : Addr} {fd : FuncData} (Fu : Fun K "_law_plan_text" "_law_plan_text" s__law_plan_text f fd) (m_enumerate : mg "enumerate" = none) (m_str : mg "str" = none) : FnG P w K mg base 1 f fd ["plan"] (spF K mg 1 F__law_plan_text) :=
  fgF (B := B__law_plan_text) Fu sc__law_plan_text rfl rfl rfl fun cdv A out s H E hG hr tk => ⟨_,
    (ssx_cons (sx_set sc__law_plan_text.nd (ex_lst (ax_cons (EX.toF (ex_op op_addA ops_add (FX.toB fx_str) (EX.toB (ex_ix (bx_var (pv 0)) (FX.toB fx_int) (fun _ _ => rfl))))) ax_nil)))
      (ssx_cons (sx_for (passes_of rfl) rfl (ix_enum (by rfl) m_enumerate (ax_cons (EX.toF (ex_ix (bx_var (pv 0)) (FX.toB fx_int) (fun _ _ => rfl))) ax_nil)) (gx_tp rfl (gxs_cons (gx_nm sc__law_plan_text.nd) (gxs_cons (gx_nm sc__law_plan_text.nd) gxs_nil))) (ssx_one (sx_append (pv 1) (EX.toF (ex_op op_addA ops_add (EX.toB (ex_ms (rr := (rJoin K)) PySem.F.slot_str_join PySem.F.type_str_join mt_join opm_join (FX.toB fx_str) (bax_cons (EX.toB (ex_lcW (own := [("other", 4)]) (g := gName 4) (tt := tYes) (te := tCB rStrI (tCons (tVar 4) (tNil))) rfl sc__law_plan_text.nd (blkOk_by (N := ["plan", "lines", "place", "row", "other"]) (sc := defScope s__law_plan_text) (by decide +kernel)) (ix_seq (fx_var (pv 3))) (gw_name (by decide)) (fun s H C cl fp => (gx_nm sc__law_plan_text.nd)) (fun s H C cl fp => tsx_nil) (fun s H C cl fp => (EX.toF (ex_strI m_str (bax_cons (bx_var (pv 4)) bax_nil)))))) bax_nil))) (EX.toB (ex_if (tx_cmp (op_inP hr.units) ops_in (bx_var (pv 2)) (EX.toB (ex_ix (bx_var (pv 0)) (FX.toB fx_int) (fun _ _ => rfl))) (by with_unfolding_all rfl)) (FX.toE fx_str) (FX.toE fx_str))))))))
      (ssx_one (sx_ret (ex_ms (rr := (rJoin K)) PySem.F.slot_str_join PySem.F.type_str_join mt_join opm_join (FX.toB fx_str) (bax_cons (bx_var (pv 1)) bax_nil))))))⟩
abbrev s_Machine_eq : Stmt := methS 4 (topS 16)
theorem sc_Machine_eq : FnScope ["self", "other"] ["self", "other"] (defScope s_Machine_eq) := ⟨rfl, rfl, rfl, by decide +kernel, rfl, by decide +kernel, by decide +kernel⟩
theorem fn_Machine_eq {f : Addr} {fd : FuncData} (Fu : Fun K "__eq__" "Machine.__eq__" s_Machine_eq f fd) (na_Machine_ends : NoA K "Machine" "ends") (na_Machine_lines : NoA K "Machine" "lines") (na_Machine_signs : NoA K "Machine" "signs") (di_Machine : DefI K mg "Machine") (m_isinstance : mg "isinstance" = none) : FnG P w K mg base 1 f fd ["self", "other"] (spF K mg 2 F_Machine_eq) :=
  fgF (B := B_Machine_eq) Fu sc_Machine_eq rfl rfl rfl fun cdv A out s H E hG hr tk => ⟨_,
    (ssx_cons (sx_if (tx_not (tx_val (EX.toB (ex_isA di_Machine m_isinstance (bx_var (pv 1)))))) (ssx_one (sx_ret (FX.toE fx_bl))) ssx_nil)
      (ssx_one (sx_ret (ex_and (EX.toB (ex_cmp (op_eqP hr.units) ops_eq (EX.toB (ex_fld na_Machine_signs (bx_var (pv 0)))) (EX.toB (ex_fld na_Machine_signs (bx_var (pv 1)))) (nomark _))) (ex_and (EX.toB (ex_cmp (op_eqP hr.units) ops_eq (EX.toB (ex_fld na_Machine_lines (bx_var (pv 0)))) (EX.toB (ex_fld na_Machine_lines (bx_var (pv 1)))) (nomark _))) (ex_one (ex_cmp (op_eqP hr.units) ops_eq (EX.toB (ex_fld na_Machine_ends (bx_var (pv 0)))) (EX.toB (ex_fld na_Machine_ends (bx_var (pv 1)))) (nomark _))))))))⟩
abbrev s__law_shuffled : Stmt := topS 30
theorem sc__law_shuffled : FnScope ["tape", "things", "left", "found"] ["tape", "things"] (defScope s__law_shuffled) := ⟨rfl, rfl, rfl, by decide +kernel, rfl, by decide +kernel, by decide +kernel⟩
theorem fn__law_shuffled {f : Addr} {fd : FuncData} (Fu : Fun K "_law_shuffled" "_law_shuffled" s__law_shuffled f fd) (d__law_pick : DefT P w K mg base "_law_pick" 1 1 F__law_pick) (m_len : mg "len" = none) (m_list : mg "list" = none) : FnG P w K mg base 2 f fd ["tape", "things"] (spT K mg 1 F__law_shuffled) :=
  fgT (B := B__law_shuffled) Fu sc__law_shuffled rfl rfl rfl fun cdv A out s H E hG hr tk => ⟨_,
    (ssx_cons (sx_p2 rfl sc__law_shuffled.nd (oax_cons (ex_listA rfl m_list (bax_cons (bx_var (pv 1)) bax_nil)) (oax_cons (ex_lst ax_nil) oax_nil)))
      (ssx_cons (sx_while (passes_of rfl) (tx_cmp (op_neP hr.units) ops_eq (bx_var (pv 2)) (EX.toB (ex_lst ax_nil)) (nomark _)) (ssx_one (sx_appendM (pv 3) (mx_pop (pv 2) (EX.toB (ex_callDT d__law_pick hG hr tk (pv 0) (ax_cons (EX.toF (ex_len m_len (bax_cons (bx_var (pv 2)) bax_nil))) ax_nil)))))))
      (ssx_one (sx_retV (pv 3)))))⟩
abbrev s_law : Stmt := topS 33
theorem sc_law : FnScope ["script", "start", "tape", "turn", "letters", "plan", "case", "due", "told"] ["script"] (defScope s_law) := ⟨rfl, rfl, rfl, by decide +kernel, rfl, by decide +kernel, by decide +kernel⟩
def law_b1 : S → RS := sSeq (sAsg 4 (fMt dJoin (fC (.str "")) (aCons (fD (fCB dSortA (aCons (fD (fSl (fD (fCallT 2 1 F__law_shuffled (aCons (fD (fCB dListA (aCons (fC (.str "aelrstxz")) (aNil)))) (aNil)))) (oNon) (oSom (fD (fOp dAdd (fC (.int 1)) (fD (fCallT 2 1 F__law_pick (aCons (fC (.int 4)) (aNil))))))))) (aNil)))) (aNil))))
  (sSeq (sAsg 5 (fCallT 2 2 F__law_drawn_machine (aCons (fV 4) (aCons (fD (fCallT 2 1 F__law_one_of (aCons (fD (eLst (aCons (fC (.int 3)) (aCons (fC (.int 12)) (aCons (fC (.int 40)) (aNil)))))) (aNil)))) (aNil)))))
  (sSeq (sPar2 6 7 (oCons (fCall 3 (mkO F_Machine_init_v2) (aCons (fD (fOp dIx (gV 5) (fC (.int 0)))) (aCons (fD (fOp dIx (gV 5) (fC (.int 1)))) (aCons (fD (fOp dIx (gV 5) (fC (.int 2)))) (aNil))))) (oCons (fCall 1 F__law_plan_text (aCons (fV 5) (aNil))) (oNil))))
  (sSeq (sIf (tOrF (tV (fD (fOp dNe (fD (eLst (aCons (fD (fCall 1 F_format_machine (aCons (fV 6) (aNil)))) (aCons (fD (fCall 1 (fun ds => F_format_machine (pickL [0] ds)) (aCons (fV 6) (aNil)))) (aNil))))) (fD (eLst (aCons (fV 7) (aCons (fV 7) (aNil)))))))) (tOrF (tNotF (tV (fD (fCall 2 F_Machine_eq (aOwn "Machine" (qOb "Machine") (fD (fCall 1 F_read_machine (aCons (fV 7) (aNil)))) (fV 6)))))) (tNotF (tV (fD (fCall 2 F_Machine_eq (aOwn "Machine" (qOb "Machine") (fD (fCall 1 (fun ds => F_read_machine (pickL [0] ds)) (aCons (fV 7) (aNil)))) (fV 6)))))))) (sRet (eD (fC (.bool false)))) (sNext))
  (sSeq (sAsg 8 (fCall 1 F_read_machine (aCons (fV 7) (aNil))))
  (sIf (tOrF (tV (fD (fOp dNe (fD (eLst (aCons (fD (fProp "Machine" F_Machine_letters (fV 8))) (aCons (fD (fProp "Machine" F_Machine_rows (fV 8))) (aCons (fD (fProp "Machine" F_Machine_lets (fV 8))) (aNil)))))) (gV 5)))) (tV (fD (fOp dNe (fD (fCall 1 F_format_machine (aCons (fV 8) (aNil)))) (gV 7))))) (sRet (eD (fC (.bool false)))) (sNext))))))
def B_law : S → RS := sFor (fRng1 (aCons (fC (.int 6)) (aNil))) (gNm 3) (law_b1)
def G_law : S → Res SV := fOp dEq (fD (fCall 1 F_format_machine (aCons (fD (fCall 3 (mkO F_Machine_init_v2) (aCons (fC (.str "x")) (aCons (fD (eLst (aCons (fD (eTup (aCons (fC (.int 0)) (aNil)))) (aNil)))) (aCons (fD (eLst (aCons (fC (.int 0)) (aNil)))) (aNil)))))) (aNil)))) (fC (.str "letters x\n0 lets"))
theorem fn_law {f fT : Addr} {fd fdT : FuncData} (Fu : Fun K "law" "law" s_law f fd) (FT : FnG P w K mg base 1 fT fdT ["script", "start"] (spTp K)) (gT : mg "_law_tape" = some (.ref fT)) (kT : PySem.W.keepIn K (.ref fT) = true) (bT : Binds K fdT ["script", "start"] []) (d_format_machine : DefF P w K mg base "format_machine" 3 1 F_format_machine) (d__law_pick : DefT P w K mg base "_law_pick" 1 1 F__law_pick) (d__law_drawn_machine : DefT P w K mg base "_law_drawn_machine" 2 2 F__law_drawn_machine) (d_read_machine : DefF P w K mg base "read_machine" 6 1 F_read_machine) (d__law_one_of : DefT P w K mg base "_law_one_of" 2 1 F__law_one_of) (d__law_plan_text : DefF P w K mg base "_law_plan_text" 1 1 F__law_plan_text) (d__law_shuffled : DefT P w K mg base "_law_shuffled" 2 1 F__law_shuffled) (dk_format_machine_machine : DefK P w K mg base "format_machine" 3 1 ["machine"] [0] F_format_machine) (dk_read_machine_signs : DefK P w K mg base "read_machine" 6 1 ["signs"] [0] F_read_machine) (d_Machine : DefC P w K mg base "Machine" 4 3 F_Machine_init_v2) (d_Machine_eq : DefM P w K mg base "Machine" "__eq__" 1 2 F_Machine_eq) (d_Machine_rows : DefP P w K mg base "Machine" "rows" 1 F_Machine_rows) (d_Machine_letters : DefP P w K mg base "Machine" "letters" 1 F_Machine_letters) (d_Machine_lets : DefP P w K mg base "Machine" "lets" 1 F_Machine_lets) (m_len : mg "len" = none) (m_list : mg "list" = none) (m_max : mg "max" = none) (m_min : mg "min" = none) (m_range : mg "range" = none) (m_sorted : mg "sorted" = none) (ok : LawOk 6 [] B_law G_law) : FnG P w K mg base 7 f fd ["script"] (spLaw K []) :=
  fg_law (B := B_law) (G := G_law) (cap := 3) Fu sc_law rfl (by decide) ok fun cdv A out s H E hG hr => by
    have tB : ∃ t, SSX (cxOf (L2.CX P w) P w K mg base ["script", "start", "tape", "turn", "letters", "plan", "case", "due", "told"] "law" (defScope s_law) f cdv A out s H E) WN (lawRest (defBody s_law)) t B_law := ⟨_, (ssx_one (sx_for (passes_of rfl) rfl (ix_rng1 (by rfl) m_range (ax_cons fx_int ax_nil)) (gx_nm sc_law.nd) (ssx_cons (sx_set sc_law.nd (ex_ms (rr := (rJoin K)) PySem.F.slot_str_join PySem.F.type_str_join mt_join opm_join (FX.toB fx_str) (bax_cons (EX.toB (ex_sortA m_sorted (bax_cons (EX.toB (ex_sl (EX.toB (ex_callDT d__law_shuffled hG hr takes0 (pv 2) (ax_cons (EX.toF (ex_listA rfl m_list (bax_cons (FX.toB fx_str) bax_nil))) ax_nil))) ox_none (ox_some (EX.toB (ex_op op_addA ops_add (FX.toB fx_int) (EX.toB (ex_callDT d__law_pick hG hr takes0 (pv 2) (ax_cons fx_int ax_nil)))))))) bax_nil))) bax_nil)))
      (ssx_cons (sx_set sc_law.nd (ex_callDT d__law_drawn_machine hG hr takes0 (pv 2) (ax_cons (fx_var (pv 4)) (ax_cons (EX.toF (ex_callDT d__law_one_of hG hr takes0 (pv 2) (ax_cons (EX.toF (ex_lst (ax_cons fx_int (ax_cons fx_int (ax_cons fx_int ax_nil))))) ax_nil))) ax_nil))))
      (ssx_cons (sx_p2 rfl sc_law.nd (oax_cons (ex_makeD d_Machine hG hr takes0 (ax_cons (EX.toF (ex_ix (bx_var (pv 5)) (FX.toB fx_int) (fun _ _ => rfl))) (ax_cons (EX.toF (ex_ix (bx_var (pv 5)) (FX.toB fx_int) (fun _ _ => rfl))) (ax_cons (EX.toF (ex_ix (bx_var (pv 5)) (FX.toB fx_int) (fun _ _ => rfl))) ax_nil)))) (oax_cons (ex_callD d__law_plan_text hG hr takes0 (ax_cons (fx_var (pv 5)) ax_nil)) oax_nil)))
      (ssx_cons (sx_if (WXt.t (wx_or (tx_cmp (op_neP hr.units) ops_eq (EX.toB (ex_lst (ax_cons (EX.toF (ex_callD d_format_machine hG hr takes0 (ax_cons (fx_var (pv 6)) ax_nil))) (ax_cons (EX.toF (ex_callK dk_format_machine_machine hG hr takes0 (kx_cons (fx_var (pv 6)) kx_nil))) ax_nil)))) (EX.toB (ex_lst (ax_cons (fx_var (pv 7)) (ax_cons (fx_var (pv 7)) ax_nil)))) (nomark _)) (wx_or (tx_not (tx_eqO d_Machine_eq hG hr takes0 (EX.toF (ex_callD d_read_machine hG hr takes0 (ax_cons (fx_var (pv 7)) ax_nil))) (fx_var (pv 6)))) (wx_or1 (tx_not (tx_eqO d_Machine_eq hG hr takes0 (EX.toF (ex_callK dk_read_machine_signs hG hr takes0 (kx_cons (fx_var (pv 7)) kx_nil))) (fx_var (pv 6)))))))) (ssx_one (sx_ret (FX.toE fx_bl))) ssx_nil)
      (ssx_cons (sx_set sc_law.nd (ex_callD d_read_machine hG hr takes0 (ax_cons (fx_var (pv 7)) ax_nil)))
      (ssx_one (sx_if (WXt.t (wx_or (tx_cmp (op_neP hr.units) ops_eq (EX.toB (ex_lst (ax_cons (EX.toF (ex_propD d_Machine_letters hG hr (fx_var (pv 8)))) (ax_cons (EX.toF (ex_propD d_Machine_rows hG hr (fx_var (pv 8)))) (ax_cons (EX.toF (ex_propD d_Machine_lets hG hr (fx_var (pv 8)))) ax_nil))))) (bx_var (pv 5)) (nomark _)) (wx_or1 (tx_cmp (op_neP hr.units) ops_eq (EX.toB (ex_callD d_format_machine hG hr takes0 (ax_cons (fx_var (pv 8)) ax_nil))) (bx_var (pv 7)) (nomark _))))) (ssx_one (sx_ret (FX.toE fx_bl))) ssx_nil)))))))))⟩
    have tE : ∃ t, EX (cxOf (L2.CX P w) P w K mg base ["script", "start", "tape", "turn", "letters", "plan", "case", "due", "told"] "law" (defScope s_law) f cdv A out s H E) WN (lawLast (defBody s_law)) t G_law := ⟨_, (ex_cmp (op_eqP hr.units) ops_eq (EX.toB (ex_callD d_format_machine hG hr takes0 (ax_cons (EX.toF (ex_makeD d_Machine hG hr takes0 (ax_cons fx_str (ax_cons (EX.toF (ex_lst (ax_cons (EX.toF (ex_tp (ax_cons fx_int ax_nil))) ax_nil))) (ax_cons (EX.toF (ex_lst (ax_cons fx_int ax_nil))) ax_nil))))) ax_nil))) (FX.toB fx_str) (nomark _))⟩
    obtain ⟨tB, hB⟩ := tB
    obtain ⟨tE, hE⟩ := tE
    refine ⟨tB, tE, hB.sim, hE.sim, ?_⟩
    exact pss_cons (ps_for (passes_of rfl) rfl (pi_range1 (by rfl) m_range (pa_cons (pe_callB (call_max2 rfl) (by rfl) m_max PyProof.Rows.boot_max (pa_cons pe_int (pa_cons (pe_callB (call_min2 rfl) (by rfl) m_min PyProof.Rows.boot_min (pa_cons pe_int (pa_cons (pe_callB call_len (by rfl) m_len PySem.boot_len (pa_cons (pv 0) pa_nil)) pa_nil))) pa_nil))) pa_nil)) (pg_name (i := 1) sc_law.nd rfl (by first | exact Or.inl rfl | exact Or.inr rfl))
      (pss_cons (ps_set (i := 2) sc_law.nd rfl (by first | exact Or.inl rfl | exact Or.inr rfl) (pe_callF FT hG (hr.mono (by decide)) (by rfl) gT kT bT takes0 (pa_cons (pv 0) (pa_cons (pv 1) pa_nil)))) hB.ps))
      (pss_one (ps_ret hE.pe))
end
set_option maxHeartbeats 0 in
theorem all_mk {l : PySem.W.OpenLaw} {w : World} {K : PySem.W.Frag} {h : Heap} {mg : Str → Option Value} {fa f0 f1 f2 f3 f4 f5 f6 f7 f8 f9 f10 f11 f12 f13 f14 f15 f16 f17 f18 f19 f20 f21 f22 : Addr} (X : K.In h) (G : h.Ns mainGlobals mg) (hfa : mg "law" = some (.ref fa)) (okL : LawOk 6 [] B_law G_law)
    {od0 an0 od1 an1 od2 an2 od3 an3 od4 an4 od5 an5 od6 an6 od7 an7 od8 an8 od9 an9 od10 an10 od11 an11 od12 an12 od13 an13 od14 an14 od15 an15 od16 an16 od17 an17 od18 an18 od19 an19 od20 an20 od21 an21 od22 an22 : Option Addr} {sl0 sl1 sl2 sl3 sl4 sl5 sl6 sl7 sl8 sl9 sl10 sl11 sl12 sl13 sl14 sl15 sl16 sl17 sl18 sl19 sl20 sl21 sl22 : Array (Option Value)} {oc0 kV0 dc0 pm0 cd0 ct0 oc1 kV1 dc1 pm1 cd1 ct1 oc2 kV2 dc2 pm2 cd2 ct2 oc3 kV3 dc3 pm3 cd3 ct3 oc4 kV4 dc4 pm4 cd4 ct4 oc5 kV5 dc5 pm5 cd5 ct5 oc6 kV6 dc6 pm6 cd6 ct6 oc7 kV7 dc7 pm7 cd7 ct7 oc8 kV8 dc8 pm8 cd8 ct8 oc9 kV9 dc9 pm9 cd9 ct9 oc10 kV10 dc10 pm10 cd10 ct10 oc11 kV11 dc11 pm11 cd11 ct11 oc12 kV12 dc12 pm12 cd12 ct12 oc13 kV13 dc13 pm13 cd13 ct13 oc14 kV14 dc14 pm14 cd14 ct14 oc15 kV15 dc15 pm15 cd15 ct15 oc16 kV16 dc16 pm16 cd16 ct16 oc17 kV17 dc17 pm17 cd17 ct17 oc18 kV18 dc18 pm18 cd18 ct18 oc19 kV19 dc19 pm19 cd19 ct19 oc20 kV20 dc20 pm20 cd20 ct20 oc21 kV21 dc21 pm21 cd21 ct21 oc22 kV22 dc22 pm22 cd22 ct22 : Value}
    {tk0 tk1 tk2 tk3 : Tok}
    {C_Machine : Addr}
    (u0_Machine : PySem.W.nsIn K mainGlobals "Machine" = some (some (.ref C_Machine)))
    (u1_Machine : PySem.W.plainGet K C_Machine Str.empty = true)
    (u2_Machine : PySem.W.hasDictIn K C_Machine = true)
    (u3_Machine : PySem.W.plainOver K C_Machine = true)
    (u4_Machine : PySem.W.findIn K (.ref C_Machine) "__setattr__" = some (some (.builtin "object.__setattr__")))
    (u5_Machine : PySem.W.findIn K (.ref C_Machine) "__class__" = some (some (.builtin "object.__class__")))
    (u6_Machine : PySem.W.specialIn K (.builtin "object.__class__") "__get__" = some (some (.builtin "getset_descriptor.__get__")))
    (u7_Machine : PySem.W.takesIn K (.builtin "object.__class__") = some true)
    (u8_Machine : PySem.W.mroIn K C_Machine (.type "object") = some true)
    (ua_Machine : PySem.W.subIn K (.ref C_Machine) (.type "str") = some false)
    (ub_Machine : PySem.W.subIn K (.ref C_Machine) (.type "int") = some false)
    (uc_Machine : PySem.W.subIn K (.ref C_Machine) (.type "bool") = some false)
    (ud_Machine : PySem.W.subIn K (.ref C_Machine) (.type "list") = some false)
    (ue_Machine : PySem.W.subIn K (.ref C_Machine) (.type "tuple") = some false)
    (uf_Machine : PySem.W.subIn K (.ref C_Machine) (.type "dict") = some false)
    (ug_Machine : PySem.W.makesIn K C_Machine = true)
    (uh_Machine : PySem.W.keepIn K (.ref C_Machine) = true)
    (us_Machine : PySem.W.typeIn K (.ref C_Machine) = some (.type "type"))
    (uj_Machine_ends : PySem.W.findIn K (.ref C_Machine) "ends" = some none)
    (uj_Machine_lines : PySem.W.findIn K (.ref C_Machine) "lines" = some none)
    (uj_Machine_signs : PySem.W.findIn K (.ref C_Machine) "signs" = some none)
    (a0 : PySem.W.nsIn K mainGlobals "_law_tape" = some (some (.ref f0))) (l0 : K.lookup f0 = some ⟨oc0, od0, .func (PySem.W.fnOf "_law_tape" "_law_tape" (defArgs s__law_tape) (defBody s__law_tape) (defScope s__law_tape) .none kV0 dc0 pm0 an0 cd0 ct0), sl0⟩) (c0 : PySem.W.codeIn K cd0 "_law_tape" = true) (k0 : PySem.W.keepIn K (.ref f0) = true)
    {pp1 : Addr} {pr1 : List Value} (a1 : PySem.W.findIn K (.ref C_Machine) "rows" = some (some (.ref pp1))) (g1 : PySem.W.specialIn K (.ref pp1) "__get__" = some (some (.builtin "property.__get__"))) (t1 : PySem.W.takesIn K (.ref pp1) = some true) (r1 : PySem.W.recIn K pp1 "property" = some (.ref f1 :: pr1)) (l1 : K.lookup f1 = some ⟨oc1, od1, .func (PySem.W.fnOf "rows" "Machine.rows" (defArgs s_Machine_rows) (defBody s_Machine_rows) (defScope s_Machine_rows) .none kV1 dc1 pm1 an1 cd1 ct1), sl1⟩) (c1 : PySem.W.codeIn K cd1 "Machine.rows" = true) (k1 : PySem.W.keepIn K (.ref f1) = true)
    {pp2 : Addr} {pr2 : List Value} (a2 : PySem.W.findIn K (.ref C_Machine) "letters" = some (some (.ref pp2))) (g2 : PySem.W.specialIn K (.ref pp2) "__get__" = some (some (.builtin "property.__get__"))) (t2 : PySem.W.takesIn K (.ref pp2) = some true) (r2 : PySem.W.recIn K pp2 "property" = some (.ref f2 :: pr2)) (l2 : K.lookup f2 = some ⟨oc2, od2, .func (PySem.W.fnOf "letters" "Machine.letters" (defArgs s_Machine_letters) (defBody s_Machine_letters) (defScope s_Machine_letters) .none kV2 dc2 pm2 an2 cd2 ct2), sl2⟩) (c2 : PySem.W.codeIn K cd2 "Machine.letters" = true) (k2 : PySem.W.keepIn K (.ref f2) = true)
    {pp3 : Addr} {pr3 : List Value} (a3 : PySem.W.findIn K (.ref C_Machine) "lets" = some (some (.ref pp3))) (g3 : PySem.W.specialIn K (.ref pp3) "__get__" = some (some (.builtin "property.__get__"))) (t3 : PySem.W.takesIn K (.ref pp3) = some true) (r3 : PySem.W.recIn K pp3 "property" = some (.ref f3 :: pr3)) (l3 : K.lookup f3 = some ⟨oc3, od3, .func (PySem.W.fnOf "lets" "Machine.lets" (defArgs s_Machine_lets) (defBody s_Machine_lets) (defScope s_Machine_lets) .none kV3 dc3 pm3 an3 cd3 ct3), sl3⟩) (c3 : PySem.W.codeIn K cd3 "Machine.lets" = true) (k3 : PySem.W.keepIn K (.ref f3) = true)
    (a4 : PySem.W.nsIn K mainGlobals "format_machine" = some (some (.ref f4))) (l4 : K.lookup f4 = some ⟨oc4, od4, .func (PySem.W.fnOf "format_machine" "format_machine" (defArgs s_format_machine) (defBody s_format_machine) (defScope s_format_machine) .none kV4 dc4 pm4 an4 cd4 ct4), sl4⟩) (c4 : PySem.W.codeIn K cd4 "format_machine" = true) (k4 : PySem.W.keepIn K (.ref f4) = true)
    (a5 : PySem.W.nsIn K mainGlobals "_law_pick" = some (some (.ref f5))) (l5 : K.lookup f5 = some ⟨oc5, od5, .func (PySem.W.fnOf "_law_pick" "_law_pick" (defArgs s__law_pick) (defBody s__law_pick) (defScope s__law_pick) .none kV5 dc5 pm5 an5 cd5 ct5), sl5⟩) (c5 : PySem.W.codeIn K cd5 "_law_pick" = true) (k5 : PySem.W.keepIn K (.ref f5) = true)
    (a6 : PySem.W.nsIn K mainGlobals "_law_drawn_machine" = some (some (.ref f6))) (l6 : K.lookup f6 = some ⟨oc6, od6, .func (PySem.W.fnOf "_law_drawn_machine" "_law_drawn_machine" (defArgs s__law_drawn_machine) (defBody s__law_drawn_machine) (defScope s__law_drawn_machine) .none kV6 dc6 pm6 an6 cd6 ct6), sl6⟩) (c6 : PySem.W.codeIn K cd6 "_law_drawn_machine" = true) (k6 : PySem.W.keepIn K (.ref f6) = true)
    (a7 : PySem.W.nsIn K mainGlobals "is_text" = some (some (.ref f7))) (l7 : K.lookup f7 = some ⟨oc7, od7, .func (PySem.W.fnOf "is_text" "is_text" (defArgs s_is_text) (defBody s_is_text) (defScope s_is_text) .none kV7 dc7 pm7 an7 cd7 ct7), sl7⟩) (c7 : PySem.W.codeIn K cd7 "is_text" = true) (k7 : PySem.W.keepIn K (.ref f7) = true)
    (a8 : PySem.W.nsIn K mainGlobals "is_letters" = some (some (.ref f8))) (l8 : K.lookup f8 = some ⟨oc8, od8, .func (PySem.W.fnOf "is_letters" "is_letters" (defArgs s_is_letters) (defBody s_is_letters) (defScope s_is_letters) .none kV8 dc8 pm8 an8 cd8 ct8), sl8⟩) (c8 : PySem.W.codeIn K cd8 "is_letters" = true) (k8 : PySem.W.keepIn K (.ref f8) = true)
    (a9 : PySem.W.nsIn K mainGlobals "must_be_letters" = some (some (.ref f9))) (l9 : K.lookup f9 = some ⟨oc9, od9, .func (PySem.W.fnOf "must_be_letters" "must_be_letters" (defArgs s_must_be_letters) (defBody s_must_be_letters) (defScope s_must_be_letters) .none kV9 dc9 pm9 an9 cd9 ct9), sl9⟩) (c9 : PySem.W.codeIn K cd9 "must_be_letters" = true) (k9 : PySem.W.keepIn K (.ref f9) = true)
    (a10 : PySem.W.nsIn K mainGlobals "is_count" = some (some (.ref f10))) (l10 : K.lookup f10 = some ⟨oc10, od10, .func (PySem.W.fnOf "is_count" "is_count" (defArgs s_is_count) (defBody s_is_count) (defScope s_is_count) .none kV10 dc10 pm10 an10 cd10 ct10), sl10⟩) (c10 : PySem.W.codeIn K cd10 "is_count" = true) (k10 : PySem.W.keepIn K (.ref f10) = true)
    (a11 : PySem.W.nsIn K mainGlobals "are_rows" = some (some (.ref f11))) (l11 : K.lookup f11 = some ⟨oc11, od11, .func (PySem.W.fnOf "are_rows" "are_rows" (defArgs s_are_rows) (defBody s_are_rows) (defScope s_are_rows) .none kV11 dc11 pm11 an11 cd11 ct11), sl11⟩) (c11 : PySem.W.codeIn K cd11 "are_rows" = true) (k11 : PySem.W.keepIn K (.ref f11) = true)
    (a12 : PySem.W.nsIn K mainGlobals "are_lets" = some (some (.ref f12))) (l12 : K.lookup f12 = some ⟨oc12, od12, .func (PySem.W.fnOf "are_lets" "are_lets" (defArgs s_are_lets) (defBody s_are_lets) (defScope s_are_lets) .none kV12 dc12 pm12 an12 cd12 ct12), sl12⟩) (c12 : PySem.W.codeIn K cd12 "are_lets" = true) (k12 : PySem.W.keepIn K (.ref f12) = true)
    (a13 : PySem.W.findIn K (.ref C_Machine) "__init__" = some (some (.ref f13))) (l13 : K.lookup f13 = some ⟨oc13, od13, .func (PySem.W.fnOf "__init__" "Machine.__init__" (defArgs s_Machine_init) (defBody s_Machine_init) (defScope s_Machine_init) .none kV13 dc13 pm13 an13 cd13 ct13), sl13⟩) (c13 : PySem.W.codeIn K cd13 "Machine.__init__" = true) (k13 : PySem.W.keepIn K (.ref f13) = true) (i13 : PySem.W.isFn K (.ref f13) = true)
    (a14 : PySem.W.nsIn K mainGlobals "number_of" = some (some (.ref f14))) (l14 : K.lookup f14 = some ⟨oc14, od14, .func (PySem.W.fnOf "number_of" "number_of" (defArgs s_number_of) (defBody s_number_of) (defScope s_number_of) .none kV14 dc14 pm14 an14 cd14 ct14), sl14⟩) (c14 : PySem.W.codeIn K cd14 "number_of" = true) (k14 : PySem.W.keepIn K (.ref f14) = true)
    (a15 : PySem.W.nsIn K mainGlobals "row_of" = some (some (.ref f15))) (l15 : K.lookup f15 = some ⟨oc15, od15, .func (PySem.W.fnOf "row_of" "row_of" (defArgs s_row_of) (defBody s_row_of) (defScope s_row_of) .none kV15 dc15 pm15 an15 cd15 ct15), sl15⟩) (c15 : PySem.W.codeIn K cd15 "row_of" = true) (k15 : PySem.W.keepIn K (.ref f15) = true)
    (a16 : PySem.W.nsIn K mainGlobals "begins" = some (some (.ref f16))) (l16 : K.lookup f16 = some ⟨oc16, od16, .func (PySem.W.fnOf "begins" "begins" (defArgs s_begins) (defBody s_begins) (defScope s_begins) .none kV16 dc16 pm16 an16 cd16 ct16), sl16⟩) (c16 : PySem.W.codeIn K cd16 "begins" = true) (k16 : PySem.W.keepIn K (.ref f16) = true)
    (a17 : PySem.W.nsIn K mainGlobals "read_machine" = some (some (.ref f17))) (l17 : K.lookup f17 = some ⟨oc17, od17, .func (PySem.W.fnOf "read_machine" "read_machine" (defArgs s_read_machine) (defBody s_read_machine) (defScope s_read_machine) .none kV17 dc17 pm17 an17 cd17 ct17), sl17⟩) (c17 : PySem.W.codeIn K cd17 "read_machine" = true) (k17 : PySem.W.keepIn K (.ref f17) = true)
    (a18 : PySem.W.nsIn K mainGlobals "_law_one_of" = some (some (.ref f18))) (l18 : K.lookup f18 = some ⟨oc18, od18, .func (PySem.W.fnOf "_law_one_of" "_law_one_of" (defArgs s__law_one_of) (defBody s__law_one_of) (defScope s__law_one_of) .none kV18 dc18 pm18 an18 cd18 ct18), sl18⟩) (c18 : PySem.W.codeIn K cd18 "_law_one_of" = true) (k18 : PySem.W.keepIn K (.ref f18) = true)
    (a19 : PySem.W.nsIn K mainGlobals "_law_plan_text" = some (some (.ref f19))) (l19 : K.lookup f19 = some ⟨oc19, od19, .func (PySem.W.fnOf "_law_plan_text" "_law_plan_text" (defArgs s__law_plan_text) (defBody s__law_plan_text) (defScope s__law_plan_text) .none kV19 dc19 pm19 an19 cd19 ct19), sl19⟩) (c19 : PySem.W.codeIn K cd19 "_law_plan_text" = true) (k19 : PySem.W.keepIn K (.ref f19) = true)
    (a20 : PySem.W.findIn K (.ref C_Machine) "__eq__" = some (some (.ref f20))) (l20 : K.lookup f20 = some ⟨oc20, od20, .func (PySem.W.fnOf "__eq__" "Machine.__eq__" (defArgs s_Machine_eq) (defBody s_Machine_eq) (defScope s_Machine_eq) .none kV20 dc20 pm20 an20 cd20 ct20), sl20⟩) (c20 : PySem.W.codeIn K cd20 "Machine.__eq__" = true) (k20 : PySem.W.keepIn K (.ref f20) = true) (i20 : PySem.W.isFn K (.ref f20) = true)
    (a21 : PySem.W.nsIn K mainGlobals "_law_shuffled" = some (some (.ref f21))) (l21 : K.lookup f21 = some ⟨oc21, od21, .func (PySem.W.fnOf "_law_shuffled" "_law_shuffled" (defArgs s__law_shuffled) (defBody s__law_shuffled) (defScope s__law_shuffled) .none kV21 dc21 pm21 an21 cd21 ct21), sl21⟩) (c21 : PySem.W.codeIn K cd21 "_law_shuffled" = true) (k21 : PySem.W.keepIn K (.ref f21) = true)
    (a22 : PySem.W.nsIn K mainGlobals "law" = some (some (.ref f22))) (l22 : K.lookup f22 = some ⟨oc22, od22, .func (PySem.W.fnOf "law" "law" (defArgs s_law) (defBody s_law) (defScope s_law) .none kV22 dc22 pm22 an22 cd22 ct22), sl22⟩) (c22 : PySem.W.codeIn K cd22 "law" = true) (k22 : PySem.W.keepIn K (.ref f22) = true)
    (z0 : PySem.W.nsIn K mainGlobals "bool" = some none)
    (z1 : PySem.W.nsIn K mainGlobals "enumerate" = some none)
    (z2 : PySem.W.nsIn K mainGlobals "int" = some none)
    (z3 : PySem.W.nsIn K mainGlobals "isinstance" = some none)
    (z4 : PySem.W.nsIn K mainGlobals "len" = some none)
    (z5 : PySem.W.nsIn K mainGlobals "list" = some none)
    (z6 : PySem.W.nsIn K mainGlobals "max" = some none)
    (z7 : PySem.W.nsIn K mainGlobals "min" = some none)
    (z8 : PySem.W.nsIn K mainGlobals "range" = some none)
    (z9 : PySem.W.nsIn K mainGlobals "set" = some none)
    (z10 : PySem.W.nsIn K mainGlobals "sorted" = some none)
    (z11 : PySem.W.nsIn K mainGlobals "str" = some none)
    (z12 : PySem.W.nsIn K mainGlobals "tuple" = some none)
    (z13 : PySem.W.nsIn K mainGlobals "zip" = some none)
    (v0 : PySem.W.nsIn K mainGlobals "ALPHABET" = some (some (.str "abcdefghijklmnopqrstuvwxyz" tk0)))
    (v1 : PySem.W.nsIn K mainGlobals "DIGITS" = some (some (.str "0123456789" tk1)))
    (v2 : PySem.W.nsIn K mainGlobals "HEAD" = some (some (.str "letters " tk2)))
    (v3 : PySem.W.nsIn K mainGlobals "TAIL" = some (some (.str " lets" tk3)))
    : ∃ fd : FuncData, (∀ (s : Shared) (v : Value), BindsTo s fd ⟨[v], []⟩ [("script", v)]) ∧ ∀ base : Heap, K.In base → base.Ns mainGlobals mg → FnG l.prog w K mg base 7 fa fd ["script"] (spLaw K []) := by
  have e := hfa.symm.trans (PySem.W.mg_of X G a22)
  cases e
  have m_bool := PySem.W.mg_none_of X G z0
  have m_enumerate := PySem.W.mg_none_of X G z1
  have m_int := PySem.W.mg_none_of X G z2
  have m_isinstance := PySem.W.mg_none_of X G z3
  have m_len := PySem.W.mg_none_of X G z4
  have m_list := PySem.W.mg_none_of X G z5
  have m_max := PySem.W.mg_none_of X G z6
  have m_min := PySem.W.mg_none_of X G z7
  have m_range := PySem.W.mg_none_of X G z8
  have m_set := PySem.W.mg_none_of X G z9
  have m_sorted := PySem.W.mg_none_of X G z10
  have m_str := PySem.W.mg_none_of X G z11
  have m_tuple := PySem.W.mg_none_of X G z12
  have m_zip := PySem.W.mg_none_of X G z13
  have m_ALPHABET : ∃ tk, mg "ALPHABET" = some (.str "abcdefghijklmnopqrstuvwxyz" tk) := ⟨_, PySem.W.mg_of X G v0⟩
  have m_DIGITS : ∃ tk, mg "DIGITS" = some (.str "0123456789" tk) := ⟨_, PySem.W.mg_of X G v1⟩
  have m_HEAD : ∃ tk, mg "HEAD" = some (.str "letters " tk) := ⟨_, PySem.W.mg_of X G v2⟩
  have m_TAIL : ∃ tk, mg "TAIL" = some (.str " lets" tk) := ⟨_, PySem.W.mg_of X G v3⟩
  have Fu0 := fun_mk (st := s__law_tape) l0 c0 k0
  have b0 := Fu0.binds (ps := ["script", "start"]) fun _ _ _ _ _ _ us hl => match us, hl with | [_, _], _ => rfl
  have Fu1 := fun_mk (st := s_Machine_rows) l1 c1 k1
  have b1 := Fu1.binds (ps := ["self"]) fun _ _ _ _ _ _ us hl => match us, hl with | [_], _ => rfl
  have Fu2 := fun_mk (st := s_Machine_letters) l2 c2 k2
  have b2 := Fu2.binds (ps := ["self"]) fun _ _ _ _ _ _ us hl => match us, hl with | [_], _ => rfl
  have Fu3 := fun_mk (st := s_Machine_lets) l3 c3 k3
  have b3 := Fu3.binds (ps := ["self"]) fun _ _ _ _ _ _ us hl => match us, hl with | [_], _ => rfl
  have Fu4 := fun_mk (st := s_format_machine) l4 c4 k4
  have b4 := Fu4.binds (ps := ["machine"]) fun _ _ _ _ _ _ us hl => match us, hl with | [_], _ => rfl
  have Fu5 := fun_mk (st := s__law_pick) l5 c5 k5
  have b5 := Fu5.binds (ps := ["tape", "many"]) fun _ _ _ _ _ _ us hl => match us, hl with | [_, _], _ => rfl
  have Fu6 := fun_mk (st := s__law_drawn_machine) l6 c6 k6
  have b6 := Fu6.binds (ps := ["tape", "letters", "most"]) fun _ _ _ _ _ _ us hl => match us, hl with | [_, _, _], _ => rfl
  have Fu7 := fun_mk (st := s_is_text) l7 c7 k7
  have b7 := Fu7.binds (ps := ["value"]) fun _ _ _ _ _ _ us hl => match us, hl with | [_], _ => rfl
  have Fu8 := fun_mk (st := s_is_letters) l8 c8 k8
  have b8 := Fu8.binds (ps := ["value"]) fun _ _ _ _ _ _ us hl => match us, hl with | [_], _ => rfl
  have Fu9 := fun_mk (st := s_must_be_letters) l9 c9 k9
  have b9 := Fu9.binds (ps := ["value"]) fun _ _ _ _ _ _ us hl => match us, hl with | [_], _ => rfl
  have Fu10 := fun_mk (st := s_is_count) l10 c10 k10
  have b10 := Fu10.binds (ps := ["value"]) fun _ _ _ _ _ _ us hl => match us, hl with | [_], _ => rfl
  have Fu11 := fun_mk (st := s_are_rows) l11 c11 k11
  have b11 := Fu11.binds (ps := ["letters", "value"]) fun _ _ _ _ _ _ us hl => match us, hl with | [_, _], _ => rfl
  have Fu12 := fun_mk (st := s_are_lets) l12 c12 k12
  have b12 := Fu12.binds (ps := ["many", "value"]) fun _ _ _ _ _ _ us hl => match us, hl with | [_, _], _ => rfl
  have Fu13 := fun_mk (st := s_Machine_init) l13 c13 k13
  have b13 := Fu13.binds (ps := ["self", "letters", "rows", "lets"]) fun _ _ _ _ _ _ us hl => match us, hl with | [_, _, _, _], _ => rfl
  have Fu14 := fun_mk (st := s_number_of) l14 c14 k14
  have b14 := Fu14.binds (ps := ["word"]) fun _ _ _ _ _ _ us hl => match us, hl with | [_], _ => rfl
  have Fu15 := fun_mk (st := s_row_of) l15 c15 k15
  have b15 := Fu15.binds (ps := ["line", "width"]) fun _ _ _ _ _ _ us hl => match us, hl with | [_, _], _ => rfl
  have Fu16 := fun_mk (st := s_begins) l16 c16 k16
  have b16 := Fu16.binds (ps := ["rows", "many"]) fun _ _ _ _ _ _ us hl => match us, hl with | [_, _], _ => rfl
  have Fu17 := fun_mk (st := s_read_machine) l17 c17 k17
  have b17 := Fu17.binds (ps := ["signs"]) fun _ _ _ _ _ _ us hl => match us, hl with | [_], _ => rfl
  have Fu18 := fun_mk (st := s__law_one_of) l18 c18 k18
  have b18 := Fu18.binds (ps := ["tape", "things"]) fun _ _ _ _ _ _ us hl => match us, hl with | [_, _], _ => rfl
  have Fu19 := fun_mk (st := s__law_plan_text) l19 c19 k19
  have b19 := Fu19.binds (ps := ["plan"]) fun _ _ _ _ _ _ us hl => match us, hl with | [_], _ => rfl
  have Fu20 := fun_mk (st := s_Machine_eq) l20 c20 k20
  have b20 := Fu20.binds (ps := ["self", "other"]) fun _ _ _ _ _ _ us hl => match us, hl with | [_, _], _ => rfl
  have Fu21 := fun_mk (st := s__law_shuffled) l21 c21 k21
  have b21 := Fu21.binds (ps := ["tape", "things"]) fun _ _ _ _ _ _ us hl => match us, hl with | [_, _], _ => rfl
  have Fu22 := fun_mk (st := s_law) l22 c22 k22
  have oc_Machine : ObC K "Machine" C_Machine := obC_of u0_Machine u1_Machine u2_Machine u3_Machine u4_Machine u5_Machine u6_Machine u7_Machine u8_Machine ua_Machine ub_Machine uc_Machine ud_Machine ue_Machine uf_Machine
  have do_Machine : DefO K mg "Machine" := ⟨C_Machine, oc_Machine, PySem.W.mg_of X G u0_Machine⟩
  have di_Machine : DefI K mg "Machine" := ⟨C_Machine, oc_Machine, PySem.W.mg_of X G u0_Machine, usOf u2_Machine us_Machine⟩
  have na_Machine_ends : NoA K "Machine" "ends" := noA_of oc_Machine uj_Machine_ends
  have na_Machine_lines : NoA K "Machine" "lines" := noA_of oc_Machine uj_Machine_lines
  have na_Machine_signs : NoA K "Machine" "signs" := noA_of oc_Machine uj_Machine_signs
  refine ⟨PySem.W.fnOf "law" "law" (defArgs s_law) (defBody s_law) (defScope s_law) .none kV22 dc22 pm22 an22 cd22 ct22, fun s v => .of_eq rfl, fun base _ _ => ?_⟩
  have d_Machine_rows : DefP l.prog w K mg base "Machine" "rows" 1 F_Machine_rows := ⟨_, _, _, _, _, oc_Machine, ⟨a1, g1, t1, ⟨_, r1⟩⟩, fn_Machine_rows Fu1 na_Machine_lines m_list, b1⟩
  have d_Machine_letters : DefP l.prog w K mg base "Machine" "letters" 1 F_Machine_letters := ⟨_, _, _, _, _, oc_Machine, ⟨a2, g2, t2, ⟨_, r2⟩⟩, fn_Machine_letters Fu2 na_Machine_signs, b2⟩
  have d_Machine_lets : DefP l.prog w K mg base "Machine" "lets" 1 F_Machine_lets := ⟨_, _, _, _, _, oc_Machine, ⟨a3, g3, t3, ⟨_, r3⟩⟩, fn_Machine_lets Fu3 na_Machine_ends m_list, b3⟩
  have d_format_machine : DefF l.prog w K mg base "format_machine" 3 1 F_format_machine := ⟨_, _, _, fn_format_machine Fu4 d_Machine_rows d_Machine_letters d_Machine_lets m_enumerate m_str m_HEAD m_TAIL, PySem.W.mg_of X G a4, Fu4.kp, b4⟩
  have d__law_pick : DefT l.prog w K mg base "_law_pick" 1 1 F__law_pick := ⟨_, _, _, fn__law_pick Fu5 m_int, PySem.W.mg_of X G a5, Fu5.kp, b5⟩
  have d__law_drawn_machine : DefT l.prog w K mg base "_law_drawn_machine" 2 2 F__law_drawn_machine := ⟨_, _, _, fn__law_drawn_machine Fu6 d__law_pick m_enumerate m_list m_max m_range m_sorted m_tuple, PySem.W.mg_of X G a6, Fu6.kp, b6⟩
  have d_is_text : DefF l.prog w K mg base "is_text" 1 1 F_is_text := ⟨_, _, _, fn_is_text Fu7 m_isinstance m_str m_ALPHABET, PySem.W.mg_of X G a7, Fu7.kp, b7⟩
  have d_is_letters : DefF l.prog w K mg base "is_letters" 2 1 F_is_letters := ⟨_, _, _, fn_is_letters Fu8 d_is_text m_zip, PySem.W.mg_of X G a8, Fu8.kp, b8⟩
  have d_must_be_letters : DefF l.prog w K mg base "must_be_letters" 3 1 F_must_be_letters := ⟨_, _, _, fn_must_be_letters Fu9 d_is_letters, PySem.W.mg_of X G a9, Fu9.kp, b9⟩
  have d_is_count : DefF l.prog w K mg base "is_count" 1 1 F_is_count := ⟨_, _, _, fn_is_count Fu10 m_bool m_int m_isinstance, PySem.W.mg_of X G a10, Fu10.kp, b10⟩
  have d_are_rows : DefF l.prog w K mg base "are_rows" 2 2 F_are_rows := ⟨_, _, _, fn_are_rows Fu11 d_is_count m_isinstance m_len m_list m_tuple, PySem.W.mg_of X G a11, Fu11.kp, b11⟩
  have d_are_lets : DefF l.prog w K mg base "are_lets" 2 2 F_are_lets := ⟨_, _, _, fn_are_lets Fu12 d_is_count m_isinstance m_len m_list m_set, PySem.W.mg_of X G a12, Fu12.kp, b12⟩
  have d_Machine : DefC l.prog w K mg base "Machine" 4 3 F_Machine_init_v2 := ⟨_, _, _, _, oc_Machine, ⟨ug_Machine, a13, i13, uh_Machine⟩, fn_Machine_init Fu13 d_must_be_letters d_are_rows d_are_lets na_Machine_ends na_Machine_lines na_Machine_signs m_len m_sorted m_tuple, PySem.W.mg_of X G u0_Machine, b13⟩
  have d_number_of : DefF l.prog w K mg base "number_of" 1 1 F_number_of_v3 := ⟨_, _, _, fn_number_of Fu14 m_int m_DIGITS, PySem.W.mg_of X G a14, Fu14.kp, b14⟩
  have d_row_of : DefF l.prog w K mg base "row_of" 2 2 F_row_of := ⟨_, _, _, fn_row_of Fu15 d_number_of m_len m_tuple m_TAIL, PySem.W.mg_of X G a15, Fu15.kp, b15⟩
  have d_begins : DefF l.prog w K mg base "begins" 1 2 F_begins := ⟨_, _, _, fn_begins Fu16 , PySem.W.mg_of X G a16, Fu16.kp, b16⟩
  have d_read_machine : DefF l.prog w K mg base "read_machine" 6 1 F_read_machine := ⟨_, _, _, fn_read_machine Fu17 d_is_letters d_row_of d_begins d_Machine m_enumerate m_isinstance m_len m_str m_HEAD, PySem.W.mg_of X G a17, Fu17.kp, b17⟩
  have d__law_one_of : DefT l.prog w K mg base "_law_one_of" 2 1 F__law_one_of := ⟨_, _, _, fn__law_one_of Fu18 d__law_pick m_len, PySem.W.mg_of X G a18, Fu18.kp, b18⟩
  have d__law_plan_text : DefF l.prog w K mg base "_law_plan_text" 1 1 F__law_plan_text := ⟨_, _, _, fn__law_plan_text Fu19 m_enumerate m_str, PySem.W.mg_of X G a19, Fu19.kp, b19⟩
  have d_Machine_eq : DefM l.prog w K mg base "Machine" "__eq__" 1 2 F_Machine_eq := ⟨_, _, _, _, oc_Machine, ⟨a20, i20, k20⟩, fn_Machine_eq Fu20 na_Machine_ends na_Machine_lines na_Machine_signs di_Machine m_isinstance, b20⟩
  have d__law_shuffled : DefT l.prog w K mg base "_law_shuffled" 2 1 F__law_shuffled := ⟨_, _, _, fn__law_shuffled Fu21 d__law_pick m_len m_list, PySem.W.mg_of X G a21, Fu21.kp, b21⟩
  have dk_format_machine_machine : DefK l.prog w K mg base "format_machine" 3 1 ["machine"] [0] F_format_machine := ⟨⟨_, _, _, fn_format_machine Fu4 d_Machine_rows d_Machine_letters d_Machine_lets m_enumerate m_str m_HEAD m_TAIL, PySem.W.mg_of X G a4, Fu4.kp, QL.Fun.kb Fu4 fun _ _ _ _ _ _ ws hl => match ws, hl with | [_], _ => rfl⟩, by decide⟩
  have dk_read_machine_signs : DefK l.prog w K mg base "read_machine" 6 1 ["signs"] [0] F_read_machine := ⟨⟨_, _, _, fn_read_machine Fu17 d_is_letters d_row_of d_begins d_Machine m_enumerate m_isinstance m_len m_str m_HEAD, PySem.W.mg_of X G a17, Fu17.kp, QL.Fun.kb Fu17 fun _ _ _ _ _ _ ws hl => match ws, hl with | [_], _ => rfl⟩, by decide⟩
  exact fn_law Fu22 (fn__law_tape Fu0 m_int m_len) (PySem.W.mg_of X G a0) Fu0.kp b0 d_format_machine d__law_pick d__law_drawn_machine d_read_machine d__law_one_of d__law_plan_text d__law_shuffled dk_format_machine_machine dk_read_machine_signs d_Machine d_Machine_eq d_Machine_rows d_Machine_letters d_Machine_lets m_len m_list m_max m_min m_range m_sorted okL
end K57
namespace QM
open PySem PySem.Spec L2 QL QP
abbrev XPo := Str → List (Str × D) → S → Prop
abbrev XN : XPo := fun _ _ _ => False
def wE {α : Type} (x : Res α) (P : α → S → Prop) (X : XPo) : Prop := match x with
  | .ok a s => P a s
  | .exc c f s => X c f s
  | .bad => False
structure Po where
  nx : S → Prop
  rt : SV → S → Prop
  bk : S → Prop
  ct : S → Prop
  ex : XPo
/-- .. with another wish for the next statement; within a loop -/
def Po.wn (p : Po) (f : S → Prop) : Po := { p with nx := f }
def Po.lp (p : Po) (q : S → Prop) : Po := ⟨q, p.rt, p.nx, q, p.ex⟩
def wS (x : RS) (p : Po) : Prop := match x with
  | .nx s => p.nx s
  | .bk s => p.bk s
  | .ct s => p.ct s
  | .rt v s => p.rt v s
  | .exc c f s => p.ex c f s
  | .bad => False
/-- an operation's answer -/
def wO (z : Option OV) (r : S) (P : SV → S → Prop) : Prop := ∃ z', z = some z' ∧ P (ovS z') r
/-- a target's -/
def wSm (i : Int) (P : Prop) : Prop := sml i = true ∧ P
def wRg (i j : Int) (P : Prop) : Prop := rgOk i j = true ∧ P
def wG (z : Option S) (P : S → Prop) : Prop := ∃ r, z = some r ∧ P r
/-- a branch -/
def wB (b : Bool) (A B : Prop) : Prop := (b = true → A) ∧ (b = false → B)
/-- a value as data, as a bool, as an int .. -/
def wV (x : SV) (P : D → Prop) : Prop := ∃ d, x.view = some d ∧ P d
def wBo (d : D) (P : Bool → Prop) : Prop := ∃ b, d = .bool b ∧ P b
def wIn (d : D) (P : Int → Prop) : Prop := ∃ b, d = .int b ∧ P b
def wIt (d : D) (P : List D → Prop) : Prop := ∃ ds, itemsD d = some ds ∧ P ds
/-- a slot -/
def wL (sl : List (Option SV)) (i : Nat) (P : SV → Prop) : Prop := ∃ x, sl[i]? = some (some x) ∧ P x
def wRS (sl : List (Option SV)) (tp : Option (Int × Int)) (P : S → Prop) : Prop := P ⟨sl, tp⟩
def wRT (r : S) (t : Int × Int) (P : S → Prop) : Prop := P ⟨r.sl, some t⟩
def wU (sl : List (Option SV)) (i : Nat) (x : Option SV) (P : List (Option SV) → Prop) : Prop := i < sl.length ∧ P (sl.set i x)
/-- a def's answer -/
def wF (x : FR) (P : SV → Prop) (X : Str → List (Str × D) → Prop) : Prop := match x with
  | .ok v _ => v.out = true ∧ P v
  | .exc c f _ => X c f
  | .bad => False
def wFT (x : FR) (P : SV → Int × Int → Prop) (X : Str → List (Str × D) → Int × Int → Prop) : Prop := match x with
  | .ok v (some t) => v.out = true ∧ P v t
  | .exc c f (some t) => X c f t
  | _ => False
/-- a def that answers v -/
def Ret (x : FR) (v : SV) : Prop := ∃ tp, x = .ok v tp ∧ v.out = true
class Step (g : Prop) (s : outParam Prop) : Prop where
  go : s → g
section
variable {α β : Type} {P : α → S → Prop} {Q : β → S → Prop} {X : XPo} {r : S} {p : Po}
theorem wE_mono {x : Res α} {P' : α → S → Prop} (h : wE x P X) (hp : ∀ a s, P a s → P' a s) : wE x P' X := by
  cases x with
  | ok a s => exact hp a s h
  | exc c f s => exact h
  | bad => exact h
theorem wE_bind {x : Res α} {k : α → S → Res β} (h : wE x (fun a s => wE (k a s) Q X) X) : wE (x.bind k) Q X := by cases x <;> exact h
theorem wE_bindS {x : Res α} {k : α → S → RS} (h : wE x (fun a s => wS (k a s) p) p.ex) : wS (x.bindS k) p := by cases x <;> exact h
theorem wS_go {x : RS} {k : S → RS} (h : wS x (p.wn fun s => wS (k s) p)) : wS (x.go k) p := by cases x <;> exact h
theorem wS_mono {x : RS} {q : Po} (h : wS x p) (h1 : ∀ s, p.nx s → q.nx s) (h2 : ∀ v s, p.rt v s → q.rt v s) (h3 : ∀ s, p.bk s → q.bk s) (h4 : ∀ s, p.ct s → q.ct s) (h5 : ∀ c f s, p.ex c f s → q.ex c f s) : wS x q := by
  cases x with
  | nx s => exact h1 s h
  | bk s => exact h3 s h
  | ct s => exact h4 s h
  | rt v s => exact h2 v s h
  | exc c f s => exact h5 c f s h
  | bad => exact h
theorem wFT_mono {x : FR} {P P' : SV → Int × Int → Prop} {X X' : Str → List (Str × D) → Int × Int → Prop} (h : wFT x P X) (hp : ∀ v t, P v t → P' v t) (hx : ∀ c f t, X c f t → X' c f t) : wFT x P' X' := by
  cases x with
  | ok v t => cases t with
    | none => exact h
    | some t => exact ⟨h.1, hp v t h.2⟩
  | exc c f t => cases t with
    | none => exact h
    | some t => exact hx c f t h
  | bad => exact h
theorem wFT_use {x : FR} {P P' : SV → Int × Int → Prop} {X : Str → List (Str × D) → Int × Int → Prop} (h : wFT x P (fun _ _ _ => False)) (hp : ∀ v t, P v t → P' v t) : wFT x P' X := wFT_mono h hp fun _ _ _ z => z.elim
theorem wF_ret {x : FR} {v : SV} {P : SV → Prop} {X : Str → List (Str × D) → Prop} (h : Ret x v) (hp : P v) : wF x P X := by
  obtain ⟨tp, e, o⟩ := h
  rw [e]; exact ⟨o, hp⟩
theorem Ret.of_w {x : FR} {v : SV} (h : wF x (fun y => y = v) (fun _ _ => False)) : Ret x v := by
  cases x with
  | ok y t => obtain ⟨a, b⟩ := h; subst b; exact ⟨t, rfl, a⟩
  | exc c f t => exact h.elim
  | bad => exact h.elim
theorem Ret.of_eq {x : FR} {v : SV} {tp} (h : x = .ok v tp) (o : v.out = true := by rfl) : Ret x v := ⟨tp, h, o⟩
end
section
variable {P : SV → S → Prop} {PD : D → S → Prop} {PL : List D → S → Prop} {PS : List SV → S → Prop} {PB : Bool → S → Prop} {PO : Option Int → S → Prop} {X : XPo} {r : S} {p : Po} {fa fb fc : S → Res D} {F G : S → Res SV} {FL : S → Res (List D)} {FS : S → Res (List SV)} {T U V : S → Res Bool} {A B C : S → RS}
  {op op2 : D → D → Option OV} {o1 : D → Option OV} {ob : List D → Option OV} {om : D → List D → Option OV} {d e : D} {x : SV} {i j l n : Nat} {sl : List (Option SV)} {tp : Option (Int × Int)} {ds : List D} {fl fh : S → Res (Option Int)}
instance (priority := low) : Step (wE (fC d r) PD X) (PD d r) := ⟨id⟩
theorem wV_asD {α : Type} {Q : α → S → Prop} {k : D → S → Res α} (h : wV x fun d => wE (k d r) Q X) : wE (asD x r k) Q X := by
  obtain ⟨d, e, h⟩ := h
  unfold asD
  rw [e]; exact h
instance : Step (wE (fD F r) PD X) (wE (F r) (fun x r => wV x fun d => PD d r) X) := ⟨fun h => wE_bind (wE_mono h fun _ _ h => wV_asD h)⟩
instance : Step (wE (eD fa r) P X) (wE (fa r) (fun d r => P (.fz d) r) X) := ⟨fun h => wE_bind h⟩
instance : Step (wE (gV i ⟨sl, tp⟩) PD X) (wL sl i fun x => wV x fun d => PD d ⟨sl, tp⟩) := ⟨fun ⟨x, e, d, e2, h⟩ => by
  show wE (match sl[i]? with | some (some x) => asD x ⟨sl, tp⟩ fun d r => Res.ok d r | _ => .bad) PD X
  rw [e]; exact wV_asD ⟨d, e2, h⟩⟩
/-- a slot taken: frozen from now on -/
def wT (x : SV) (sl : List (Option SV)) (i : Nat) (P : D → List (Option SV) → Prop) : Prop := ∃ d, x.view = some d ∧ P d (sl.set i (some (.fz d)))
instance (priority := low) : Step (wE (fV i ⟨sl, tp⟩) PD X) (wL sl i fun x => wT x sl i fun d sl => PD d ⟨sl, tp⟩) := ⟨fun ⟨x, e, d, e2, h⟩ => by
  show wE (match sl[i]? with | some (some x) => asD x ⟨sl, tp⟩ fun d r => Res.ok d { r with sl := r.sl.set i (some (.fz d)) } | _ => .bad) PD X
  rw [e]; exact wV_asD ⟨d, e2, h⟩⟩
theorem wO_ov {z : Option OV} (h : wO z r P) : wE (ovR z r) P X := by
  obtain ⟨z', e, h⟩ := h
  rw [e]; exact h
instance : Step (wE (fOp op fa fb r) P X) (wE (fa r) (fun x r => wE (fb r) (fun y r => wO (op x y) r P) X) X) := ⟨fun h => wE_bind (wE_mono h fun _ _ h => wE_bind (wE_mono h fun _ _ h => wO_ov h))⟩
instance : Step (wE (fOp1 o1 fa r) P X) (wE (fa r) (fun x r => wO (o1 x) r P) X) := ⟨fun h => wE_bind (wE_mono h fun _ _ h => wO_ov h)⟩
instance : Step (wE (fCB ob FL r) P X) (wE (FL r) (fun x r => wO (ob x) r P) X) := ⟨fun h => wE_bind (wE_mono h fun _ _ h => wO_ov h)⟩
def wSt (d : D) (P : Str → Prop) : Prop := ∃ z, d = .str z ∧ P z
instance : Step (wE (fMt om fa FL r) P X) (wE (fa r) (fun x r => wSt x fun z => wE (FL r) (fun ds r => wO (om (.str z) ds) r P) X) X) := ⟨fun h => wE_bind (wE_mono h fun d r h => by
  obtain ⟨z, e, h⟩ := h
  subst e
  exact wE_bind (wE_mono h fun _ _ h => wO_ov h))⟩
instance : Step (wE (fMtL om fa FL r) P X) (wE (fa r) (fun x r => ∃ z, x = .list z ∧ wE (FL r) (fun ds r => wO (om (.list z) ds) r P) X) X) := ⟨fun h => wE_bind (wE_mono h fun d r h => by
  obtain ⟨z, e, h⟩ := h
  subst e
  exact wE_bind (wE_mono h fun _ _ h => wO_ov h))⟩
instance : Step (wE (aNil r) PL X) (PL [] r) := ⟨id⟩
instance : Step (wE (aCons fa FL r) PL X) (wE (fa r) (fun d r => wE (FL r) (fun ds r => PL (d :: ds) r) X) X) := ⟨fun h => wE_bind (wE_mono h fun _ _ h => wE_bind h)⟩
instance : Step (wE (oNil r) PS X) (PS [] r) := ⟨id⟩
instance : Step (wE (oCons F FS r) PS X) (wE (F r) (fun d r => wE (FS r) (fun ds r => PS (d :: ds) r) X) X) := ⟨fun h => wE_bind (wE_mono h fun _ _ h => wE_bind h)⟩
instance : Step (wE (eLst FL r) P X) (wE (FL r) (fun ds r => ds.length ≤ sizeLine ∧ P (.ol ds) r) X) := ⟨fun h => wE_bind (wE_mono h fun ds r h => by rw [if_pos h.1]; exact h.2)⟩
instance : Step (wE (eTup FL r) P X) (wE (FL r) (fun ds r => ds.length ≤ sizeLine ∧ P (.fz (.tuple ds)) r) X) := ⟨fun h => wE_bind (wE_mono h fun ds r h => by rw [if_pos h.1]; exact h.2)⟩
instance : Step (wE (eDK r) P X) (P (.od []) r) := ⟨id⟩
instance : Step (wE (eDT r) P X) (P (.ot []) r) := ⟨id⟩
instance : Step (wE (oNon r) PO X) (PO none r) := ⟨id⟩
instance : Step (wE (oSom fa r) PO X) (wE (fa r) (fun d r => wIn d fun i => PO (some i) r) X) := ⟨fun h => wE_bind (wE_mono h fun d r h => by
  obtain ⟨z, e, h⟩ := h
  subst e; exact h)⟩
instance : Step (wE (fSl fa fl fh r) P X) (wE (fa r) (fun x r => wE (fl r) (fun l r => wE (fh r) (fun h r => wO (dSl x l h) r P) X) X) X) := ⟨fun h => wE_bind (wE_mono h fun _ _ h => wE_bind (wE_mono h fun _ _ h => wE_bind (wE_mono h fun _ _ h => wO_ov h)))⟩
instance : Step (wE (tV fa r) PB X) (wE (fa r) (fun d r => wBo d fun b => PB b r) X) := ⟨fun h => wE_bind (wE_mono h fun d r h => by
  obtain ⟨z, e, h⟩ := h
  subst e; exact h)⟩
theorem wB_if {α : Type} {Q : α → S → Prop} {b : Bool} {y z : Res α} (h : wB b (wE y Q X) (wE z Q X)) : wE (if b then y else z) Q X := by
  cases b with
  | true => exact h.1 rfl
  | false => exact h.2 rfl
instance : Step (wE (tNotF T r) PB X) (wE (T r) (fun b r => PB (!b) r) X) := ⟨fun h => wE_bind h⟩
instance : Step (wE (tAndF T U r) PB X) (wE (T r) (fun b r => wB b (wE (U r) PB X) (PB false r)) X) := ⟨fun h => wE_bind (wE_mono h fun _ _ h => wB_if h)⟩
instance : Step (wE (tOrF T U r) PB X) (wE (T r) (fun b r => wB b (PB true r) (wE (U r) PB X)) X) := ⟨fun h => wE_bind (wE_mono h fun _ _ h => wB_if h)⟩
instance : Step (wE (tYesF r) PB X) (PB true r) := ⟨id⟩
instance : Step (wE (eAndF fa G r) P X) (wE (fa r) (fun d r => wBo d fun b => wB b (wE (G r) P X) (P (.fz (.bool false)) r)) X) := ⟨fun h => wE_bind (wE_mono h fun d r h => by
  obtain ⟨z, e, h⟩ := h
  subst e
  cases z with
  | true => exact h.1 rfl
  | false => exact h.2 rfl)⟩
instance : Step (wE (eOrF fa G r) P X) (wE (fa r) (fun d r => wBo d fun b => wB b (P (.fz (.bool true)) r) (wE (G r) P X)) X) := ⟨fun h => wE_bind (wE_mono h fun d r h => by
  obtain ⟨z, e, h⟩ := h
  subst e
  cases z with
  | true => exact h.1 rfl
  | false => exact h.2 rfl)⟩
instance : Step (wE (eNotF fa r) P X) (wE (fa r) (fun d r => wBo d fun b => P (.fz (.bool (!b))) r) X) := ⟨fun h => wE_bind (wE_mono h fun d r h => by
  obtain ⟨z, e, h⟩ := h
  subst e; exact h)⟩
instance : Step (wE (eIfF T F G r) P X) (wE (T r) (fun b r => wB b (wE (F r) P X) (wE (G r) P X)) X) := ⟨fun h => wE_bind (wE_mono h fun _ _ h => wB_if h)⟩
instance : Step (wE (eIfT T U V r) PB X) (wE (T r) (fun b r => wB b (wE (U r) PB X) (wE (V r) PB X)) X) := ⟨fun h => wE_bind (wE_mono h fun _ _ h => wB_if h)⟩
instance : Step (wE (fItems fa r) PL X) (wE (fa r) (fun d r => wIt d fun ds => PL ds r) X) := ⟨fun h => wE_bind (wE_mono h fun d r h => by
  obtain ⟨z, e, h⟩ := h
  rw [e]; exact h)⟩
instance : Step (wE (fRng1 FL r) PL X) (wE (FL r) (fun ds r => ∃ j, ds = [.int j] ∧ wSm j (PL (rngL 0 j.toNat) r)) X) := ⟨fun h => wE_bind (wE_mono h fun d r h => by
  obtain ⟨j, e, h1, h⟩ := h
  subst e
  show wE (if sml j = true then Res.ok (rngL 0 j.toNat) r else Res.bad) PL X
  rw [if_pos h1]; exact h)⟩
instance : Step (wE (fRng2 FL r) PL X) (wE (FL r) (fun ds r => ∃ i j, ds = [.int i, .int j] ∧ wSm i (wSm j (PL (rngL i (j - i).toNat) r))) X) := ⟨fun h => wE_bind (wE_mono h fun d r h => by
  obtain ⟨i, j, e, h1, h2, h⟩ := h
  have h1 : sml i = true ∧ sml j = true := ⟨h1, h2⟩
  subst e
  show wE (if sml i = true ∧ sml j = true then Res.ok (rngL i (j - i).toNat) r else Res.bad) PL X
  rw [if_pos h1]; exact h)⟩
instance : Step (wE (fRng3 FL r) PL X) (wE (FL r) (fun ds r => ∃ i j c, ds = [.int i, .int j, .int c] ∧ wSm i (wSm j (c = -1 ∧ PL ((List.range (i - j).toNat).map fun k => .int (i - (k : Nat))) r))) X) := ⟨fun h => wE_bind (wE_mono h fun d r h => by
  obtain ⟨i, j, c, e, ha, hb, hc, h⟩ := h
  have h1 : sml i = true ∧ sml j = true ∧ c = -1 := ⟨ha, hb, hc⟩
  subst e
  show wE (if sml i = true ∧ sml j = true ∧ c = -1 then Res.ok ((List.range (i - j).toNat).map fun k => PyData.int (i - (k : Nat))) r else Res.bad) PL X
  rw [if_pos h1]; exact h)⟩
instance : Step (wE (fLRg1 fa r) P X) (wE (fa r) (fun d r => wIn d fun n => wRg 0 n (P (.ol (rngL 0 (n - 0).toNat)) r)) X) := ⟨fun h => wE_bind (wE_mono h fun d r h => by
  obtain ⟨n, e, h1, h⟩ := h
  subst e
  show wE (if rgOk 0 n = true then Res.ok (SV.ol (rngL 0 (n - 0).toNat)) r else Res.bad) P X
  rw [if_pos h1]; exact h)⟩
instance : Step (wE (fEnum FL r) PL X) (wE (FL r) (fun ds r => ∃ d es, ds = [d] ∧ (d = .list es ∨ ∃ z : Str, d = .str z ∧ es = z.cps.toList.map fun c => .str (tx [c])) ∧ PL (enumL es) r) X) := ⟨fun h => wE_bind (wE_mono h fun d r h => by
  obtain ⟨d, es, e, h1, h⟩ := h
  subst e
  rcases h1 with h1 | ⟨z, h1, h2⟩
  · subst h1; exact h
  · subst h1 h2; exact h)⟩
variable {a1 a3 a4 : S → Prop} {a2 : SV → S → Prop} {a5 : XPo} {f : S → Prop} {cx : Str} {fx : List (Str × D)}
instance : Step (Po.nx ⟨a1, a2, a3, a4, a5⟩ r) (a1 r) := ⟨id⟩
instance : Step (Po.rt ⟨a1, a2, a3, a4, a5⟩ x r) (a2 x r) := ⟨id⟩
instance : Step (Po.bk ⟨a1, a2, a3, a4, a5⟩ r) (a3 r) := ⟨id⟩
instance : Step (Po.ct ⟨a1, a2, a3, a4, a5⟩ r) (a4 r) := ⟨id⟩
instance : Step (Po.ex ⟨a1, a2, a3, a4, a5⟩ cx fx r) (a5 cx fx r) := ⟨id⟩
instance : Step (Po.nx (p.wn f) r) (f r) := ⟨id⟩
instance : Step (Po.rt (p.wn f) x r) (p.rt x r) := ⟨id⟩
instance : Step (Po.bk (p.wn f) r) (p.bk r) := ⟨id⟩
instance : Step (Po.ct (p.wn f) r) (p.ct r) := ⟨id⟩
instance : Step (Po.ex (p.wn f) cx fx r) (p.ex cx fx r) := ⟨id⟩
instance : Step (Po.nx (p.lp f) r) (f r) := ⟨id⟩
instance : Step (Po.rt (p.lp f) x r) (p.rt x r) := ⟨id⟩
instance : Step (Po.bk (p.lp f) r) (p.nx r) := ⟨id⟩
instance : Step (Po.ct (p.lp f) r) (f r) := ⟨id⟩
instance : Step (Po.ex (p.lp f) cx fx r) (p.ex cx fx r) := ⟨id⟩
instance : Step (wS (sSeq A B r) p) (wS (A r) (p.wn fun s => wS (B s) p)) := ⟨fun h => wS_go h⟩
instance : Step (wS (sNext r) p) (p.nx r) := ⟨id⟩
theorem wB_ifS {b : Bool} {y z : RS} (h : wB b (wS y p) (wS z p)) : wS (if b then y else z) p := by
  cases b with
  | true => exact h.1 rfl
  | false => exact h.2 rfl
instance : Step (wS (sIf T A B r) p) (wE (T r) (fun b r => wB b (wS (A r) p) (wS (B r) p)) p.ex) := ⟨fun h => wE_bindS (wE_mono h fun _ _ h => wB_ifS h)⟩
instance : Step (wS (sExp F r) p) (wE (F r) (fun _ r => p.nx r) p.ex) := ⟨fun h => wE_bindS h⟩
instance : Step (wS (sRet F r) p) (wE (F r) (fun x r => p.rt x r) p.ex) := ⟨fun h => wE_bindS h⟩
instance : Step (wS (sRetN r) p) (p.rt (.fz .none) r) := ⟨id⟩
instance : Step (wS (sRetV i ⟨sl, tp⟩) p) (wL sl i fun x => p.rt x ⟨sl.set i none, tp⟩) := ⟨fun ⟨x, e, h⟩ => by
  show wS (match sl[i]? with | some (some x) => RS.rt x ⟨sl.set i none, tp⟩ | _ => .bad) p
  rw [e]; exact h⟩
theorem wU_set (h : wU sl i (some x) fun sl => p.nx ⟨sl, tp⟩) : wS (setS i x ⟨sl, tp⟩) p := by
  show wS (if i < sl.length then RS.nx ⟨sl.set i (some x), tp⟩ else .bad) p
  rw [if_pos h.1]; exact h.2
instance : Step (wS (sAsg i F r) p) (wE (F r) (fun x r => wS (setS i x r) p) p.ex) := ⟨fun h => wE_bindS h⟩
instance : Step (wS (setS i x ⟨sl, tp⟩) p) (wU sl i (some x) fun sl => p.nx ⟨sl, tp⟩) := ⟨fun h => wU_set h⟩
instance : Step (wS (sPar2 i j FS r) p) (wE (FS r) (fun xs r => ∃ x y, xs = [x, y] ∧ wS (setS i x r) (p.wn fun r => wS (setS j y r) p)) p.ex) := ⟨fun h => wE_bindS (wE_mono h fun xs r h => by
  obtain ⟨x, y, e, h⟩ := h
  subst e
  exact wS_go h)⟩
instance : Step (wS (sPar3 i j l FS r) p) (wE (FS r) (fun xs r => ∃ x y z, xs = [x, y, z] ∧ wS (setS i x r) (p.wn fun r => wS (setS j y r) (p.wn fun r => wS (setS l z r) p))) p.ex) := ⟨fun h => wE_bindS (wE_mono h fun xs r h => by
  obtain ⟨x, y, z, e, h⟩ := h
  subst e
  exact wS_go (wS_mono h (fun s h => wS_go h) (fun _ _ h => h) (fun _ h => h) (fun _ h => h) (fun _ _ _ h => h)))⟩
def wAll : List Nat → List SV → S → (S → Prop) → Prop
  | [], [], r, P => P r
  | i :: is, x :: xs, r, P => wU r.sl i (some x) fun sl => wAll is xs ⟨sl, r.tp⟩ P
  | _, _, _, _ => False
theorem wAll_set : ∀ (is : List Nat) (xs : List SV) (r : S), wAll is xs r p.nx → wS (setAll is xs r) p
  | [], [], r, h => h
  | i :: is, x :: xs, r, h => wS_go (wU_set (tp := r.tp) (sl := r.sl) ⟨h.1, wAll_set is xs _ h.2⟩)
  | [], _ :: _, r, h => h.elim
  | _ :: _, [], r, h => h.elim
instance {is : List Nat} : Step (wS (sParN is FS r) p) (wE (FS r) (fun xs r => xs.length = is.length ∧ wAll is xs r p.nx) p.ex) := ⟨fun h => wE_bindS (wE_mono h fun xs r h => by
  rw [if_pos h.1]; exact wAll_set is xs r h.2)⟩
instance : Step (wS (sUnp fa G' r) p) (wE (fa r) (fun d r => wG (G' d r) p.nx) p.ex) := ⟨fun h => wE_bindS (wE_mono h fun d r h => by
  obtain ⟨r', e, h⟩ := h
  rw [e]; exact h)⟩
/-- what a list in a slot gets -/
def wA (x : SV) (P : List D → Prop) : Prop := ∃ xs, x = .ol xs ∧ P xs
instance : Step (wS (sApp i fa ⟨sl, tp⟩) p) (wL sl i fun x => wA x fun _ => wE (fa ⟨sl, tp⟩) (fun d r => wL r.sl i fun x => wA x fun xs => xs.length < sizeLine ∧ wU r.sl i (some (.ol (xs ++ [d]))) fun sl => wRS sl r.tp p.nx) p.ex) := ⟨fun ⟨x, e, xs, e2, h⟩ => by
  show wS (match sl[i]? with
    | some (some (.ol _)) => (fa ⟨sl, tp⟩).bindS fun d r => match r.sl[i]? with
      | some (some (.ol xs)) => if xs.length < sizeLine then RS.nx { r with sl := r.sl.set i (some (.ol (xs ++ [d]))) } else RS.bad
      | _ => RS.bad
    | _ => .bad) p
  subst e2
  rw [e]
  refine wE_bindS (wE_mono h fun d r h => ?_)
  obtain ⟨y, e3, ys, e4, h1, h⟩ := h
  subst e4
  rw [e3]
  dsimp only
  rw [if_pos h1]; exact h.2⟩
instance {f : Int → Int → Int} : Step (wS (sAug i f fa ⟨sl, tp⟩) p) (wL sl i fun x => ∃ a, x = .fz (.int a) ∧ wE (fa ⟨sl, tp⟩) (fun d r => wIn d fun b => wS (setS i (.fz (.int (f a b))) r) p) p.ex) := ⟨fun ⟨x, e, a, e2, h⟩ => by
  show wS (match sl[i]? with
    | some (some (.fz (.int a))) => (fa ⟨sl, tp⟩).bindS fun d r => match d with
      | .int b => setS i (.fz (.int (f a b))) r
      | _ => RS.bad
    | _ => RS.bad) p
  subst e2
  rw [e]
  refine wE_bindS (wE_mono h fun d r h => ?_)
  obtain ⟨b, e3, h⟩ := h
  subst e3
  exact h⟩
instance : Step (wS (RS.nx r) p) (p.nx r) := ⟨id⟩
instance : Step (wS (RS.ct r) p) (p.ct r) := ⟨id⟩
instance : Step (wS (RS.bk r) p) (p.bk r) := ⟨id⟩
instance {I : S → Res (List D)} {Gf : D → S → Option S} : Step (wS (sFor I Gf B r) p) (wE (I r) (fun ds r => wS (forF Gf B ds r) p) p.ex) := ⟨fun h => wE_bindS h⟩
theorem wF_out {x : FR} (h : wF x (fun v => P v r) (fun c f => X c f r)) : wE (outR x r) P X := by
  cases x with
  | ok v t =>
    unfold outR
    dsimp only
    rw [if_pos h.1]; exact h.2
  | exc c f t => exact h
  | bad => exact h
instance {FD : List D → FR} : Step (wE (fCall n FD FL r) P X) (wE (FL r) (fun ds r => ds.length = n ∧ wF (FD ds) (fun v => P v r) (fun c f => X c f r)) X) := ⟨fun h => wE_bind (wE_mono h fun ds r h => by
  rw [if_pos h.1]; exact wF_out h.2)⟩
theorem wFT_out {x : FR} (h : wFT x (fun v t => P v { r with tp := some t }) (fun c f t => X c f { r with tp := some t })) : wE (outT x r) P X := by
  cases x with
  | ok v t => cases t with
    | none => exact h
    | some t =>
      unfold outT
      dsimp only
      rw [if_pos h.1]; exact h.2
  | exc c f t => cases t with
    | none => exact h
    | some t => exact h
  | bad => exact h
instance {FD : Int × Int → List D → FR} : Step (wE (fCallT i n FD FL ⟨sl, tp⟩) P X) (wL sl i fun x => x = .tape ∧ wE (FL ⟨sl, tp⟩) (fun ds r => ds.length = n ∧ ∃ t, r.tp = some t ∧ wFT (FD t ds) (fun v t => wRT r t fun r => P v r) (fun c f t => wRT r t fun r => X c f r)) X) := ⟨fun ⟨x, e, e2, h⟩ => by
  show wE (match sl[i]? with
  | some (some .tape) => (FL ⟨sl, tp⟩).bind fun ds r => match r.tp with
    | some t => if ds.length = n then outT (FD t ds) r else .bad
    | none => .bad
  | _ => .bad) P X
  subst e2
  rw [e]
  refine wE_bind (wE_mono h fun ds r h => ?_)
  obtain ⟨h1, t, e3, h⟩ := h
  rw [e3]
  dsimp only
  rw [if_pos h1]
  exact wFT_out h⟩
theorem wF_body {PF : SV → Prop} {XF : Str → List (Str × D) → Prop} (h : wS (B (mkS n (ds.map .fz) none)) ⟨fun _ => PF (.fz .none), fun x _ => x.out = true ∧ PF x, fun _ => False, fun _ => False, fun c f _ => XF c f⟩) : wF (bodyF n B ds) PF XF := by
  unfold bodyF
  cases e : B (mkS n (ds.map .fz) none) with
  | nx r => rw [e] at h; exact ⟨rfl, h⟩
  | bk r => rw [e] at h; exact h
  | ct r => rw [e] at h; exact h
  | rt v r =>
    rw [e] at h
    unfold outF
    dsimp only
    rw [if_pos h.1]; exact h
  | exc c f r => rw [e] at h; exact h
  | bad => rw [e] at h; exact h
theorem wFT_body {t : Int × Int} {PF : SV → Int × Int → Prop} {XF : Str → List (Str × D) → Int × Int → Prop} (h : wS (B (mkS n (.tape :: ds.map .fz) (some t))) ⟨fun r => ∃ t, r.tp = some t ∧ PF (.fz .none) t, fun x r => x.out = true ∧ ∃ t, r.tp = some t ∧ PF x t, fun _ => False, fun _ => False, fun c f r => ∃ t, r.tp = some t ∧ XF c f t⟩) : wFT (bodyT n B t ds) PF XF := by
  unfold bodyT
  cases e : B (mkS n (.tape :: ds.map .fz) (some t)) with
  | nx r =>
    rw [e] at h
    obtain ⟨t, e2, h⟩ := h
    unfold outF
    dsimp only
    rw [e2]; exact ⟨rfl, h⟩
  | bk r => rw [e] at h; exact h
  | ct r => rw [e] at h; exact h
  | rt v r =>
    rw [e] at h
    obtain ⟨h1, t, e2, h⟩ := h
    unfold outF
    dsimp only
    rw [if_pos h1, e2]; exact ⟨h1, h⟩
  | exc c f r =>
    rw [e] at h
    obtain ⟨t, e2, h⟩ := h
    unfold outF
    dsimp only
    rw [e2]; exact h
  | bad => rw [e] at h; exact h
end
end QM
namespace QM
open PySem PySem.Spec L2 QL QP
class Get (l : List (Option SV)) (i : Nat) (x : outParam (Option SV)) : Prop where
  eq : l[i]? = some x
instance {a : Option SV} {l : List (Option SV)} : Get (a :: l) 0 a := ⟨rfl⟩
instance {a x : Option SV} {l : List (Option SV)} {i : Nat} [h : Get l i x] : Get (a :: l) (i + 1) x := ⟨by simpa using h.eq⟩
class SetL (l : List (Option SV)) (i : Nat) (x : Option SV) (l' : outParam (List (Option SV))) : Prop where
  lt : i < l.length
  eq : l.set i x = l'
instance {a x : Option SV} {l : List (Option SV)} : SetL (a :: l) 0 x (x :: l) := ⟨by simp, rfl⟩
instance {a x : Option SV} {l l' : List (Option SV)} {i : Nat} [h : SetL l i x l'] : SetL (a :: l) (i + 1) x (a :: l') := ⟨by simpa using h.lt, by rw [List.set_cons_succ, h.eq]⟩
class OfS (s : String) (l : outParam (List Nat)) : Prop where
  eq : Str.ofString s = tx l
section
variable {P : SV → S → Prop} {PD : D → S → Prop} {X : XPo} {r : S} {d e : D} {x y : SV} {i j n : Nat} {a b : Int} {u v : Bool} {l m : List Nat} {sl sl' : List (Option SV)} {tp : Option (Int × Int)} {ds es : List D} {A B : Prop}
instance {Q : SV → Prop} [h : Get sl i (some x)] : Step (wL sl i Q) (Q x) := ⟨fun q => ⟨x, h.eq, q⟩⟩
instance {Q : List (Option SV) → Prop} {z : Option SV} [h : SetL sl i z sl'] : Step (wU sl i z Q) (Q sl') := ⟨fun q => ⟨h.lt, by rw [h.eq]; exact q⟩⟩
theorem set_same {l : List (Option SV)} {i : Nat} {x : Option SV} (h : l[i]? = some x) : l.set i x = l := by
  obtain ⟨hi, e⟩ := List.getElem?_eq_some_iff.mp h
  rw [← e, List.set_getElem_self]
theorem w_fV (h : sl[i]? = some (some x)) (hv : x.view = some d) (q : PD d ⟨sl.set i (some (.fz d)), tp⟩) : wE (fV i ⟨sl, tp⟩) PD X := by
  show wE (match sl[i]? with | some (some x) => asD x ⟨sl, tp⟩ fun d r => Res.ok d { r with sl := r.sl.set i (some (.fz d)) } | _ => .bad) PD X
  rw [h]; exact wV_asD ⟨d, hv, q⟩
instance [h : Get sl i (some (.fz d))] : Step (wE (fV i ⟨sl, tp⟩) PD X) (PD d ⟨sl, tp⟩) := ⟨fun q => w_fV h.eq rfl (by rw [set_same h.eq]; exact q)⟩
instance [h : Get sl i (some (.ol ds))] [h2 : SetL sl i (some (.fz (.list ds))) sl'] : Step (wE (fV i ⟨sl, tp⟩) PD X) (PD (.list ds) ⟨sl', tp⟩) := ⟨fun q => w_fV h.eq rfl (by rw [h2.eq]; exact q)⟩
instance {kvs : List (D × D)} [h : Get sl i (some (.od kvs))] [h2 : SetL sl i (some (.fz (.dict kvs))) sl'] : Step (wE (fV i ⟨sl, tp⟩) PD X) (PD (.dict kvs) ⟨sl', tp⟩) := ⟨fun q => w_fV h.eq rfl (by rw [h2.eq]; exact q)⟩
instance {s : String} [h : OfS s l] : Step (wE (fC (.str (Str.ofString s)) r) PD X) (PD (.str (tx l)) r) := ⟨fun q => by rw [h.eq]; exact q⟩
instance {Q : D → Prop} : Step (wV (.fz d) Q) (Q d) := ⟨fun q => ⟨_, rfl, q⟩⟩
instance {Q : D → Prop} : Step (wV (.ol ds) Q) (Q (.list ds)) := ⟨fun q => ⟨_, rfl, q⟩⟩
instance {Q : D → Prop} {kvs : List (D × D)} : Step (wV (.od kvs) Q) (Q (.dict kvs)) := ⟨fun q => ⟨_, rfl, q⟩⟩
instance {Q : D → Prop} {kvs : List (D × D)} : Step (wV (.ot kvs) Q) (Q (.dict kvs)) := ⟨fun q => ⟨_, rfl, q⟩⟩
instance {Q : List D → Prop} : Step (wA (.ol ds) Q) (Q ds) := ⟨fun q => ⟨_, rfl, q⟩⟩
instance {Q : Bool → Prop} : Step (wBo (.bool u) Q) (Q u) := ⟨fun q => ⟨_, rfl, q⟩⟩
instance {Q : Int → Prop} : Step (wIn (.int a) Q) (Q a) := ⟨fun q => ⟨_, rfl, q⟩⟩
instance {Q : Str → Prop} {z : Str} : Step (wSt (.str z) Q) (Q z) := ⟨fun q => ⟨_, rfl, q⟩⟩
instance {Q : List D → Prop} : Step (wIt (.list ds) Q) (Q ds) := ⟨fun q => ⟨_, rfl, q⟩⟩
instance {Q : List D → Prop} : Step (wIt (.tuple ds) Q) (Q ds) := ⟨fun q => ⟨_, rfl, q⟩⟩
instance {Q : S → Prop} : Step (wRS sl tp Q) (Q ⟨sl, tp⟩) := ⟨id⟩
instance {Q : S → Prop} : Step (wRS sl (S.tp ⟨sl', tp⟩) Q) (Q ⟨sl, tp⟩) := ⟨id⟩
instance {Q : S → Prop} {t : Int × Int} : Step (wRT ⟨sl, tp⟩ t Q) (Q ⟨sl, some t⟩) := ⟨id⟩
instance {Q : SV → Prop} [h : Get sl i (some x)] : Step (wL (S.sl ⟨sl, tp⟩) i Q) (Q x) := ⟨fun q => ⟨x, h.eq, q⟩⟩
instance {Q : List (Option SV) → Prop} {z : Option SV} [h : SetL sl i z sl'] : Step (wU (S.sl ⟨sl, tp⟩) i z Q) (Q sl') := ⟨fun q => ⟨h.lt, by show Q (sl.set i z); rw [h.eq]; exact q⟩⟩
def ltrs (l : List Nat) : List D := l.map fun c => .str (tx [c])
instance {Q : List D → Prop} : Step (wIt (.str (tx l)) Q) (Q (ltrs l)) := ⟨fun q => ⟨_, rfl, q⟩⟩
instance : Step (wB true A B) A := ⟨fun q => ⟨fun _ => q, fun h => absurd h (by decide)⟩⟩
instance : Step (wB false A B) B := ⟨fun q => ⟨fun h => absurd h (by decide), fun _ => q⟩⟩
instance : Step (wB (id u) A B) (wB u A B) := ⟨id⟩
instance : Step (wB (!u) A B) (wB u B A) := ⟨fun q => ⟨fun h => q.2 (by simpa using h), fun h => q.1 (by simpa using h)⟩⟩
theorem wB_t {b : Bool} (h : b = true) (q : A) : wB b A B := ⟨fun _ => q, fun z => by rw [h] at z; cases z⟩
theorem wB_f {b : Bool} (h : b = false) (q : B) : wB b A B := ⟨fun z => absurd (h.symm.trans z) (by decide), fun _ => q⟩
theorem wB_d {p : Prop} [Decidable p] (h1 : p → A) (h2 : ¬ p → B) : wB (decide p) A B := ⟨fun h => h1 (of_decide_eq_true h), fun h => h2 (of_decide_eq_false h)⟩
instance {Q : S → Prop} [h : SetL sl i (some (.fz d)) sl'] : Step (wG (gNm i d ⟨sl, tp⟩) Q) (Q ⟨sl', tp⟩) := ⟨fun q => ⟨⟨sl', tp⟩, by
  show (if i < sl.length then some (⟨sl.set i (some (.fz d)), tp⟩ : S) else none) = _
  rw [if_pos h.lt, h.eq], q⟩⟩
instance {Q : S → Prop} : Step (wG (gNilF [] r) Q) (Q r) := ⟨fun q => ⟨r, rfl, q⟩⟩
instance {Q : S → Prop} {G : D → S → Option S} {Gs : List D → S → Option S} : Step (wG (gConsF G Gs (d :: ds) r) Q) (wG (G d r) fun r => wG (Gs ds r) Q) := ⟨fun ⟨r1, e1, r2, e2, q⟩ => ⟨r2, by
  unfold gConsF
  dsimp only
  rw [e1]; exact e2, q⟩⟩
instance {Q : S → Prop} {Gs : List D → S → Option S} : Step (wG (gTupF n Gs (.tuple ds) r) Q) (ds.length = n ∧ wG (Gs ds r) Q) := ⟨fun ⟨h, r1, e1, q⟩ => ⟨r1, by
  unfold gTupF
  dsimp only
  rw [if_pos h]; exact e1, q⟩⟩
theorem wO_of {z : Option OV} {z' : OV} (h : z = some z') (q : P (ovS z') r) : wO z r P := ⟨z', h, q⟩
instance : Step (wO (dAdd (.int a) (.int b)) r P) (P (.fz (.int (a + b))) r) := ⟨fun q => ⟨.fz _, rfl, q⟩⟩
instance : Step (wO (dAdd (.str (tx l)) (.str (tx m))) r P) (l.length + m.length ≤ sizeLine ∧ P (.fz (.str (tx (l ++ m)))) r) := ⟨fun q => wO_of (z' := .fz (.str (tx (l ++ m)))) (by simp [q.1]) q.2⟩
instance : Step (wO (dAdd (.list ds) (.list es)) r P) (ds.length + es.length ≤ sizeLine ∧ P (.ol (ds ++ es)) r) := ⟨fun q => wO_of (z' := .nl (ds ++ es)) (by simp [q.1]) q.2⟩
instance : Step (wO (dSub (.int a) (.int b)) r P) (P (.fz (.int (a - b))) r) := ⟨fun q => ⟨.fz _, rfl, q⟩⟩
instance : Step (wO (dMul (.int a) (.int b)) r P) (bitsI a + bitsI b ≤ 134217728 ∧ P (.fz (.int (a * b))) r) := ⟨fun q => wO_of (z' := .fz (.int (a * b))) (by simp [q.1]) q.2⟩
instance : Step (wO (dMul (.list ds) (.int b)) r P) ((ds.length * b.toNat ≤ sizeLine ∧ -(2 ^ 40) < b ∧ b < 2 ^ 40) ∧ P (.ol (List.replicate b.toNat ds).flatten) r) := ⟨fun q => wO_of (z' := .nl _) (by rw [d_mulL, if_pos q.1]) q.2⟩
instance : Step (wO (dMul (.str (tx l)) (.int b)) r P) ((l.length * b.toNat ≤ sizeLine ∧ -(2 ^ 40) < b ∧ b < 2 ^ 40) ∧ P (.fz (.str (tx (List.replicate b.toNat l).flatten))) r) := ⟨fun q => wO_of (z' := .fz (.str (tx (List.replicate b.toNat l).flatten))) (by rw [d_mulS, tx_len', if_pos q.1]; rfl) q.2⟩
instance : Step (wO (dFdiv (.int a) (.int b)) r P) ((0 < b ∧ b < 1000000000000000000000000000000) ∧ P (.fz (.int (a / b))) r) := ⟨fun q => wO_of (z' := .fz (.int (a / b))) (by rw [d_div, if_pos q.1]) q.2⟩
instance : Step (wO (dMod (.int a) (.int b)) r P) (0 < b ∧ P (.fz (.int (a % b))) r) := ⟨fun q => wO_of (z' := .fz (.int (a % b))) (by rw [d_mod, if_pos q.1]) q.2⟩
instance {fi : Int → Int → Bool} {ft : List Nat → List Nat → Bool} : Step (wO (dOrd fi ft (.int a) (.int b)) r P) (P (.fz (.bool (fi a b))) r) := ⟨fun q => ⟨.fz _, rfl, q⟩⟩
instance {fi : Int → Int → Bool} {ft : List Nat → List Nat → Bool} : Step (wO (dOrd fi ft (.str (tx l)) (.str (tx m))) r P) (P (.fz (.bool (ft l m))) r) := ⟨fun q => ⟨.fz _, rfl, q⟩⟩
instance (priority := low) {f : Bool → Bool} : Step (wO (dEqF f d e) r P) ((okD d = true ∧ okD e = true) ∧ P (.fz (.bool (f (PyData.eqv d e)))) r) := ⟨fun q => wO_of (z' := .fz (.bool (f (PyData.eqv d e)))) (by rw [d_eq, if_pos q.1]) q.2⟩
instance {f : Bool → Bool} : Step (wO (dEqF f (.int a) (.int b)) r P) (P (.fz (.bool (f (decide (a = b))))) r) := ⟨fun q => wO_of (z' := .fz (.bool (f (decide (a = b))))) (by rw [d_eq, if_pos ⟨ok_int, ok_int⟩, eqv_int]) q⟩
instance {f : Bool → Bool} : Step (wO (dEqF f (.str (tx l)) (.str (tx m))) r P) (P (.fz (.bool (f (decide (l = m))))) r) := ⟨fun q => wO_of (z' := .fz (.bool (f (decide (l = m))))) (by rw [d_eq, if_pos ⟨ok_str, ok_str⟩, eqv_str, tx_dec]) q⟩
instance {f : Bool → Bool} : Step (wO (dInF f (.str (tx l)) (.str (tx m))) r P) (P (.fz (.bool (f (strIn (tx l) (tx m))))) r) := ⟨fun q => ⟨.fz _, rfl, q⟩⟩
instance {f : Bool → Bool} : Step (wO (dInF f d (.list ds)) r P) ((okD d = true ∧ okD (.list ds) = true) ∧ P (.fz (.bool (f (ds.any fun y => PyData.eqv y d)))) r) := ⟨fun q => wO_of (z' := .fz (.bool (f (ds.any fun y => PyData.eqv y d)))) (by
  have : dInF f d (.list ds) = if okF d = true ∧ okF (.list ds) = true then some (.fz (.bool (f (ds.any fun y => eqF y d)))) else none := by cases d <;> rfl
  rw [this, okF_eq, okF_eq, if_pos q.1]
  simp only [eqF_eq]) q.2⟩
instance {f : Bool → Bool} : Step (wO (dInF f d (.tuple ds)) r P) ((okD d = true ∧ okD (.tuple ds) = true) ∧ P (.fz (.bool (f (ds.any fun y => PyData.eqv y d)))) r) := ⟨fun q => wO_of (z' := .fz (.bool (f (ds.any fun y => PyData.eqv y d)))) (by
  have : dInF f d (.tuple ds) = if okF d = true ∧ okF (.tuple ds) = true then some (.fz (.bool (f (ds.any fun y => eqF y d)))) else none := by cases d <;> rfl
  rw [this, okF_eq, okF_eq, if_pos q.1]
  simp only [eqF_eq]) q.2⟩
instance {f : Bool → Bool} : Step (wO (dIsF f d .none) r P) (P (.fz (.bool (f (isN d)))) r) := ⟨fun q => wO_of (z' := .fz (.bool (f (isN d)))) d_isN q⟩
instance {f : Bool → Bool} : Step (wO (dIsF f (.bool u) (.bool v)) r P) (P (.fz (.bool (f (decide (u = v))))) r) := ⟨fun q => ⟨.fz _, rfl, q⟩⟩
def wAt {α : Type} (xs : List α) (i : Int) (Q : α → Prop) : Prop := ∃ d, atI xs i = some d ∧ Q d
theorem wAt_r {α : Type} {xs : List α} {i : Int} {d : α} {Q : α → Prop} (h : atI xs i = some d) (q : Q d) : wAt xs i Q := ⟨d, h, q⟩
theorem at_n {α : Type} {xs : List α} {i : Nat} {d : α} (h : xs[i]? = some d) : atI xs (i : Int) = some d := atI_nat h
instance {α : Type} {x : α} {xs : List α} {Q : α → Prop} : Step (wAt (x :: xs) 0 Q) (Q x) := ⟨wAt_r (at_n (i := 0) rfl)⟩
instance {α : Type} {x y : α} {xs : List α} {Q : α → Prop} : Step (wAt (x :: y :: xs) 1 Q) (Q y) := ⟨wAt_r (at_n (i := 1) rfl)⟩
instance {α : Type} {x y z : α} {xs : List α} {Q : α → Prop} : Step (wAt (x :: y :: z :: xs) 2 Q) (Q z) := ⟨wAt_r (at_n (i := 2) rfl)⟩
instance : Step (wO (dIx (.list ds) (.int a)) r P) (wAt ds a fun d => P (.fz d) r) := ⟨fun ⟨d, h, q⟩ => wO_of (z' := .fz d) (by rw [d_ixL, h]; rfl) q⟩
instance : Step (wO (dIx (.tuple ds) (.int a)) r P) (wAt ds a fun d => P (.fz d) r) := ⟨fun ⟨d, h, q⟩ => wO_of (z' := .fz d) (by rw [d_ixT, h]; rfl) q⟩
instance : Step (wO (dIx (.str (tx l)) (.int a)) r P) (l.length ≤ sizeLine ∧ wAt l a fun c => P (.fz (.str (tx [c]))) r) := ⟨fun ⟨hl, c, h, q⟩ => wO_of (z' := .fz (.str (tx [c]))) (by
  rw [d_ixS, tx_len', if_pos hl]
  show (atI l a).map _ = _
  rw [h]; rfl) q⟩
variable {lo hi : Option Int}
instance (priority := low) : Step (wO (dSl (.list ds) lo hi) r P) (P (.ol (cutL ds lo hi)) r) := ⟨wO_of (z' := .nl _) rfl⟩
instance (priority := low) : Step (wO (dSl (.str (tx l)) lo hi) r P) (l.length ≤ sizeLine ∧ P (.fz (.str (tx (cutL l lo hi)))) r) := ⟨fun q => wO_of (z' := .fz (.str (tx (cutL l lo hi)))) (by rw [d_slS, tx_len', if_pos q.1]; rfl) q.2⟩
theorem cut_whole {α : Type} {ds : List α} (h : HT.sIx ds.length 0 lo = 0 ∧ HT.sIx ds.length ds.length hi = ds.length) : cutL ds lo hi = ds := by
  unfold cutL
  rw [h.1, h.2]; simp
instance (priority := low) : Step (wO (dSl (.tuple ds) lo hi) r P) (P (.fz (.tuple (cutL ds lo hi))) r) := ⟨fun q => by
  by_cases h : HT.sIx ds.length 0 lo = 0 ∧ HT.sIx ds.length ds.length hi = ds.length
  · refine wO_of (z' := .fz (.tuple ds)) ?_ ?_
    · unfold dSl
      dsimp only
      rw [if_pos h]
    · rw [cut_whole h] at q; exact q
  · refine wO_of (z' := .nt (cutL ds lo hi)) ?_ q
    unfold dSl
    dsimp only
    rw [if_neg h]⟩
theorem cut_tail {α : Type} (x : α) (xs : List α) : cutL (x :: xs) (some 1) none = xs := by
  unfold cutL
  have e := HT.sIx_nat (n := (x :: xs).length) (d := 0) (k := 1)
  rw [show ((1 : Nat) : Int) = 1 from rfl] at e
  rw [e, HT.sIx_none, List.length_cons, show min 1 (xs.length + 1) = 1 by omega]
  simp
instance : Step (wO (dSl (.str (tx (i :: l))) (some 1) none) r P) ((i :: l).length ≤ sizeLine ∧ P (.fz (.str (tx l))) r) := ⟨fun q => Step.go ⟨q.1, by rw [cut_tail]; exact q.2⟩⟩
instance : Step (wO (dSl (.tuple (d :: ds)) (some 1) none) r P) (P (.fz (.tuple ds)) r) := ⟨fun q => Step.go (by rw [cut_tail]; exact q)⟩
instance : Step (wO (dSl (.list (d :: ds)) (some 1) none) r P) (P (.ol ds) r) := ⟨fun q => Step.go (by rw [cut_tail]; exact q)⟩
instance : Step (wO (dRev (.list ds)) r P) (P (.ol ds.reverse) r) := ⟨wO_of (z' := .nl _) rfl⟩
instance : Step (wO (dRev (.str (tx l))) r P) (l.length ≤ sizeLine ∧ P (.fz (.str (tx l.reverse))) r) := ⟨fun q => wO_of (z' := .fz (.str (tx l.reverse))) (by rw [d_revS, tx_len', if_pos q.1]; rfl) q.2⟩
instance : Step (wO (dNeg (.int a)) r P) (P (.fz (.int (-a))) r) := ⟨fun q => ⟨.fz _, rfl, q⟩⟩
instance : Step (wO (dLen [.str (tx l)]) r P) (l.length ≤ sizeLine ∧ P (.fz (.int (l.length : Nat))) r) := ⟨fun q => wO_of (z' := .fz (.int (l.length : Nat))) (by rw [d_lenS, tx_len', if_pos q.1]) q.2⟩
instance : Step (wO (dLen [.list ds]) r P) (P (.fz (.int (ds.length : Nat))) r) := ⟨fun q => ⟨.fz _, rfl, q⟩⟩
instance : Step (wO (dLen [.tuple ds]) r P) (P (.fz (.int (ds.length : Nat))) r) := ⟨fun q => ⟨.fz _, rfl, q⟩⟩
instance : Step (wO (dInt [.int a]) r P) (P (.fz (.int a)) r) := ⟨fun q => ⟨.fz _, rfl, q⟩⟩
instance : Step (wO (dInt [.bool u]) r P) (P (.fz (.int (if u then 1 else 0))) r) := ⟨fun q => ⟨.fz _, rfl, q⟩⟩
instance : Step (wO (dMax2 [.int a, .int b]) r P) (P (.fz (.int (if b > a then b else a))) r) := ⟨fun q => ⟨.fz _, rfl, q⟩⟩
instance : Step (wO (dMin2 [.int a, .int b]) r P) (P (.fz (.int (if b < a then b else a))) r) := ⟨fun q => ⟨.fz _, rfl, q⟩⟩
instance (priority := low) {z y : Str} : Step (wO (dFind3 (.str z) [.str y, .int a]) r P) (P (.fz (.int (Txt.find3 z y a))) r) := ⟨fun q => wO_of (z' := .fz (.int (Txt.find3 z y a))) d_find3 q⟩
instance {z y : Str} : Step (wO (dRfind4 (.str z) [.str y, .int a, .int b]) r P) (P (.fz (.int (Txt.rfindIn z y a b))) r) := ⟨fun q => wO_of (z' := .fz (.int (Txt.rfindIn z y a b))) d_rfind4 q⟩
instance : Step (wO (dListA [.list ds]) r P) (P (.ol ds) r) := ⟨wO_of (z' := .nl _) rfl⟩
instance : Step (wO (dListA [.tuple ds]) r P) (P (.ol ds) r) := ⟨wO_of (z' := .nl _) rfl⟩
instance : Step (wO (dListA [.str (tx l)]) r P) (l.length ≤ sizeLine ∧ P (.ol (ltrs l)) r) := ⟨fun q => wO_of (z' := .nl (ltrs l)) (by
  show (if (tx l).length ≤ sizeLine then some (OV.nl ((tx l).cps.toList.map fun c => PyData.str (tx [c]))) else none) = _
  rw [tx_len', if_pos q.1]; rfl) q.2⟩
instance {kvs : List (D × D)} [n : NoOb kvs] : Step (wO (dListA [.dict kvs]) r P) (P (.ol (kvs.map (·.1))) r) := ⟨wO_of (z' := .nl _) (by
  show (if isOb kvs = true then none else some (OV.nl (kvs.map (·.1)))) = _
  rw [n.h]; rfl)⟩
instance : Step (wO (dTupOf [.list ds]) r P) (P (.fz (.tuple ds)) r) := ⟨wO_of (z' := .nt _) rfl⟩
instance : Step (wO (dTupOf [.tuple ds]) r P) (P (.fz (.tuple ds)) r) := ⟨fun q => ⟨.fz _, rfl, q⟩⟩
instance : Step (wO (dRepr [d]) r P) (showOk d = true ∧ P (.fz (.str d.shown)) r) := ⟨fun q => wO_of (z' := .fz (.str d.shown)) (by
  show (if showOk d = true then _ else _) = _
  rw [if_pos q.1]) q.2⟩
instance : Step (wO (dMaxL [.list ds]) r P) (∃ n ns, intsD ds = some (n :: ns) ∧ P (.fz (.int (maxI (n :: ns)))) r) := ⟨fun ⟨n, ns, e, q⟩ => wO_of (z' := .fz (.int (maxI (n :: ns)))) (by
  unfold dMaxL
  dsimp only
  rw [e]) q⟩
instance : Step (wO (dMinL [.list ds]) r P) (∃ n ns, intsD ds = some (n :: ns) ∧ P (.fz (.int (minI (n :: ns)))) r) := ⟨fun ⟨n, ns, e, q⟩ => wO_of (z' := .fz (.int (minI (n :: ns)))) (by
  unfold dMinL
  dsimp only
  rw [e]) q⟩
instance {z : Str} : Step (wO (dJoin (.str z) [.list ds]) r P) (∃ ys, strsD ds = some ys ∧ (ys.map (·.length)).sum + ys.length * z.length ≤ 1000000 ∧ P (.fz (.str (Txt.join z ys))) r) := ⟨fun ⟨ys, e, h, q⟩ => wO_of (z' := .fz (.str (Txt.join z ys))) (by
  unfold dJoin
  dsimp only
  rw [e]
  show (if _ then _ else _) = _
  rw [if_pos h]) q⟩
instance : Step (wO (dSortSet (.str (tx l))) r P) (l.length < 4000 ∧ P (.ol (ltrs (QS.sortU l))) r) := ⟨fun q => wO_of (z' := .nl (ltrs (QS.sortU l))) (by
  show (if (tx l).length < 4000 then _ else _) = _
  rw [tx_len', if_pos q.1]; rfl) q.2⟩
def wLc (vs : List Nat) (G : D → S → Option S) (T : S → Res Bool) (F : S → Res D) (ds : List D) (r : S) (P : SV → S → Prop) : Prop := match lcF vs G T F ds [] { r with sl := wipeS vs r.sl } with
  | .ok acc r' => P (.ol acc) { r' with sl := restS vs r.sl r'.sl }
  | _ => False
instance {vs : List Nat} {I : S → Res (List D)} {G : D → S → Option S} {T : S → Res Bool} {F : S → Res D} : Step (wE (fLc vs I G T F r) P X) (wE (I r) (fun ds r => wLc vs G T F ds r P) X) := ⟨fun h => wE_bind (wE_mono h fun ds r h => by
  unfold wLc at h
  show wE (match lcF vs G T F ds [] { r with sl := wipeS vs r.sl } with
    | .ok acc r' => Res.ok (SV.ol acc) { r' with sl := restS vs r.sl r'.sl }
    | _ => Res.bad) P X
  generalize lcF vs G T F ds [] { r with sl := wipeS vs r.sl } = z at h ⊢
  cases z <;> exact h)⟩
theorem lc_inv {vs : List Nat} {G : D → S → Option S} {T : S → Res Bool} {F : S → Res D} (Q : Nat → List D → S → Prop) : ∀ (ds acc : List D) (k : Nat) (r : S), Q k acc r →
    (∀ i d acc r, ds[i]? = some d → Q (k + i) acc r → wG (G d r) fun r => wE (T r) (fun b r => wB b (wE (F r) (fun y r => acc.length < sizeLine ∧ Q (k + i + 1) (acc ++ [y]) ⟨wipeS vs r.sl, r.tp⟩) XN) (Q (k + i + 1) acc ⟨wipeS vs r.sl, r.tp⟩)) XN) →
    ∃ acc' r', lcF vs G T F ds acc r = .ok acc' r' ∧ Q (k + ds.length) acc' r'
  | [], acc, k, r, h, _ => ⟨acc, r, rfl, h⟩
  | d :: ds, acc, k, r, h, st => by
    have st' : ∀ i d acc r, ds[i]? = some d → Q (k + 1 + i) acc r → wG (G d r) fun r => wE (T r) (fun b r => wB b (wE (F r) (fun y r => acc.length < sizeLine ∧ Q (k + 1 + i + 1) (acc ++ [y]) ⟨wipeS vs r.sl, r.tp⟩) XN) (Q (k + 1 + i + 1) acc ⟨wipeS vs r.sl, r.tp⟩)) XN := fun i d acc r hd hq => by
      have := st (i + 1) d acc r (by simpa using hd) (by rw [show k + (i + 1) = k + 1 + i by omega]; exact hq)
      rw [show k + (i + 1) + 1 = k + 1 + i + 1 by omega] at this
      exact this
    obtain ⟨r1, e1, h1⟩ := st 0 d acc r rfl h
    unfold lcF
    rw [e1]
    dsimp only
    cases e2 : T r1 with
    | bad => rw [e2] at h1; exact h1.elim
    | exc c f s => rw [e2] at h1; exact h1.elim
    | ok b r2 =>
      rw [e2] at h1
      cases b with
      | true =>
        have h2 := h1.1 rfl
        dsimp only
        cases e3 : F r2 with
        | bad => rw [e3] at h2; exact h2.elim
        | exc c f s => rw [e3] at h2; exact h2.elim
        | ok y r3 =>
          rw [e3] at h2
          dsimp only
          rw [if_pos h2.1]
          obtain ⟨acc', r', e4, h4⟩ := lc_inv Q ds (acc ++ [y]) (k + 1) _ h2.2 st'
          exact ⟨acc', r', e4, by rw [List.length_cons, show k + (ds.length + 1) = k + 1 + ds.length by omega]; exact h4⟩
      | false =>
        have h2 := h1.2 rfl
        dsimp only
        obtain ⟨acc', r', e4, h4⟩ := lc_inv Q ds acc (k + 1) _ h2 st'
        exact ⟨acc', r', e4, by rw [List.length_cons, show k + (ds.length + 1) = k + 1 + ds.length by omega]; exact h4⟩
/-- a comprehension by an invariant: how many are done, what is told, the state -/
theorem wLc_inv {vs : List Nat} {G : D → S → Option S} {T : S → Res Bool} {F : S → Res D} (Q : Nat → List D → S → Prop) (h0 : Q 0 [] ⟨wipeS vs r.sl, r.tp⟩)
    (st : ∀ i d acc r, ds[i]? = some d → Q i acc r → wG (G d r) fun r => wE (T r) (fun b r => wB b (wE (F r) (fun y r => acc.length < sizeLine ∧ Q (i + 1) (acc ++ [y]) ⟨wipeS vs r.sl, r.tp⟩) XN) (Q (i + 1) acc ⟨wipeS vs r.sl, r.tp⟩)) XN)
    (he : ∀ acc r', Q ds.length acc r' → P (.ol acc) ⟨restS vs r.sl r'.sl, r'.tp⟩) : wLc vs G T F ds r P := by
  obtain ⟨acc', r', e, h⟩ := lc_inv Q ds [] 0 ⟨wipeS vs r.sl, r.tp⟩ h0 (fun i d acc r hd hq => by
    have := st i d acc r hd (by simpa using hq)
    simpa using this)
  unfold wLc
  rw [e]
  exact he acc' r' (by simpa using h)
/-- .. where the state stays -/
theorem wLc_map {vs : List Nat} {G : D → S → Option S} {T : S → Res Bool} {F : S → Res D} (f : D → Option D) (hl : ds.length ≤ sizeLine)
    (st : ∀ d ∈ ds, wG (G d ⟨wipeS vs r.sl, r.tp⟩) fun r1 => wE (T r1) (fun b r2 => wB b (wE (F r2) (fun y r3 => f d = some y ∧ (⟨wipeS vs r3.sl, r3.tp⟩ : S) = ⟨wipeS vs r.sl, r.tp⟩) XN) (f d = none ∧ (⟨wipeS vs r2.sl, r2.tp⟩ : S) = ⟨wipeS vs r.sl, r.tp⟩)) XN)
    (he : P (.ol (ds.filterMap f)) ⟨restS vs r.sl (wipeS vs r.sl), r.tp⟩) : wLc vs G T F ds r P := by
  refine wLc_inv (fun i acc r' => r' = ⟨wipeS vs r.sl, r.tp⟩ ∧ acc = (ds.take i).filterMap f) ⟨rfl, by simp⟩ (fun i d acc r' hd ⟨e1, e2⟩ => ?_) (fun acc r' ⟨e1, e2⟩ => ?_)
  · subst e1
    have hi := (List.getElem?_eq_some_iff.mp hd).1
    have ht : (ds.take (i + 1)).filterMap f = acc ++ [d].filterMap f := by
      rw [List.take_add_one, hd, e2, List.filterMap_append]; rfl
    obtain ⟨r1, e3, h⟩ := st d (List.mem_of_getElem? hd)
    refine ⟨r1, e3, wE_mono h fun b r2 h => ⟨fun hb => wE_mono (h.1 hb) fun y r3 h3 => ⟨?_, h3.2, ?_⟩, fun hb => ⟨(h.2 hb).2, ?_⟩⟩⟩
    · rw [e2]
      have := List.length_filterMap_le f (ds.take i)
      rw [List.length_take] at this
      omega
    · rw [ht]
      simp [h3.1]
    · rw [ht]
      simp [(h.2 hb).1]
  · subst e1 e2
    rw [List.take_length]
    exact he
end
theorem wFor_inv {p : Po} {G : D → S → Option S} {B : S → RS} (Q : Nat → S → Prop) {ds : List D} {r : S} (h0 : Q 0 r)
    (st : ∀ i d r, ds[i]? = some d → Q i r → wG (G d r) fun r => wS (B r) (p.lp (Q (i + 1)))) (he : ∀ r, Q ds.length r → p.nx r) : wS (forF G B ds r) p := by
  have main : ∀ (ds : List D) (k : Nat) (r : S), Q k r → (∀ i d r, ds[i]? = some d → Q (k + i) r → wG (G d r) fun r => wS (B r) (p.lp (Q (k + i + 1)))) → (∀ r, Q (k + ds.length) r → p.nx r) → wS (forF G B ds r) p := by
    intro ds
    induction ds with
    | nil => exact fun k r h _ he => he r h
    | cons d ds ih =>
      intro k r h st he
      obtain ⟨r1, e1, h1⟩ := st 0 d r rfl h
      have rest : ∀ r, Q (k + 1) r → wS (forF G B ds r) p := fun r h => ih (k + 1) r h (fun i d r hd hq => by
        have := st (i + 1) d r (by simpa using hd) (by rw [show k + (i + 1) = k + 1 + i by omega]; exact hq)
        rw [show k + (i + 1) + 1 = k + 1 + i + 1 by omega] at this
        exact this) fun r hq => he r (by rw [List.length_cons, show k + (ds.length + 1) = k + 1 + ds.length by omega]; exact hq)
      unfold forF
      rw [e1]
      dsimp only
      cases e2 : B r1 with
      | nx r2 => rw [e2] at h1; exact rest r2 h1
      | ct r2 => rw [e2] at h1; exact rest r2 h1
      | bk r2 => rw [e2] at h1; exact h1
      | rt v r2 => rw [e2] at h1; exact h1
      | exc c f r2 => rw [e2] at h1; exact h1
      | bad => rw [e2] at h1; exact h1
  exact main ds 0 r h0 (fun i d r hd hq => by
    have := st i d r hd (by simpa using hq)
    simpa using this) (fun r hq => he r (by simpa using hq))
theorem wWhile_inv {p : Po} {T : S → Res Bool} {B : S → RS} (Q : Nat → S → Prop) {n : Nat} {r : S} (hn : n < fuel) (h0 : Q n r)
    (st : ∀ k r, Q k r → wE (T r) (fun b r => wB b (∃ m, k = m + 1 ∧ wS (B r) (p.lp fun r => ∃ j, j ≤ m ∧ Q j r)) (p.nx r)) p.ex) : wS (sWhile T B r) p := by
  have main : ∀ (f k : Nat) (r : S), k < f → Q k r → wS (whileF T B f r) p := by
    intro f
    induction f with
    | zero => exact fun k r h => absurd h (Nat.not_lt_zero _)
    | succ f ih =>
      intro k r hk hq
      have h := st k r hq
      unfold whileF
      refine wE_bindS (wE_mono h fun b r1 h => ?_)
      cases b with
      | false => exact h.2 rfl
      | true =>
        obtain ⟨m, em, h2⟩ := h.1 rfl
        show wS (match B r1 with
          | .nx r => whileF T B f r
          | .ct r => whileF T B f r
          | .bk r => .nx r
          | .rt v r => .rt v r
          | .exc c f r => .exc c f r
          | .bad => .bad) p
        cases e2 : B r1 with
        | nx r2 =>
          rw [e2] at h2
          obtain ⟨j, hj, hq⟩ := h2
          exact ih j r2 (by omega) hq
        | ct r2 =>
          rw [e2] at h2
          obtain ⟨j, hj, hq⟩ := h2
          exact ih j r2 (by omega) hq
        | bk r2 => rw [e2] at h2; exact h2
        | rt v r2 => rw [e2] at h2; exact h2
        | exc c f r2 => rw [e2] at h2; exact h2
        | bad => rw [e2] at h2; exact h2
  exact main fuel n r hn h0
end QM
namespace QM
open PySem PySem.Spec L2 QL QP
class Mk (n : Nat) (ds : List SV) (sl : outParam (List (Option SV))) : Prop where
  eq : ds.map some ++ List.replicate (n - ds.length) none = sl
instance : Mk 0 [] [] := ⟨rfl⟩
instance {n : Nat} {sl : List (Option SV)} [h : Mk n [] sl] : Mk (n + 1) [] (none :: sl) := ⟨by
  have := h.eq
  simp only [List.map_nil, List.length_nil, Nat.sub_zero, List.nil_append] at this ⊢
  rw [List.replicate_succ, this]⟩
instance {n : Nat} {d : SV} {ds : List SV} {sl : List (Option SV)} [h : Mk n ds sl] : Mk (n + 1) (d :: ds) (some d :: sl) := ⟨by
  have := h.eq
  simp only [List.map_cons, List.length_cons, Nat.add_sub_add_right, List.cons_append]
  rw [this]⟩
class Fz (ds : List D) (xs : outParam (List SV)) : Prop where
  eq : ds.map SV.fz = xs
instance : Fz [] [] := ⟨rfl⟩
instance {d : D} {ds : List D} {xs : List SV} [h : Fz ds xs] : Fz (d :: ds) (.fz d :: xs) := ⟨by rw [List.map_cons, h.eq]⟩
section
variable {n : Nat} {B : S → RS} {ds : List D} {xs : List SV} {sl : List (Option SV)}
theorem wF_go {PF : SV → Prop} {XF : Str → List (Str × D) → Prop} [f : Fz ds xs] [m : Mk n xs sl] (h : wS (B ⟨sl, none⟩) ⟨fun _ => PF (.fz .none), fun x _ => x.out = true ∧ PF x, fun _ => False, fun _ => False, fun c f _ => XF c f⟩) : wF (bodyF n B ds) PF XF := by
  refine wF_body ?_
  unfold mkS
  rw [f.eq, m.eq]; exact h
theorem wFT_go {t : Int × Int} {PF : SV → Int × Int → Prop} {XF : Str → List (Str × D) → Int × Int → Prop} [f : Fz ds xs] [m : Mk n (.tape :: xs) sl] (h : wS (B ⟨sl, some t⟩) ⟨fun r => ∃ t, r.tp = some t ∧ PF (.fz .none) t, fun x r => x.out = true ∧ ∃ t, r.tp = some t ∧ PF x t, fun _ => False, fun _ => False, fun c f r => ∃ t, r.tp = some t ∧ XF c f t⟩) : wFT (bodyT n B t ds) PF XF := by
  refine wFT_body ?_
  unfold mkS
  rw [f.eq, m.eq]; exact h
theorem Ret.go {v : SV} [f : Fz ds xs] [m : Mk n xs sl] (h : wS (B ⟨sl, none⟩) ⟨fun _ => SV.fz .none = v, fun x _ => x.out = true ∧ x = v, fun _ => False, fun _ => False, fun _ _ _ => False⟩) : Ret (bodyF n B ds) v := Ret.of_w (wF_go h)
end
class Wi (vs : List Nat) (sl : List (Option SV)) (sl' : outParam (List (Option SV))) : Prop where
  eq : wipeS vs sl = sl'
instance {sl : List (Option SV)} : Wi [] sl sl := ⟨rfl⟩
instance {v : Nat} {vs : List Nat} {sl l1 l2 : List (Option SV)} [h : Wi vs sl l1] [h2 : SetL l1 v none l2] : Wi (v :: vs) sl l2 := ⟨by
  unfold wipeS
  rw [h.eq, h2.eq]⟩
class Rest (vs : List Nat) (old sl : List (Option SV)) (sl' : outParam (List (Option SV))) : Prop where
  eq : restS vs old sl = sl'
instance {old sl : List (Option SV)} : Rest [] old sl sl := ⟨rfl⟩
instance {v : Nat} {vs : List Nat} {old sl l1 : List (Option SV)} [h : Rest vs old sl l1] [g : Get old v none] : Rest (v :: vs) old sl l1 := ⟨by
  unfold restS
  rw [g.eq]; exact h.eq⟩
instance {v : Nat} {vs : List Nat} {old sl l1 : List (Option SV)} {ds : List D} [h : Rest vs old sl l1] [g : Get old v (some (.ol ds))] : Rest (v :: vs) old sl l1 := ⟨by
  unfold restS
  rw [g.eq]; exact h.eq⟩
instance {v : Nat} {vs : List Nat} {old sl l1 l2 : List (Option SV)} {d : D} [h : Rest vs old sl l1] [g : Get old v (some (.fz d))] [h2 : SetL l1 v (some (.fz d)) l2] : Rest (v :: vs) old sl l2 := ⟨by
  unfold restS
  rw [g.eq]
  dsimp only
  rw [h.eq, h2.eq]⟩
section
variable {P : SV → S → Prop} {r : S} {d : D} {ds acc : List D} {vs : List Nat} {G : D → S → Option S} {T : S → Res Bool} {F : S → Res D} {sl sl' old : List (Option SV)} {tp : Option (Int × Int)}
/-- a comprehension, turn by turn -/
def wC (vs : List Nat) (G : D → S → Option S) (T : S → Res Bool) (F : S → Res D) (old : List (Option SV)) (ds acc : List D) (r : S) (P : SV → S → Prop) : Prop := match lcF vs G T F ds acc r with
  | .ok acc r' => P (.ol acc) { r' with sl := restS vs old r'.sl }
  | _ => False
def wWi (vs : List Nat) (r : S) (Q : S → Prop) : Prop := Q ⟨wipeS vs r.sl, r.tp⟩
instance {Q : S → Prop} [h : Wi vs sl sl'] : Step (wWi vs ⟨sl, tp⟩ Q) (Q ⟨sl', tp⟩) := ⟨fun q => by
  unfold wWi
  dsimp only
  rw [h.eq]; exact q⟩
instance [h : Wi vs sl sl'] : Step (wLc vs G T F (d :: ds) ⟨sl, tp⟩ P) (wC vs G T F sl (d :: ds) [] ⟨sl', tp⟩ P) := ⟨fun q => by
  unfold wLc
  dsimp only
  rw [h.eq]; exact q⟩
instance [h : Wi vs sl sl'] [h2 : Rest vs sl sl' old] : Step (wLc vs G T F [] ⟨sl, tp⟩ P) (P (.ol []) ⟨old, tp⟩) := ⟨fun q => by
  show P (.ol []) ⟨restS vs sl (wipeS vs sl), tp⟩
  rw [h.eq, h2.eq]; exact q⟩
instance [h : Rest vs old sl sl'] : Step (wC vs G T F old [] acc ⟨sl, tp⟩ P) (P (.ol acc) ⟨sl', tp⟩) := ⟨fun q => by
  show P (.ol acc) ⟨restS vs old sl, tp⟩
  rw [h.eq]; exact q⟩
instance : Step (wC vs G T F old (d :: ds) acc r P) (wG (G d r) fun r => wE (T r) (fun b r => wB b (wE (F r) (fun y r => acc.length < sizeLine ∧ wWi vs r fun r => wC vs G T F old ds (acc ++ [y]) r P) XN) (wWi vs r fun r => wC vs G T F old ds acc r P)) XN) := ⟨fun ⟨r1, e1, h1⟩ => by
  unfold wC lcF
  rw [e1]
  dsimp only at h1 ⊢
  cases e2 : T r1 with
  | bad => rw [e2] at h1; exact h1.elim
  | exc c f s => rw [e2] at h1; exact h1.elim
  | ok b r2 =>
    rw [e2] at h1
    cases b with
    | true =>
      have h2 := h1.1 rfl
      dsimp only
      cases e3 : F r2 with
      | bad => rw [e3] at h2; exact h2.elim
      | exc c f s => rw [e3] at h2; exact h2.elim
      | ok y r3 =>
        rw [e3] at h2
        dsimp only
        rw [if_pos h2.1]; exact h2.2
    | false => exact h1.2 rfl⟩
/-- .. where the state stays -/
theorem lc_map [w : Wi vs sl sl'] [q : Rest vs sl sl' old] (f : D → Option D) (hl : ds.length ≤ sizeLine)
    (st : ∀ d ∈ ds, wG (G d ⟨sl', tp⟩) fun r1 => wE (T r1) (fun b r2 => wB b (wE (F r2) (fun y r3 => f d = some y ∧ wWi vs r3 fun r => r = ⟨sl', tp⟩) XN) (f d = none ∧ wWi vs r2 fun r => r = ⟨sl', tp⟩)) XN)
    (he : P (.ol (ds.filterMap f)) ⟨old, tp⟩) : wLc vs G T F ds ⟨sl, tp⟩ P := by
  refine wLc_map f hl (fun d hd => ?_) ?_
  · dsimp only
    rw [w.eq]; exact st d hd
  · dsimp only
    rw [w.eq, q.eq]; exact he
end
theorem sml_small {n : Nat} (h : n ≤ 1000000) : sml (n : Int) = true := by
  unfold sml
  have e : (2 : Int) ^ 62 = 4611686018427387904 := by decide
  rw [e]
  exact decide_eq_true ⟨by omega, by omega⟩
instance {n : Nat} {A : Prop} : Step (wSm (n : Int) A) (n ≤ 1000000 ∧ A) := ⟨fun h => ⟨sml_small h.1, h.2⟩⟩
instance {n : Nat} {A : Prop} : Step (wSm (@OfNat.ofNat Int n instOfNat) A) (n ≤ 1000000 ∧ A) := ⟨fun h => ⟨sml_small h.1, h.2⟩⟩
theorem wSm_lit {n : Nat} {A : Prop} (h : n ≤ 1000000) (a : A) : wSm (n : Int) A := ⟨sml_small h, a⟩
instance {A : Prop} : Step (wSm 0 A) A := ⟨fun a => wSm_lit (n := 0) (by decide) a⟩
instance {A : Prop} : Step (wSm 1 A) A := ⟨fun a => wSm_lit (n := 1) (by decide) a⟩
instance {A : Prop} : Step (wSm 2 A) A := ⟨fun a => wSm_lit (n := 2) (by decide) a⟩
instance {A : Prop} : Step (wSm 3 A) A := ⟨fun a => wSm_lit (n := 3) (by decide) a⟩
instance {A : Prop} : Step (wSm 4 A) A := ⟨fun a => wSm_lit (n := 4) (by decide) a⟩
instance {A : Prop} : Step (wSm 5 A) A := ⟨fun a => wSm_lit (n := 5) (by decide) a⟩
instance {A : Prop} : Step (wSm 6 A) A := ⟨fun a => wSm_lit (n := 6) (by decide) a⟩
instance {A : Prop} : Step (wSm 7 A) A := ⟨fun a => wSm_lit (n := 7) (by decide) a⟩
instance {A : Prop} : Step (wSm 8 A) A := ⟨fun a => wSm_lit (n := 8) (by decide) a⟩
instance {A : Prop} : Step (wSm 9 A) A := ⟨fun a => wSm_lit (n := 9) (by decide) a⟩
instance {A : Prop} : Step (wSm 10 A) A := ⟨fun a => wSm_lit (n := 10) (by decide) a⟩
instance {A : Prop} : Step (wSm 11 A) A := ⟨fun a => wSm_lit (n := 11) (by decide) a⟩
instance {A : Prop} : Step (wSm 12 A) A := ⟨fun a => wSm_lit (n := 12) (by decide) a⟩
instance {A : Prop} : Step (wSm 13 A) A := ⟨fun a => wSm_lit (n := 13) (by decide) a⟩
instance {A : Prop} : Step (wSm 14 A) A := ⟨fun a => wSm_lit (n := 14) (by decide) a⟩
instance {A : Prop} : Step (wSm 15 A) A := ⟨fun a => wSm_lit (n := 15) (by decide) a⟩
instance {A : Prop} : Step (wSm 16 A) A := ⟨fun a => wSm_lit (n := 16) (by decide) a⟩
instance {A : Prop} : Step (wSm 17 A) A := ⟨fun a => wSm_lit (n := 17) (by decide) a⟩
instance {A : Prop} : Step (wSm 18 A) A := ⟨fun a => wSm_lit (n := 18) (by decide) a⟩
instance {A : Prop} : Step (wSm 19 A) A := ⟨fun a => wSm_lit (n := 19) (by decide) a⟩
instance {A : Prop} : Step (wSm 20 A) A := ⟨fun a => wSm_lit (n := 20) (by decide) a⟩
instance {A : Prop} : Step (wSm 21 A) A := ⟨fun a => wSm_lit (n := 21) (by decide) a⟩
instance {A : Prop} : Step (wSm 22 A) A := ⟨fun a => wSm_lit (n := 22) (by decide) a⟩
instance {A : Prop} : Step (wSm 23 A) A := ⟨fun a => wSm_lit (n := 23) (by decide) a⟩
instance {A : Prop} : Step (wSm 24 A) A := ⟨fun a => wSm_lit (n := 24) (by decide) a⟩
instance {A : Prop} : Step (wSm 25 A) A := ⟨fun a => wSm_lit (n := 25) (by decide) a⟩
instance {A : Prop} : Step (wSm 26 A) A := ⟨fun a => wSm_lit (n := 26) (by decide) a⟩
instance {A : Prop} : Step (wSm 27 A) A := ⟨fun a => wSm_lit (n := 27) (by decide) a⟩
instance {A : Prop} : Step (wSm 28 A) A := ⟨fun a => wSm_lit (n := 28) (by decide) a⟩
instance {A : Prop} : Step (wSm 29 A) A := ⟨fun a => wSm_lit (n := 29) (by decide) a⟩
instance {A : Prop} : Step (wSm 30 A) A := ⟨fun a => wSm_lit (n := 30) (by decide) a⟩
instance {A : Prop} : Step (wSm 31 A) A := ⟨fun a => wSm_lit (n := 31) (by decide) a⟩
instance {A : Prop} : Step (wSm 32 A) A := ⟨fun a => wSm_lit (n := 32) (by decide) a⟩
instance {A : Prop} : Step (wSm 33 A) A := ⟨fun a => wSm_lit (n := 33) (by decide) a⟩
instance {A : Prop} : Step (wSm 34 A) A := ⟨fun a => wSm_lit (n := 34) (by decide) a⟩
instance {A : Prop} : Step (wSm 35 A) A := ⟨fun a => wSm_lit (n := 35) (by decide) a⟩
instance {A : Prop} : Step (wSm 36 A) A := ⟨fun a => wSm_lit (n := 36) (by decide) a⟩
instance {A : Prop} : Step (wSm 37 A) A := ⟨fun a => wSm_lit (n := 37) (by decide) a⟩
instance {A : Prop} : Step (wSm 38 A) A := ⟨fun a => wSm_lit (n := 38) (by decide) a⟩
instance {A : Prop} : Step (wSm 39 A) A := ⟨fun a => wSm_lit (n := 39) (by decide) a⟩
instance {A : Prop} : Step (wSm 40 A) A := ⟨fun a => wSm_lit (n := 40) (by decide) a⟩
instance {A : Prop} : Step (wSm 60 A) A := ⟨fun a => wSm_lit (n := 60) (by decide) a⟩
instance {A : Prop} : Step (wSm 63 A) A := ⟨fun a => wSm_lit (n := 63) (by decide) a⟩
instance {A : Prop} : Step (wSm (-1) A) A := ⟨fun a => ⟨by decide +kernel, a⟩⟩
theorem rgOk_small {n m : Nat} (h : n ≤ 1000000) (h2 : m ≤ 1000000) : rgOk (n : Int) (m : Int) = true := by
  unfold rgOk
  rw [sml_small h, sml_small h2]
  simp only [Bool.true_and]
  exact decide_eq_true (by omega)
instance {n : Nat} {A : Prop} : Step (wRg 0 (n : Int) A) (n ≤ 1000000 ∧ A) := ⟨fun h => ⟨rgOk_small (n := 0) (by decide) h.1, h.2⟩⟩
section
variable {P : SV → S → Prop} {r : S} {z : Str} {i : Int} {u : Bool} {ds : List D} {kvs : List (D × D)}
theorem kb_NoneType_int : kitB "NoneType" "int" = some false := by decide +kernel
instance : Step (wO (dIsi "int" PyData.none) r P) (P (.fz (.bool false)) r) := ⟨fun q => ⟨.fz (.bool false), by show (kitB "NoneType" "int").map (fun b => OV.fz (PyData.bool b)) = _; rw [kb_NoneType_int]; rfl, q⟩⟩
theorem kb_bool_int : kitB "bool" "int" = some true := by decide +kernel
instance : Step (wO (dIsi "int" (.bool u)) r P) (P (.fz (.bool true)) r) := ⟨fun q => ⟨.fz (.bool true), by show (kitB "bool" "int").map (fun b => OV.fz (PyData.bool b)) = _; rw [kb_bool_int]; rfl, q⟩⟩
theorem kb_int_int : kitB "int" "int" = some true := by decide +kernel
instance : Step (wO (dIsi "int" (.int i)) r P) (P (.fz (.bool true)) r) := ⟨fun q => ⟨.fz (.bool true), by show (kitB "int" "int").map (fun b => OV.fz (PyData.bool b)) = _; rw [kb_int_int]; rfl, q⟩⟩
theorem kb_str_int : kitB "str" "int" = some false := by decide +kernel
instance : Step (wO (dIsi "int" (.str z)) r P) (P (.fz (.bool false)) r) := ⟨fun q => ⟨.fz (.bool false), by show (kitB "str" "int").map (fun b => OV.fz (PyData.bool b)) = _; rw [kb_str_int]; rfl, q⟩⟩
theorem kb_list_int : kitB "list" "int" = some false := by decide +kernel
instance : Step (wO (dIsi "int" (.list ds)) r P) (P (.fz (.bool false)) r) := ⟨fun q => ⟨.fz (.bool false), by show (kitB "list" "int").map (fun b => OV.fz (PyData.bool b)) = _; rw [kb_list_int]; rfl, q⟩⟩
theorem kb_tuple_int : kitB "tuple" "int" = some false := by decide +kernel
instance : Step (wO (dIsi "int" (.tuple ds)) r P) (P (.fz (.bool false)) r) := ⟨fun q => ⟨.fz (.bool false), by show (kitB "tuple" "int").map (fun b => OV.fz (PyData.bool b)) = _; rw [kb_tuple_int]; rfl, q⟩⟩
theorem kb_dict_int : kitB "dict" "int" = some false := by decide +kernel
instance : Step (wO (dIsi "int" (.dict kvs)) r P) (P (.fz (.bool false)) r) := ⟨fun q => ⟨.fz (.bool false), by show (if ("int" : String) = "dict" then some (OV.fz (.bool (!isOb kvs))) else (kitB "dict" "int").map (fun b => OV.fz (PyData.bool b))) = _; rw [if_neg (by decide), kb_dict_int]; rfl, q⟩⟩
theorem kb_NoneType_bool : kitB "NoneType" "bool" = some false := by decide +kernel
instance : Step (wO (dIsi "bool" PyData.none) r P) (P (.fz (.bool false)) r) := ⟨fun q => ⟨.fz (.bool false), by show (kitB "NoneType" "bool").map (fun b => OV.fz (PyData.bool b)) = _; rw [kb_NoneType_bool]; rfl, q⟩⟩
theorem kb_bool_bool : kitB "bool" "bool" = some true := by decide +kernel
instance : Step (wO (dIsi "bool" (.bool u)) r P) (P (.fz (.bool true)) r) := ⟨fun q => ⟨.fz (.bool true), by show (kitB "bool" "bool").map (fun b => OV.fz (PyData.bool b)) = _; rw [kb_bool_bool]; rfl, q⟩⟩
theorem kb_int_bool : kitB "int" "bool" = some false := by decide +kernel
instance : Step (wO (dIsi "bool" (.int i)) r P) (P (.fz (.bool false)) r) := ⟨fun q => ⟨.fz (.bool false), by show (kitB "int" "bool").map (fun b => OV.fz (PyData.bool b)) = _; rw [kb_int_bool]; rfl, q⟩⟩
theorem kb_str_bool : kitB "str" "bool" = some false := by decide +kernel
instance : Step (wO (dIsi "bool" (.str z)) r P) (P (.fz (.bool false)) r) := ⟨fun q => ⟨.fz (.bool false), by show (kitB "str" "bool").map (fun b => OV.fz (PyData.bool b)) = _; rw [kb_str_bool]; rfl, q⟩⟩
theorem kb_list_bool : kitB "list" "bool" = some false := by decide +kernel
instance : Step (wO (dIsi "bool" (.list ds)) r P) (P (.fz (.bool false)) r) := ⟨fun q => ⟨.fz (.bool false), by show (kitB "list" "bool").map (fun b => OV.fz (PyData.bool b)) = _; rw [kb_list_bool]; rfl, q⟩⟩
theorem kb_tuple_bool : kitB "tuple" "bool" = some false := by decide +kernel
instance : Step (wO (dIsi "bool" (.tuple ds)) r P) (P (.fz (.bool false)) r) := ⟨fun q => ⟨.fz (.bool false), by show (kitB "tuple" "bool").map (fun b => OV.fz (PyData.bool b)) = _; rw [kb_tuple_bool]; rfl, q⟩⟩
theorem kb_dict_bool : kitB "dict" "bool" = some false := by decide +kernel
instance : Step (wO (dIsi "bool" (.dict kvs)) r P) (P (.fz (.bool false)) r) := ⟨fun q => ⟨.fz (.bool false), by show (if ("bool" : String) = "dict" then some (OV.fz (.bool (!isOb kvs))) else (kitB "dict" "bool").map (fun b => OV.fz (PyData.bool b))) = _; rw [if_neg (by decide), kb_dict_bool]; rfl, q⟩⟩
theorem kb_NoneType_str : kitB "NoneType" "str" = some false := by decide +kernel
instance : Step (wO (dIsi "str" PyData.none) r P) (P (.fz (.bool false)) r) := ⟨fun q => ⟨.fz (.bool false), by show (kitB "NoneType" "str").map (fun b => OV.fz (PyData.bool b)) = _; rw [kb_NoneType_str]; rfl, q⟩⟩
theorem kb_bool_str : kitB "bool" "str" = some false := by decide +kernel
instance : Step (wO (dIsi "str" (.bool u)) r P) (P (.fz (.bool false)) r) := ⟨fun q => ⟨.fz (.bool false), by show (kitB "bool" "str").map (fun b => OV.fz (PyData.bool b)) = _; rw [kb_bool_str]; rfl, q⟩⟩
theorem kb_int_str : kitB "int" "str" = some false := by decide +kernel
instance : Step (wO (dIsi "str" (.int i)) r P) (P (.fz (.bool false)) r) := ⟨fun q => ⟨.fz (.bool false), by show (kitB "int" "str").map (fun b => OV.fz (PyData.bool b)) = _; rw [kb_int_str]; rfl, q⟩⟩
theorem kb_str_str : kitB "str" "str" = some true := by decide +kernel
instance : Step (wO (dIsi "str" (.str z)) r P) (P (.fz (.bool true)) r) := ⟨fun q => ⟨.fz (.bool true), by show (kitB "str" "str").map (fun b => OV.fz (PyData.bool b)) = _; rw [kb_str_str]; rfl, q⟩⟩
theorem kb_list_str : kitB "list" "str" = some false := by decide +kernel
instance : Step (wO (dIsi "str" (.list ds)) r P) (P (.fz (.bool false)) r) := ⟨fun q => ⟨.fz (.bool false), by show (kitB "list" "str").map (fun b => OV.fz (PyData.bool b)) = _; rw [kb_list_str]; rfl, q⟩⟩
theorem kb_tuple_str : kitB "tuple" "str" = some false := by decide +kernel
instance : Step (wO (dIsi "str" (.tuple ds)) r P) (P (.fz (.bool false)) r) := ⟨fun q => ⟨.fz (.bool false), by show (kitB "tuple" "str").map (fun b => OV.fz (PyData.bool b)) = _; rw [kb_tuple_str]; rfl, q⟩⟩
theorem kb_dict_str : kitB "dict" "str" = some false := by decide +kernel
instance : Step (wO (dIsi "str" (.dict kvs)) r P) (P (.fz (.bool false)) r) := ⟨fun q => ⟨.fz (.bool false), by show (if ("str" : String) = "dict" then some (OV.fz (.bool (!isOb kvs))) else (kitB "dict" "str").map (fun b => OV.fz (PyData.bool b))) = _; rw [if_neg (by decide), kb_dict_str]; rfl, q⟩⟩
theorem kb_NoneType_list : kitB "NoneType" "list" = some false := by decide +kernel
instance : Step (wO (dIsi "list" PyData.none) r P) (P (.fz (.bool false)) r) := ⟨fun q => ⟨.fz (.bool false), by show (kitB "NoneType" "list").map (fun b => OV.fz (PyData.bool b)) = _; rw [kb_NoneType_list]; rfl, q⟩⟩
theorem kb_bool_list : kitB "bool" "list" = some false := by decide +kernel
instance : Step (wO (dIsi "list" (.bool u)) r P) (P (.fz (.bool false)) r) := ⟨fun q => ⟨.fz (.bool false), by show (kitB "bool" "list").map (fun b => OV.fz (PyData.bool b)) = _; rw [kb_bool_list]; rfl, q⟩⟩
theorem kb_int_list : kitB "int" "list" = some false := by decide +kernel
instance : Step (wO (dIsi "list" (.int i)) r P) (P (.fz (.bool false)) r) := ⟨fun q => ⟨.fz (.bool false), by show (kitB "int" "list").map (fun b => OV.fz (PyData.bool b)) = _; rw [kb_int_list]; rfl, q⟩⟩
theorem kb_str_list : kitB "str" "list" = some false := by decide +kernel
instance : Step (wO (dIsi "list" (.str z)) r P) (P (.fz (.bool false)) r) := ⟨fun q => ⟨.fz (.bool false), by show (kitB "str" "list").map (fun b => OV.fz (PyData.bool b)) = _; rw [kb_str_list]; rfl, q⟩⟩
theorem kb_list_list : kitB "list" "list" = some true := by decide +kernel
instance : Step (wO (dIsi "list" (.list ds)) r P) (P (.fz (.bool true)) r) := ⟨fun q => ⟨.fz (.bool true), by show (kitB "list" "list").map (fun b => OV.fz (PyData.bool b)) = _; rw [kb_list_list]; rfl, q⟩⟩
theorem kb_tuple_list : kitB "tuple" "list" = some false := by decide +kernel
instance : Step (wO (dIsi "list" (.tuple ds)) r P) (P (.fz (.bool false)) r) := ⟨fun q => ⟨.fz (.bool false), by show (kitB "tuple" "list").map (fun b => OV.fz (PyData.bool b)) = _; rw [kb_tuple_list]; rfl, q⟩⟩
theorem kb_dict_list : kitB "dict" "list" = some false := by decide +kernel
instance : Step (wO (dIsi "list" (.dict kvs)) r P) (P (.fz (.bool false)) r) := ⟨fun q => ⟨.fz (.bool false), by show (if ("list" : String) = "dict" then some (OV.fz (.bool (!isOb kvs))) else (kitB "dict" "list").map (fun b => OV.fz (PyData.bool b))) = _; rw [if_neg (by decide), kb_dict_list]; rfl, q⟩⟩
theorem kb_NoneType_tuple : kitB "NoneType" "tuple" = some false := by decide +kernel
instance : Step (wO (dIsi "tuple" PyData.none) r P) (P (.fz (.bool false)) r) := ⟨fun q => ⟨.fz (.bool false), by show (kitB "NoneType" "tuple").map (fun b => OV.fz (PyData.bool b)) = _; rw [kb_NoneType_tuple]; rfl, q⟩⟩
theorem kb_bool_tuple : kitB "bool" "tuple" = some false := by decide +kernel
instance : Step (wO (dIsi "tuple" (.bool u)) r P) (P (.fz (.bool false)) r) := ⟨fun q => ⟨.fz (.bool false), by show (kitB "bool" "tuple").map (fun b => OV.fz (PyData.bool b)) = _; rw [kb_bool_tuple]; rfl, q⟩⟩
theorem kb_int_tuple : kitB "int" "tuple" = some false := by decide +kernel
instance : Step (wO (dIsi "tuple" (.int i)) r P) (P (.fz (.bool false)) r) := ⟨fun q => ⟨.fz (.bool false), by show (kitB "int" "tuple").map (fun b => OV.fz (PyData.bool b)) = _; rw [kb_int_tuple]; rfl, q⟩⟩
theorem kb_str_tuple : kitB "str" "tuple" = some false := by decide +kernel
instance : Step (wO (dIsi "tuple" (.str z)) r P) (P (.fz (.bool false)) r) := ⟨fun q => ⟨.fz (.bool false), by show (kitB "str" "tuple").map (fun b => OV.fz (PyData.bool b)) = _; rw [kb_str_tuple]; rfl, q⟩⟩
theorem kb_list_tuple : kitB "list" "tuple" = some false := by decide +kernel
instance : Step (wO (dIsi "tuple" (.list ds)) r P) (P (.fz (.bool false)) r) := ⟨fun q => ⟨.fz (.bool false), by show (kitB "list" "tuple").map (fun b => OV.fz (PyData.bool b)) = _; rw [kb_list_tuple]; rfl, q⟩⟩
theorem kb_tuple_tuple : kitB "tuple" "tuple" = some true := by decide +kernel
instance : Step (wO (dIsi "tuple" (.tuple ds)) r P) (P (.fz (.bool true)) r) := ⟨fun q => ⟨.fz (.bool true), by show (kitB "tuple" "tuple").map (fun b => OV.fz (PyData.bool b)) = _; rw [kb_tuple_tuple]; rfl, q⟩⟩
theorem kb_dict_tuple : kitB "dict" "tuple" = some false := by decide +kernel
instance : Step (wO (dIsi "tuple" (.dict kvs)) r P) (P (.fz (.bool false)) r) := ⟨fun q => ⟨.fz (.bool false), by show (if ("tuple" : String) = "dict" then some (OV.fz (.bool (!isOb kvs))) else (kitB "dict" "tuple").map (fun b => OV.fz (PyData.bool b))) = _; rw [if_neg (by decide), kb_dict_tuple]; rfl, q⟩⟩
theorem kb_NoneType_dict : kitB "NoneType" "dict" = some false := by decide +kernel
instance : Step (wO (dIsi "dict" PyData.none) r P) (P (.fz (.bool false)) r) := ⟨fun q => ⟨.fz (.bool false), by show (kitB "NoneType" "dict").map (fun b => OV.fz (PyData.bool b)) = _; rw [kb_NoneType_dict]; rfl, q⟩⟩
theorem kb_bool_dict : kitB "bool" "dict" = some false := by decide +kernel
instance : Step (wO (dIsi "dict" (.bool u)) r P) (P (.fz (.bool false)) r) := ⟨fun q => ⟨.fz (.bool false), by show (kitB "bool" "dict").map (fun b => OV.fz (PyData.bool b)) = _; rw [kb_bool_dict]; rfl, q⟩⟩
theorem kb_int_dict : kitB "int" "dict" = some false := by decide +kernel
instance : Step (wO (dIsi "dict" (.int i)) r P) (P (.fz (.bool false)) r) := ⟨fun q => ⟨.fz (.bool false), by show (kitB "int" "dict").map (fun b => OV.fz (PyData.bool b)) = _; rw [kb_int_dict]; rfl, q⟩⟩
theorem kb_str_dict : kitB "str" "dict" = some false := by decide +kernel
instance : Step (wO (dIsi "dict" (.str z)) r P) (P (.fz (.bool false)) r) := ⟨fun q => ⟨.fz (.bool false), by show (kitB "str" "dict").map (fun b => OV.fz (PyData.bool b)) = _; rw [kb_str_dict]; rfl, q⟩⟩
theorem kb_list_dict : kitB "list" "dict" = some false := by decide +kernel
instance : Step (wO (dIsi "dict" (.list ds)) r P) (P (.fz (.bool false)) r) := ⟨fun q => ⟨.fz (.bool false), by show (kitB "list" "dict").map (fun b => OV.fz (PyData.bool b)) = _; rw [kb_list_dict]; rfl, q⟩⟩
theorem kb_tuple_dict : kitB "tuple" "dict" = some false := by decide +kernel
instance : Step (wO (dIsi "dict" (.tuple ds)) r P) (P (.fz (.bool false)) r) := ⟨fun q => ⟨.fz (.bool false), by show (kitB "tuple" "dict").map (fun b => OV.fz (PyData.bool b)) = _; rw [kb_tuple_dict]; rfl, q⟩⟩
instance : Step (wO (dIsi "dict" (.dict kvs)) r P) (P (.fz (.bool (!isOb kvs))) r) := ⟨fun q => ⟨.fz (.bool (!isOb kvs)), by show (if ("dict" : String) = "dict" then some (OV.fz (.bool (!isOb kvs))) else (kitB "dict" "dict").map (fun b => OV.fz (PyData.bool b))) = _; rw [if_pos rfl], q⟩⟩
instance [n : NoOb kvs] : Step (wO (dIsi "dict" (.dict kvs)) r P) (P (.fz (.bool true)) r) := ⟨fun q => ⟨.fz (.bool true), by show (if ("dict" : String) = "dict" then some (OV.fz (.bool (!isOb kvs))) else (kitB "dict" "dict").map (fun b => OV.fz (PyData.bool b))) = _; rw [if_pos rfl, n.h]; rfl, q⟩⟩
end
section
variable {P : SV → S → Prop} {r : S} {l : List Nat} {c s : Nat}
instance : Step (wO (dFind3 (.str (tx l)) [.str (tx [c]), .int (s : Nat)]) r P) (P (.fz (.int (optI (nxt l c s)))) r) := ⟨fun q => ⟨.fz (.int (optI (nxt l c s))), by
  rw [d_find3, find3_one l c (s : Nat) (by omega)]; rfl, q⟩⟩
instance : Step (wO (dFind3 (.str (tx l)) [.str (tx [c]), .int 0]) r P) (P (.fz (.int (optI (nxt l c 0)))) r) := ⟨fun q => ⟨.fz (.int (optI (nxt l c 0))), by
  rw [d_find3, find3_one l c 0 (by omega)]; rfl, q⟩⟩
end
theorem ltrs_get {l : List Nat} {i : Nat} {d : D} (h : (ltrs l)[i]? = some d) : ∃ c, l[i]? = some c ∧ d = .str (tx [c]) := by
  unfold ltrs at h
  rw [List.getElem?_map] at h
  obtain ⟨c, hc, e⟩ := Option.map_eq_some_iff.mp h
  exact ⟨c, hc, e.symm⟩
theorem ltrs_len {l : List Nat} : (ltrs l).length = l.length := by simp [ltrs]
theorem szb' {n : Nat} (h : n ≤ 1000000) : n ≤ sizeLine := by rw [sizeLine_eq]; omega
theorem szl' {n : Nat} (h : n ≤ 1000000) : n < sizeLine := by rw [sizeLine_eq]; omega
end QM
namespace QM
open PySem PySem.Spec L2 QL QP
local macro_rules | `(tactic| decreasing_trivial_pre_omega) => `(tactic| first
  | apply QM.Step.go
  | refine ⟨rfl, ?_⟩
  | refine ⟨⟨rfl, rfl⟩, ?_⟩
  | refine ⟨_, rfl, ?_⟩
  | refine ⟨_, _, rfl, ?_⟩
  | refine ⟨_, _, _, rfl, ?_⟩
  | refine ⟨Nat.le_of_ble_eq_true rfl, ?_⟩
  | refine wAt_r rfl ?_
  | refine wB_t rfl ?_
  | refine wB_f rfl ?_)
theorem pick_sp {t : Int × Int} {many : Int} (ok : TapeOk t = true) (h0 : 0 < many) (h1 : many < 1000000000000000000000000000000) : wFT (F__law_pick t [.int many]) (fun v t' => TapeOk t' = true ∧ ∃ f : Nat, v = .fz (.int f) ∧ (f : Int) < many) (fun _ _ _ => False) := by
  obtain ⟨f, t', e, o, p, q⟩ := pick_eq ok h0 h1
  rw [e]
  exact ⟨rfl, o, f.toNat, by rw [Int.toNat_of_nonneg p], by omega⟩
theorem atI_lt {α : Type} {xs : List α} {f : Nat} (h : f < xs.length) : atI xs (f : Int) = some xs[f] := by
  have := atI_nat (List.getElem?_eq_getElem h)
  exact this
theorem one_of_sp {t : Int × Int} {ds : List D} (ok : TapeOk t = true) (h0 : ds ≠ []) (h1 : ds.length < 1000000000000) : wFT (F__law_one_of t [.list ds]) (fun v t' => TapeOk t' = true ∧ ∃ d ∈ ds, v = .fz d) (fun _ _ _ => False) := by
  refine wFT_go ?_
  unfold B__law_one_of
  repeat' decreasing_trivial_pre_omega
  have hl : 0 < ds.length := List.length_pos_iff.mpr h0
  refine wFT_use (pick_sp ok (by omega) (by omega)) (fun v t' ⟨o, f, e, hf⟩ => ?_)
  subst e
  repeat' decreasing_trivial_pre_omega
  refine wAt_r (atI_lt (by omega)) ?_
  exact ⟨rfl, t', rfl, o, _, List.getElem_mem _, rfl⟩
instance : OfS "" [] := ⟨by decide⟩
theorem join0 (l : List Nat) : Txt.join (tx []) (l.map fun c => tx [c]) = tx l := by
  show Builtin.Str.glued (tx []) _ = _
  rw [StrLaws.glued_eq_join]
  have e0 : ∀ x : Str, tx [] ++ x = x := fun x => by
    show (⟨#[] ++ x.cps⟩ : Str) = x
    simp
  induction l with
  | nil => rfl
  | cons c l ih =>
    cases l with
    | nil => rfl
    | cons c' l =>
      show tx [c] ++ tx [] ++ Str.join (tx []) ((c' :: l).map fun c => tx [c]) = _
      rw [ih, tx_add, tx_add]; rfl
theorem strs_ltrs (l : List Nat) : strsD (ltrs l) = some (l.map fun c => tx [c]) := by
  induction l with
  | nil => rfl
  | cons c l ih =>
    show (strsD (ltrs l)).map _ = _
    rw [ih]; rfl
theorem sum_ones (l : List Nat) : ((l.map fun c => tx [c]).map (·.length)).sum = l.length := by
  induction l with
  | nil => rfl
  | cons c l ih =>
    rw [List.map_cons, List.map_cons, List.sum_cons, ih]
    simp [Nat.add_comm]
theorem cut_up {α : Type} (xs : List α) (b : Nat) : cutL xs none (some (b : Int)) = xs.take b := cut_to xs b
/-- what is left of p behind a walk through l -/
def remL : List Nat → List Nat → List Nat
  | _, [] => []
  | [], p => p
  | b :: l, a :: p => if a = b then remL l p else remL l (a :: p)
end QM
namespace QM
open PySem PySem.Spec L2 QL QP
local macro_rules | `(tactic| decreasing_trivial_pre_omega) => `(tactic| first
  | apply QM.Step.go
  | refine ⟨rfl, ?_⟩
  | refine ⟨⟨rfl, rfl⟩, ?_⟩
  | refine ⟨_, rfl, ?_⟩
  | refine ⟨_, _, rfl, ?_⟩
  | refine ⟨_, _, _, rfl, ?_⟩
  | refine ⟨Nat.le_of_ble_eq_true rfl, ?_⟩
  | refine wAt_r rfl ?_
  | refine wB_t rfl ?_
  | refine wB_f rfl ?_)
inductive Sy where
  | has (p : List Nat) | no (s : Sy) | an (s t : Sy) | or (s t : Sy)
instance : OfS "has" [104, 97, 115] := ⟨by decide +kernel⟩
instance : OfS "not" [110, 111, 116] := ⟨by decide +kernel⟩
instance : OfS "and" [97, 110, 100] := ⟨by decide +kernel⟩
instance : OfS "or" [111, 114] := ⟨by decide +kernel⟩
def Sy.deep : Sy → Nat
  | .has _ => 1
  | .no s => s.deep + 1
  | .an s t => max s.deep t.deep + 1
  | .or s t => max s.deep t.deep + 1
def Sy.ok : Sy → Prop
  | .has p => Tx p ∧ p.length ≤ 1000
  | .no s => s.ok
  | .an s t => s.ok ∧ t.ok
  | .or s t => s.ok ∧ t.ok
def Sy.kept (l : List Nat) : Sy → Bool
  | .has p => decide (remL l p = [])
  | .no s => !s.kept l
  | .an s t => s.kept l && t.kept l
  | .or s t => s.kept l || t.kept l
theorem Sy.pos (s : Sy) : 1 ≤ s.deep := by cases s <;> simp [Sy.deep]
theorem is_text_R {l : List Nat} (hl : l.length ≤ 1000000) : Ret (F_is_text [.str (tx l)]) (.fz (.bool (decide (Tx l)))) := Ret.of_eq (is_text_eq l (szb' hl))
end QM
namespace QM
open PySem PySem.Spec L2 QL QP
section
variable {P : SV → S → Prop} {PD : D → S → Prop} {PL : List D → S → Prop} {PP : List (D × D) → S → Prop} {X : XPo} {r : S} {p : Po} {fa fb fc fk fv : S → Res D} {F : S → Res (List (D × D))} {FL : S → Res (List D)}
  {op op2 : D → D → Option OV} {i j : Nat} {a b : Int} {sl : List (Option SV)} {tp : Option (Int × Int)} {ds es : List D} {l m : List Nat}
instance : Step (wE (fChain op op2 fa fb fc r) P X) (wE (fa r) (fun x r => wE (fb r) (fun y r => wO (op x y) r fun v r => wV v fun d => wBo d fun b => wB b (wE (fc r) (fun z r => wO (op2 y z) r P) X) (P (.fz (.bool false)) r)) X) X) := ⟨fun h => wE_bind (wE_mono h fun x r h => wE_bind (wE_mono h fun y r h => by
  obtain ⟨z, e, d, e2, b, e3, h⟩ := h
  subst e3
  have ez : z = .fz (.bool b) := by
    cases z with
    | fz d => cases e2; rfl
    | nl d => cases e2
    | nt d => cases e2
    | nd d => cases e2
  subst ez
  rw [e]
  cases b with
  | true => exact wE_bind (wE_mono (h.1 rfl) fun _ _ h => wO_ov h)
  | false => exact h.2 rfl))⟩
instance : Step (wO (dPow (.int a) (.int b)) r P) ((0 ≤ b ∧ (bitsI a : Int) * b ≤ 2 ^ 27) ∧ P (.fz (.int (a ^ b.toNat))) r) := ⟨fun q => wO_of (z' := .fz (.int (a ^ b.toNat))) (by unfold dPow; exact if_pos q.1) q.2⟩
instance : Step (wE (pNil r) PP X) (PP [] r) := ⟨id⟩
instance : Step (wE (pCons fk fv F r) PP X) (wE (fk r) (fun k r => wE (fv r) (fun v r => wE (F r) (fun ps r => PP ((k, v) :: ps) r) X) X) X) := ⟨fun h => wE_bind (wE_mono h fun _ _ h => wE_bind (wE_mono h fun _ _ h => wE_bind (wE_mono h fun _ _ h => h)))⟩
instance : Step (wE (eDisp F r) P X) (wE (F r) (fun ps r => ∃ cs, keysD ps = some cs ∧ ps.length ≤ 15 ∧ P (.od (mergeD [] cs)) r) X) := ⟨fun h => wE_bind (wE_mono h fun ps r h => by
  obtain ⟨cs, e, hl, h⟩ := h
  rw [e]
  show wE (if ps.length ≤ 15 then _ else _) P X
  rw [if_pos hl]; exact h)⟩
instance : Step (wE (eDispT F r) P X) (wE (F r) (fun ps r => ∃ cs, keysDT ps = some cs ∧ ps.length ≤ 15 ∧ P (.ot (mergeDT [] cs)) r) X) := ⟨fun h => wE_bind (wE_mono h fun ps r h => by
  obtain ⟨cs, e, hl, h⟩ := h
  rw [e]
  show wE (if ps.length ≤ 15 then _ else _) P X
  rw [if_pos hl]; exact h)⟩
def wPp (xs : List D) (k : Int) (Q : D → List D → Prop) : Prop := False ∨ ∃ q, popD xs k = some q ∧ Q q.1 q.2
theorem wPp_nat {xs : List D} {n : Nat} {Q : D → List D → Prop} (h : n < xs.length) (hn : n ≤ 1000000) (q : ∀ d, xs[n]? = some d → Q d (xs.eraseIdx n)) : wPp xs (n : Int) Q := by
  refine .inr ⟨(xs[n], xs.eraseIdx n), ?_, q _ (List.getElem?_eq_getElem h)⟩
  unfold popD
  have e62 : (2 : Int) ^ 62 = 4611686018427387904 := by decide
  rw [if_pos (by rw [e62]; omega)]
  have : ixN xs.length (n : Int) = some n := by
    unfold ixN
    simp
    omega
  rw [this]
  simp [List.getElem?_eq_getElem h]
instance {fe : S → Res D} : Step (wE (fPop j fe ⟨sl, tp⟩) PD X) (wL sl j fun x => wA x fun _ => wE (fe ⟨sl, tp⟩) (fun d r => wIn d fun k => wL r.sl j fun x => wA x fun xs => wPp xs k fun d xs' => wU r.sl j (some (.ol xs')) fun sl => wRS sl r.tp fun r => PD d r) X) := ⟨fun ⟨x, e, xs0, e1, h⟩ => by
  subst e1
  unfold fPop
  try dsimp only
  rw [e]
  refine wE_bind (wE_mono h fun d r h => ?_)
  obtain ⟨k, e2, y, e3, xs, e4, h | ⟨q, e5, e6, h⟩⟩ := h
  · exact h.elim
  subst e2 e4
  try dsimp only
  rw [e3]
  try dsimp only
  rw [e5]
  exact h⟩
instance : Step (wE (fZip FL r) PL X) (wE (FL r) (fun ds r => ∃ x y, ds = [x, y] ∧ wIt x fun ds => wIt y fun es => PL (zipL ds es) r) X) := ⟨fun h => wE_bind (wE_mono h fun ds r h => by
  obtain ⟨x, y, e, ds, e2, es, e3, h⟩ := h
  subst e
  show wE (match itemsD x, itemsD y with
    | some ds, some es => Res.ok (zipL ds es) r
    | _, _ => Res.bad) PL X
  rw [e2, e3]
  exact h)⟩
instance : Step (wO (dSortA [.list ds]) r P) (∃ ys, strsD ds = some ys ∧ P (.ol ((sortS ys).map .str)) r) := ⟨fun ⟨ys, e, q⟩ => wO_of (z' := .nl ((sortS ys).map .str)) (by
  unfold dSortA
  dsimp only
  rw [e]) q⟩
instance : Step (wO (dTupA [.list ds]) r P) (P (.fz (.tuple ds)) r) := ⟨wO_of (z' := .nt _) rfl⟩
instance : Step (wO (dTupA [.tuple ds]) r P) (P (.fz (.tuple ds)) r) := ⟨fun q => ⟨.fz _, rfl, q⟩⟩
instance : Step (wO (dTupA [.str (tx l)]) r P) (l.length ≤ sizeLine ∧ P (.fz (.tuple (ltrs l))) r) := ⟨fun q => wO_of (z' := .nt (ltrs l)) (by
  unfold dTupA
  dsimp only
  rw [tx_len', if_pos q.1]; rfl) q.2⟩
end
end QM
namespace QM
open PySem PySem.Spec L2 QL QP
local macro_rules | `(tactic| decreasing_trivial_pre_omega) => `(tactic| first
  | apply QM.Step.go
  | refine ⟨rfl, ?_⟩
  | refine ⟨⟨rfl, rfl⟩, ?_⟩
  | refine ⟨_, rfl, ?_⟩
  | refine ⟨_, _, rfl, ?_⟩
  | refine ⟨_, _, _, rfl, ?_⟩
  | refine ⟨Nat.le_of_ble_eq_true rfl, ?_⟩
  | refine wAt_r rfl ?_
  | refine wB_t rfl ?_
  | refine wB_f rfl ?_)
def ddL {α : Type} [DecidableEq α] : List α → List α → List α
  | acc, [] => acc
  | acc, c :: r => if c ∈ acc then ddL acc r else ddL (acc ++ [c]) r
section
variable {α : Type} [DecidableEq α]
theorem ddL_self : ∀ (l acc : List α), (acc ++ l).Nodup → ddL acc l = acc ++ l
  | [], acc, h => by simp [ddL]
  | c :: l, acc, h => by
    simp only [ddL]
    have hc : c ∉ acc := fun z => (List.nodup_append.mp h).2.2 c z c (by simp) rfl
    rw [if_neg hc, ddL_self l (acc ++ [c]) (by simpa using h)]
    simp
theorem ddL_len : ∀ (l acc : List α), (ddL acc l).length ≤ acc.length + l.length
  | [], acc => by simp [ddL]
  | c :: l, acc => by
    simp only [ddL, List.length_cons]
    split
    · have := ddL_len l acc; omega
    · have := ddL_len l (acc ++ [c]); simp at this; omega
end
theorem eqv_nil (xs : List D) : PyData.eqv (.list xs) (.list []) = xs.isEmpty := by
  cases xs <;> rfl
theorem any_eqv {α : Type} [DecidableEq α] {f : α → D} (h : ∀ a b, PyData.eqv (f a) (f b) = decide (a = b)) (a : α) (xs : List α) : ((xs.map f).any fun y => PyData.eqv y (f a)) = decide (a ∈ xs) := by
  induction xs with
  | nil => rfl
  | cons x xs ih =>
    rw [List.map_cons, List.any_cons, ih, h]
    simp only [List.mem_cons, eq_comm (a := x)]
    by_cases e : a = x <;> simp [e]
theorem erase_perm {α : Type} : ∀ {xs : List α} {n : Nat} {x : α}, xs[n]? = some x → (x :: xs.eraseIdx n).Perm xs
  | [], n, x, h => by simp at h
  | y :: xs, 0, x, h => by
    simp at h
    subst h
    simp
  | y :: xs, n + 1, x, h => by
    simp at h
    rw [List.eraseIdx_cons_succ]
    exact (List.Perm.swap y x _).trans ((erase_perm h).cons y)
theorem shuffled_sp {t : Int × Int} {ds : List D} (ok : TapeOk t = true) (hl : ds.length ≤ 1000) (hok : ∀ d ∈ ds, okN 3 d) :
    wFT (F__law_shuffled t [.list ds]) (fun v t' => TapeOk t' = true ∧ ∃ es, v = .ol es ∧ es.Perm ds) (fun _ _ _ => False) := by
  refine wFT_go ?_
  unfold B__law_shuffled
  repeat' decreasing_trivial_pre_omega
  refine wWhile_inv (n := ds.length) (fun k r => ∃ left found t', r = ⟨[some .tape, some (.fz (.list ds)), some (.ol left), some (.ol found)], some t'⟩ ∧ TapeOk t' = true ∧ left.length = k ∧ (left ++ found).Perm ds) (by unfold fuel; omega) ⟨_, _, _, rfl, ok, rfl, by simp⟩ ?_
  rintro k r ⟨left, found, t', rfl, o, hk, hp⟩
  have hlen := hp.length_eq
  rw [List.length_append] at hlen
  unfold _law_shuffled_t1
  repeat' decreasing_trivial_pre_omega
  refine ⟨⟨(okN_list (n := 3) fun d hd => hok d (hp.mem_iff.mp (by simp [hd]))).ok, rfl⟩, ?_⟩
  rw [eqv_nil]
  cases left with
  | nil =>
    repeat' decreasing_trivial_pre_omega
    exact ⟨o, found, rfl, by simpa using hp⟩
  | cons d left =>
    repeat' decreasing_trivial_pre_omega
    refine ⟨left.length, by simpa using hk.symm, ?_⟩
    have h0 : (0 : Int) < ((d :: left).length : Nat) := by simp only [List.length_cons]; omega
    have h1 : (((d :: left).length : Nat) : Int) < 1000000000000000000000000000000 := by omega
    unfold _law_shuffled_b2
    repeat' decreasing_trivial_pre_omega
    refine wFT_use (pick_sp o h0 h1) (fun v t2 ⟨o2, n, e, hn⟩ => ?_)
    subst e
    repeat' decreasing_trivial_pre_omega
    refine wPp_nat (by omega) (by simp only [List.length_cons] at *; omega) fun x hx => ?_
    repeat' decreasing_trivial_pre_omega
    refine ⟨szl' (by omega), ?_⟩
    repeat' decreasing_trivial_pre_omega
    obtain ⟨hn2, ex⟩ := List.getElem?_eq_some_iff.mp hx
    refine ⟨left.length, Nat.le_refl _, _, _, _, rfl, o2, ?_, ?_⟩
    · rw [List.length_eraseIdx, if_pos hn2]; rfl
    · have p1 : (x :: (d :: left).eraseIdx n).Perm (d :: left) := erase_perm hx
      refine List.Perm.trans ?_ hp
      rw [← List.append_assoc]
      refine (List.perm_append_singleton x _).trans ?_
      rw [← List.cons_append]
      exact p1.append_right found
end QM
namespace QM
open PySem PySem.Spec L2 QL QP
local macro_rules | `(tactic| decreasing_trivial_pre_omega) => `(tactic| first
  | apply QM.Step.go
  | refine ⟨rfl, ?_⟩
  | refine ⟨⟨rfl, rfl⟩, ?_⟩
  | refine ⟨_, rfl, ?_⟩
  | refine ⟨_, _, rfl, ?_⟩
  | refine ⟨_, _, _, rfl, ?_⟩
  | refine ⟨Nat.le_of_ble_eq_true rfl, ?_⟩
  | refine wAt_r rfl ?_
  | refine wB_t rfl ?_
  | refine wB_f rfl ?_)
def asc : List Nat → Bool
  | a :: b :: r => decide (a < b) && asc (b :: r)
  | _ => true
theorem asc_pw : ∀ (l : List Nat), asc l = true ↔ l.Pairwise (· < ·)
  | [] => by simp [asc]
  | [a] => by simp [asc]
  | a :: b :: r => by
    have ih := asc_pw (b :: r)
    simp only [asc, Bool.and_eq_true, decide_eq_true_eq, ih]
    rw [List.pairwise_cons (a := a)]
    constructor
    · rintro ⟨h1, h2⟩
      refine ⟨fun x hx => ?_, h2⟩
      rcases List.mem_cons.mp hx with e | hx
      · subst e; exact h1
      · exact Nat.lt_trans h1 ((List.pairwise_cons.mp h2).1 x hx)
    · rintro ⟨h1, h2⟩
      exact ⟨h1 b (by simp), h2⟩
theorem lt_one (a b : Nat) : decide ([a] < [b]) = decide (a < b) := by
  apply decide_eq_decide.mpr
  constructor
  · intro h
    cases h with
    | rel h => exact h
    | cons h => cases h
  · exact fun h => List.Lex.rel h
def risF : D → Option D
  | .tuple [.str a, .str b] => some (.bool (decide (a.cps.toList < b.cps.toList)))
  | _ => none
def pairsB : List Nat → List Bool
  | a :: b :: r => decide (a < b) :: pairsB (b :: r)
  | _ => []
theorem ris_pairs : ∀ (c : Nat) (l : List Nat), (zipL (ltrs (c :: l)) (ltrs l)).filterMap risF = (pairsB (c :: l)).map .bool
  | c, [] => rfl
  | c, d :: l => by
    have ih := ris_pairs d l
    show (PyData.tuple [.str (tx [c]), .str (tx [d])] :: zipL (ltrs (d :: l)) (ltrs l)).filterMap risF = _
    have e : risF (PyData.tuple [.str (tx [c]), .str (tx [d])]) = some (.bool (decide ([c] < [d]))) := rfl
    rw [List.filterMap_cons, e, ih, lt_one]
    rfl
theorem pairs_asc : ∀ (l : List Nat), (pairsB l).all id = asc l
  | [] => rfl
  | [a] => rfl
  | a :: b :: r => by
    show (decide (a < b) && (pairsB (b :: r)).all id) = _
    rw [pairs_asc (b :: r)]
    rfl
theorem eqv_bool (a b : Bool) : PyData.eqv (.bool a) (.bool b) = decide (a = b) := by cases a <;> cases b <;> decide
theorem any_bool (bs : List Bool) : ((bs.map PyData.bool).any fun y => PyData.eqv y (.bool false)) = !bs.all id := by
  induction bs with
  | nil => rfl
  | cons b bs ih =>
    rw [List.map_cons, List.any_cons, ih, eqv_bool, List.all_cons]
    cases b <;> simp
theorem ok_bools (bs : List Bool) : okD (.list (bs.map PyData.bool)) = true := (okN_list (n := 3) fun d hd => by
  obtain ⟨b, _, rfl⟩ := List.mem_map.mp hd
  exact okN_bool).ok
theorem is_letters_R {l : List Nat} (hl : l.length ≤ 1000000) : Ret (F_is_letters [.str (tx l)]) (.fz (.bool (decide (Tx l) && (!l.isEmpty && asc l)))) := by
  refine Ret.go ?_
  unfold B_is_letters
  repeat' decreasing_trivial_pre_omega
  refine wF_ret (is_text_R hl) ?_
  repeat' decreasing_trivial_pre_omega
  refine wB_d (fun h => ?_) (fun h => ?_)
  · rw [decide_eq_true h]
    cases l with
    | nil =>
      repeat' decreasing_trivial_pre_omega
      rfl
    | cons c l =>
      have hs : (c :: l).length ≤ sizeLine := szb' hl
      repeat' decreasing_trivial_pre_omega
      refine ⟨hs, ?_⟩
      repeat' decreasing_trivial_pre_omega
      refine lc_map risF ?_ (fun d hd => ?_) ?_
      · rw [zipL_len, ltrs_len]
        exact Nat.le_trans (Nat.min_le_left _ _) hs
      · obtain ⟨i, hi⟩ := List.getElem?_of_mem hd
        obtain ⟨x, y, hx, hy, e⟩ := zipL_get hi
        obtain ⟨a, _, rfl⟩ := ltrs_get hx
        obtain ⟨b, _, rfl⟩ := ltrs_get hy
        subst e
        unfold is_letters_e1
        repeat' decreasing_trivial_pre_omega
        rfl
      · rw [ris_pairs]
        repeat' decreasing_trivial_pre_omega
        refine ⟨⟨rfl, ok_bools _⟩, ?_⟩
        rw [any_bool, pairs_asc]
        repeat' decreasing_trivial_pre_omega
        simp
  · rw [decide_eq_false h]
    repeat' decreasing_trivial_pre_omega
    rfl
end QM
namespace QM
open PySem PySem.Spec L2 QL QP
local macro_rules | `(tactic| decreasing_trivial_pre_omega) => `(tactic| first
  | apply QM.Step.go
  | refine ⟨rfl, ?_⟩
  | refine ⟨⟨rfl, rfl⟩, ?_⟩
  | refine ⟨_, rfl, ?_⟩
  | refine ⟨_, _, rfl, ?_⟩
  | refine ⟨_, _, _, rfl, ?_⟩
  | refine ⟨Nat.le_of_ble_eq_true rfl, ?_⟩
  | refine wAt_r rfl ?_
  | refine wB_t rfl ?_
  | refine wB_f rfl ?_)
theorem perm_map_inv {α β : Type} {f : α → β} (g : β → α) (hg : ∀ a, g (f a) = a) {ys : List β} {l : List α} (h : ys.Perm (l.map f)) : ∃ s : List α, ys = s.map f ∧ s.Perm l := by
  refine ⟨ys.map g, ?_, ?_⟩
  · rw [List.map_map]
    have : ys.map (f ∘ g) = ys.map id := List.map_congr_left fun y hy => by
      obtain ⟨a, _, e⟩ := List.mem_map.mp (h.mem_iff.mp hy)
      subst e
      show f (g (f a)) = f a
      rw [hg]
    rw [this, List.map_id]
  · have := h.map g
    rw [List.map_map] at this
    have e : l.map (g ∘ f) = l := by
      have : l.map (g ∘ f) = l.map id := List.map_congr_left fun a _ => hg a
      rw [this, List.map_id]
    rwa [e] at this
def unT (s : Str) : Nat := s.cps.toList.headD 0
theorem leS_one (a b : Nat) : leS (tx [a]) (tx [b]) = true ↔ a ≤ b := by
  unfold leS
  show (!decide ([b] < [a])) = true ↔ _
  rw [lt_one]
  simp
theorem sort_ones (l : List Nat) : ∃ s : List Nat, sortS (l.map fun c => tx [c]) = (s.map fun c => tx [c]) ∧ s.Perm l ∧ s.Pairwise (· ≤ ·) := by
  obtain ⟨s, e, p⟩ := perm_map_inv (f := fun c => tx [c]) unT (fun a => rfl) (sortS_perm (l.map fun c => tx [c]))
  refine ⟨s, e, p, ?_⟩
  have h := sortS_sorted (l.map fun c => tx [c])
  rw [e, List.pairwise_map] at h
  exact h.imp fun h => (leS_one _ _).mp h
theorem asc_of {l : List Nat} (h : l.Pairwise (· ≤ ·)) (n : l.Nodup) : asc l = true := (asc_pw l).mpr ((List.pairwise_and_iff.mpr ⟨h, n⟩).imp fun ⟨a, b⟩ => Nat.lt_of_le_of_ne a b)
theorem pw_eq : ∀ {s l : List Nat}, s.Perm l → s.Pairwise (· ≤ ·) → l.Pairwise (· ≤ ·) → s = l := fun p a b => List.Perm.eq_of_pairwise (fun x y _ _ h1 h2 => Nat.le_antisymm h1 h2) a b p
instance : OfS "abcxz" [97, 98, 99, 120, 122] := ⟨by decide +kernel⟩
theorem ltrs_take (l : List Nat) (n : Nat) : (ltrs l).take n = ltrs (l.take n) := by unfold ltrs; rw [List.map_take]
theorem ltrs_strs (s : List Nat) : (s.map fun c => tx [c]).map PyData.str = ltrs s := by unfold ltrs; rw [List.map_map]; rfl
def unD : D → Nat
  | .str s => unT s
  | _ => 0
theorem ltrs_inv {es : List D} {l : List Nat} (h : es.Perm (ltrs l)) : ∃ m, es = ltrs m ∧ m.Perm l := perm_map_inv (f := fun c => PyData.str (tx [c])) unD (fun _ => rfl) h
end QM
namespace QM
open PySem PySem.Spec L2 QL QP
/-- a def that raises -/
def Thr (x : FR) (c : Str) (f : List (Str × D)) : Prop := ∃ tp, x = .exc c f tp
section
variable {x : FR} {c v : Str} {f : List (Str × D)} {P : SV → Prop} {X : Str → List (Str × D) → Prop} {n : Nat} {B : S → RS} {ds : List D} {xs : List SV} {sl : List (Option SV)} {p : Po} {r : S} {fe : S → Res D} {tp : Option (Int × Int)} {PV : SV → S → Prop} {XV : XPo} {FB : S → Res SV} {hs : List HM} {PT : Addr}
theorem Thr.of_w (h : wF x (fun _ => False) (fun c' f' => c' = c ∧ f' = f)) : Thr x c f := by
  cases x with
  | ok y t => exact h.2.elim
  | exc c' f' t => obtain ⟨a, b⟩ := h; subst a b; exact ⟨t, rfl⟩
  | bad => exact h.elim
theorem Thr.go [f' : Fz ds xs] [m : Mk n xs sl] (h : wS (B ⟨sl, none⟩) ⟨fun _ => False, fun x _ => x.out = true ∧ False, fun _ => False, fun _ => False, fun c' f' _ => c' = c ∧ f' = f⟩) : Thr (bodyF n B ds) c f := Thr.of_w (wF_go h)
instance : Step (wS (sRaise c v fe r) p) (wE (fe r) (fun d r => p.ex c [(v, d)] r) p.ex) := ⟨fun h => wE_bindS (wE_mono h fun _ _ h => h)⟩
def wTell (hs : List HM) (c : Str) (f : List (Str × D)) (Q : List D → Prop) : Prop := False ∨ ∃ ds, tellR hs c f = some ds ∧ Q ds
def wScr (x : SV) (PT : Addr) (Q : Prop) : Prop := ∃ T, x = .scr T ∧ PT ∈ T ∧ Q
instance {Q : Prop} : Step (wScr (.scr [PT]) PT Q) Q := ⟨fun q => ⟨_, rfl, by simp, q⟩⟩
instance : Step (wE (fRef PT hs FB ⟨sl, tp⟩) PV XV) (wL sl 0 fun x => wScr x PT (wE (FB ⟨sl, tp⟩) (fun _ r => PV (.ol []) r) (fun c f r => wTell hs c f fun ds => PV (.ol ds) r))) := ⟨fun ⟨x, e, T, e2, hT, h⟩ => by
  subst e2
  unfold fRef
  dsimp only
  rw [e]
  dsimp only
  rw [if_pos hT]
  cases e3 : FB ⟨sl, tp⟩ with
  | ok y r => rw [e3] at h; exact h
  | bad => rw [e3] at h; exact h
  | exc c f r =>
    rw [e3] at h
    rcases h with h | ⟨ds, e4, h⟩
    · exact h.elim
    · unfold refIn
      dsimp only
      rw [e4]
      exact h⟩
end
end QM
namespace QM
open PySem PySem.Spec L2 QL QP
def sml (d : D) : Bool := d.showable && decide (d.depth ≤ 50) && d.leavesShort 40 && decide (d.weight ≤ 10000)
theorem sml_tx {l : List Nat} (h : l.length ≤ 1000) (hc : ∀ c ∈ l, c < 16 ^ 8) : sml (.str (tx l)) = true := by
  unfold sml
  simp only [Bool.and_eq_true, decide_eq_true_eq]
  refine ⟨⟨⟨rfl, by simp [PyData.depth]⟩, ?_⟩, ?_⟩
  · show (tx l).cps.toList.all _ = true
    simp only [List.all_eq_true, decide_eq_true_eq]
    intro c hcm
    exact hc c (by simpa [tx] using hcm)
  · simp [PyData.weight, tx]
    omega
instance : Step (wO (dReprA [d]) r P) (showA d = true ∧ P (.fz (.str d.shown)) r) := ⟨fun q => wO_of (z' := .fz (.str d.shown)) (by
  show (if showA d = true then _ else _) = _
  rw [if_pos q.1]) q.2⟩
end QM
namespace QM
open PySem PySem.Spec L2 QL QP
local macro_rules | `(tactic| decreasing_trivial_pre_omega) => `(tactic| first
  | apply QM.Step.go
  | refine ⟨rfl, ?_⟩
  | refine ⟨⟨rfl, rfl⟩, ?_⟩
  | refine ⟨_, rfl, ?_⟩
  | refine ⟨_, _, rfl, ?_⟩
  | refine ⟨_, _, _, rfl, ?_⟩
  | refine ⟨Nat.le_of_ble_eq_true rfl, ?_⟩
  | refine ⟨⟨Nat.le_of_ble_eq_true rfl, by decide, by decide⟩, ?_⟩
  | refine wAt_r rfl ?_
  | refine wB_t rfl ?_
  | refine wB_f rfl ?_)
def wOd (x : SV) (Q : List (D × D) → Prop) : Prop := ∃ kvs, x = .od kvs ∧ Q kvs
def wKey (k : D) (Q : Key → Prop) : Prop := ∃ c, keyD k = some c ∧ Q c
section
variable {P : SV → S → Prop} {X : XPo} {r : S} {p : Po} {fv fk : S → Res D} {i : Nat} {sl : List (Option SV)} {tp : Option (Int × Int)}
instance {Q : List (D × D) → Prop} {kvs : List (D × D)} : Step (wOd (.od kvs) Q) (Q kvs) := ⟨fun q => ⟨_, rfl, q⟩⟩
instance {Q : Key → Prop} {a : Int} : Step (wKey (.int a) Q) (Q (.inl a)) := ⟨fun q => ⟨_, rfl, q⟩⟩
instance {Q : Key → Prop} {z : Str} : Step (wKey (.str z) Q) (Q (.inr z)) := ⟨fun q => ⟨_, rfl, q⟩⟩
instance : Step (wS (sPutK i fv fk r) p) (wE (fv r) (fun v r => wL r.sl i fun x => wOd x fun _ => wE (fk r) (fun k r => wKey k fun c => wL r.sl i fun x => wOd x fun kvs => kvs.length < sizeLine ∧ wU r.sl i (some (.od (putD kvs c v))) fun sl => wRS sl r.tp p.nx) p.ex) p.ex) := ⟨fun h => wE_bindS (wE_mono h fun v r h => by
  obtain ⟨x, e, kvs, e2, h⟩ := h
  subst e2
  rw [e]
  refine wE_bindS (wE_mono h fun k r h => ?_)
  obtain ⟨c, e3, x, e4, kvs, e5, hl, h⟩ := h
  subst e5
  rw [e3, e4]
  show wS (if kvs.length < sizeLine then _ else _) p
  rw [if_pos hl]
  exact h.2)⟩
instance : Step (wE (fLenK i ⟨sl, tp⟩) P X) (wL sl i fun x => wOd x fun kvs => P (.fz (.int (kvs.length : Nat))) ⟨sl, tp⟩) := ⟨fun ⟨x, e, kvs, e2, h⟩ => by
  subst e2
  unfold fLenK
  dsimp only
  rw [e]
  exact h⟩
instance {PL : List D → S → Prop} {l : List Nat} [h : Get sl i (some (.fz (.str (tx l))))] : Step (wE (fEnum (aCons (fV i) aNil) ⟨sl, tp⟩) PL X) (PL (enumL (ltrs l)) ⟨sl, tp⟩) := ⟨fun q => Step.go (Step.go (Step.go (Step.go ⟨_, _, rfl, .inr ⟨_, rfl, rfl⟩, q⟩)))⟩
end
abbrev Pn (q : S → Prop) : Po := ⟨q, fun _ _ => False, fun _ => False, fun _ => False, XN⟩
theorem cutP {x : RS} {p : Po} {q : S → Prop} (h : wS x (Pn q)) (k : ∀ s, q s → p.nx s) : wS x p := wS_mono h k (fun _ _ z => z.elim) (fun _ z => z.elim) (fun _ z => z.elim) (fun _ _ _ z => z.elim)
theorem seqP {A B : S → RS} {r : S} {q : S → Prop} {p : Po} (h : wS (A r) (Pn q)) (k : ∀ s, q s → wS (B s) p) : wS (sSeq A B r) p := wS_go (cutP h k)
theorem eqv_refl_str {x : Str} : PyData.eqv (.str x) (.str x) = true := by rw [eqv_str]; simp
theorem one_all {Pb : D → Bool} {t : Int × Int} {ds : List D} (ok : TapeOk t = true) (hall : ds.all Pb = true) (h0 : ds ≠ []) (h1 : ds.length < 1000000000000) : wFT (F__law_one_of t [.list ds]) (fun v t' => TapeOk t' = true ∧ ∃ d, v = .fz d ∧ Pb d = true) (fun _ _ _ => False) :=
  wFT_use (one_of_sp ok h0 h1) fun v t' ⟨o, d, hd, e⟩ => ⟨o, d, e, List.all_eq_true.mp hall d hd⟩
/-- a thing that weighs little -/
def tiny (d : D) : Bool := sml d && decide (d.depth ≤ 40) && decide (d.weight ≤ 1000)
theorem tiny_of {d : D} (h : tiny d = true) : sml d = true ∧ d.depth ≤ 40 ∧ d.weight ≤ 1000 := by
  unfold tiny at h
  simp only [Bool.and_eq_true, decide_eq_true_eq] at h
  exact ⟨h.1.1, h.1.2, h.2⟩
theorem tiny_tx {l : List Nat} (h : l.length ≤ 200) (hc : ∀ c ∈ l, c < 16 ^ 8) : tiny (.str (tx l)) = true := by
  unfold tiny
  simp only [Bool.and_eq_true, decide_eq_true_eq]
  refine ⟨⟨sml_tx (by omega) hc, by simp [PyData.depth]⟩, ?_⟩
  simp [PyData.weight, tx]
  omega
abbrev Good (d : D) : Prop := Ret (F_is_text [d]) (.fz (.bool true))
abbrev GoodL (d : D) : Prop := Ret (F_is_letters [d]) (.fz (.bool true))
theorem goodL_tx {l : List Nat} (hl : l.length ≤ 1000000) (h : Tx l) (h0 : l ≠ []) (ha : asc l = true) : GoodL (.str (tx l)) := by
  have := is_letters_R hl
  rwa [decide_eq_true h, ha, show l.isEmpty = false by cases l <;> simp_all] at this
instance : OfS "a" [97] := ⟨by decide +kernel⟩
instance : OfS "b" [98] := ⟨by decide +kernel⟩
instance : OfS "A" [65] := ⟨by decide +kernel⟩
instance : OfS "-" [45] := ⟨by decide +kernel⟩
instance : OfS "1" [49] := ⟨by decide +kernel⟩
instance : OfS "a1" [97, 49] := ⟨by decide +kernel⟩
instance : OfS "a b" [97, 32, 98] := ⟨by decide +kernel⟩
instance : OfS "ab" [97, 98] := ⟨by decide +kernel⟩
instance : OfS "ba" [98, 97] := ⟨by decide +kernel⟩
instance : OfS "aa" [97, 97] := ⟨by decide +kernel⟩
instance : OfS "aba" [97, 98, 97] := ⟨by decide +kernel⟩
instance : OfS "abc" [97, 98, 99] := ⟨by decide +kernel⟩
instance : OfS "text" [116, 101, 120, 116] := ⟨by decide +kernel⟩
instance : OfS "letters" [108, 101, 116, 116, 101, 114, 115] := ⟨by decide +kernel⟩
theorem nats_ints (ns : List Nat) : (ns.map fun n => PyData.int (n : Nat)) = (ns.map fun (n : Nat) => ((n : Nat) : Int)).map .int := by rw [List.map_map]; rfl
end QM
namespace QM
open PySem PySem.Spec L2 QL QP
/-- behind the first places of p from s on -/
def adv (l : List Nat) : List Nat → Nat → Option Nat
  | [], s => some s
  | c :: p, s => (nxt l c s).bind fun k => adv l p (k + 1)
theorem adv_snoc (l : List Nat) (c : Nat) : ∀ (p : List Nat) (s : Nat), adv l (p ++ [c]) s = (adv l p s).bind fun k => (nxt l c k).map (· + 1)
  | [], s => by
    show ((nxt l c s).bind fun k => some (k + 1)) = (nxt l c s).map (· + 1)
    cases nxt l c s <;> rfl
  | a :: p, s => by
    show ((nxt l a s).bind fun k => adv l (p ++ [c]) (k + 1)) = ((nxt l a s).bind fun k => adv l p (k + 1)).bind _
    cases nxt l a s with
    | none => rfl
    | some k => exact adv_snoc l c p (k + 1)
def fnext (l : List Nat) (q : List Nat × Nat) : List (List Nat × Nat) := (QS.sortU (l.drop q.2)).map fun c => (q.1 ++ [c], (nxt l c q.2).getD 0 + 1)
def fnd (l : List Nat) : Nat → List (List Nat × Nat)
  | 0 => [([], 0)]
  | n + 1 => (fnd l n).flatMap (fnext l)
/-- the unlike pieces of n letters -/
def pcs (l : List Nat) (n : Nat) : List (List Nat) := (fnd l n).map (·.1)
theorem sub_lenA {α : Type} [DecidableEq α] : ∀ {S ls : List α}, S.Nodup → (∀ c ∈ S, c ∈ ls) → S.length ≤ ls.length
  | [], _, _, _ => Nat.zero_le _
  | c :: S, ls, hn, h => by
    have hc := h c (List.mem_cons_self ..)
    have ih := sub_lenA (S := S) (ls := ls.erase c) (List.nodup_cons.mp hn).2 fun d hd => by
      have : d ≠ c := fun e => (List.nodup_cons.mp hn).1 (e ▸ hd)
      exact (List.mem_erase_of_ne this).mpr (h d (List.mem_cons_of_mem _ hd))
    rw [List.length_erase_of_mem hc] at ih
    have := List.length_pos_of_mem hc
    simp only [List.length_cons]
    omega
end QM
namespace QM
open PySem PySem.Spec L2 QL QP
local macro_rules | `(tactic| decreasing_trivial_pre_omega) => `(tactic| first
  | apply QM.Step.go
  | refine ⟨rfl, ?_⟩
  | refine ⟨⟨rfl, rfl⟩, ?_⟩
  | refine ⟨_, rfl, ?_⟩
  | refine ⟨_, _, rfl, ?_⟩
  | refine ⟨_, _, _, rfl, ?_⟩
  | refine ⟨Nat.le_of_ble_eq_true rfl, ?_⟩
  | refine ⟨⟨Nat.le_of_ble_eq_true rfl, by decide, by decide⟩, ?_⟩
  | refine wAt_r rfl ?_
  | refine wB_t rfl ?_
  | refine wB_f rfl ?_)
theorem cut_fr {α : Type} (xs : List α) (b : Nat) : cutL xs (some (b : Int)) none = xs.drop b := by
  unfold cutL
  rw [HT.sIx_nat, HT.sIx_none]
  by_cases h : b ≤ xs.length
  · rw [Nat.min_eq_left h, List.take_of_length_le (by rw [List.length_drop]; exact Nat.le_refl _)]
  · rw [Nat.min_eq_right (by omega), Nat.sub_self, List.take_zero, List.drop_of_length_le (by omega)]
theorem rngL_get {m j : Nat} {d : D} (h : (rngL 0 m)[j]? = some d) : d = .int (j : Nat) ∧ j < m := by
  unfold rngL at h
  rw [List.getElem?_map] at h
  obtain ⟨a, ha, e⟩ := Option.map_eq_some_iff.mp h
  obtain ⟨h1, h2⟩ := List.getElem?_eq_some_iff.mp ha
  rw [List.length_range] at h1
  rw [List.getElem_range] at h2
  subst h2
  exact ⟨by rw [← e]; simp, h1⟩
instance {n : Nat} {b : Int} {A : Prop} : Step (wRg 0 ((n : Nat) + b) A) ((0 ≤ b ∧ (n : Int) + b ≤ 1000000) ∧ A) := ⟨fun h => ⟨by
  have e : ((n : Nat) : Int) + b = ((n + b.toNat : Nat) : Int) := by omega
  rw [e]
  exact rgOk_small (n := 0) (by decide) (by omega), h.2⟩⟩
instance {n : Nat} {b : Int} {A : Prop} : Step (wSm ((n : Nat) + b) A) ((0 ≤ b ∧ (n : Int) + b ≤ 1000000) ∧ A) := ⟨fun h => ⟨by
  have e : ((n : Nat) : Int) + b = ((n + b.toNat : Nat) : Int) := by omega
  rw [e]
  exact sml_small (by omega), h.2⟩⟩
abbrev seenP (K : List (List Nat)) : List (D × D) := K.map fun p => (.str (tx p), .bool true)
instance {K : List (List Nat)} : NoOb (seenP K) := ⟨by cases K <;> rfl⟩
instance {α : Type} {K : List α} {f : α → Str} {g : α → D} : NoOb (K.map fun p => (PyData.str (f p), g p)) := ⟨by cases K <;> rfl⟩
instance {α : Type} {K : List α} {f : α → List D} {g : α → D} : NoOb (K.map fun p => (PyData.tuple (f p), g p)) := ⟨by cases K <;> rfl⟩
end QM
namespace QM
open PySem PySem.Spec L2 QL QP
end QM
namespace QM
open PySem PySem.Spec L2 QL QP
local macro_rules | `(tactic| decreasing_trivial_pre_omega) => `(tactic| first
  | apply QM.Step.go
  | refine ⟨rfl, ?_⟩
  | refine ⟨⟨rfl, rfl⟩, ?_⟩
  | refine ⟨_, rfl, ?_⟩
  | refine ⟨_, _, rfl, ?_⟩
  | refine ⟨_, _, _, rfl, ?_⟩
  | refine ⟨Nat.le_of_ble_eq_true rfl, ?_⟩
  | refine wAt_r rfl ?_
  | refine wB_t rfl ?_
  | refine wB_f rfl ?_)
abbrev natsD (ns : List Nat) : List D := ns.map fun n => .int (n : Nat)
end QM
namespace QM
open PySem PySem.Spec L2 QL QP
/-- the pieces that begin with d behind s -/
def blk (l : List Nat) (s z d : Nat) : List (List Nat) := (pcs (l.drop ((nxt l d s).getD 0 + 1)) z).map (d :: ·)
end QM
namespace QM
open PySem PySem.Spec L2 QL QP
/-- the way ahead of a place -/
def wv (l : List Nat) (i : Nat) : Int := wstep l (waysTo l i) i (l.getD i 0)
theorem waysTo_map (l : List Nat) : ∀ n, waysTo l n = (List.range n).map (wv l)
  | 0 => rfl
  | n + 1 => by
    rw [waysTo, waysTo_map l n, List.range_succ, List.map_append]
    show (List.range n).map (wv l) ++ [wstep l ((List.range n).map (wv l)) n (l.getD n 0)] = (List.range n).map (wv l) ++ [wv l n]
    unfold wv
    rw [waysTo_map l n]
    rfl
theorem wv_eq (l : List Nat) (i : Nat) : wv l i = match prv l (l.getD i 0) i with
    | none => 1
    | some k => 1 + minI (((List.range i).map (wv l)).drop k) := by
  show wstep l (waysTo l i) i (l.getD i 0) = _
  rw [waysTo_map]
  rfl
theorem drop_range_mem {i k j : Nat} : j ∈ (List.range i).drop k ↔ k ≤ j ∧ j < i := by
  rw [List.range_eq_range', List.drop_range', List.mem_range']
  constructor
  · rintro ⟨n, h1, h2⟩; omega
  · rintro ⟨h1, h2⟩; exact ⟨j - k, by omega, by omega⟩
theorem snoc_cases {α : Type} (q : List α) : q = [] ∨ ∃ p c, q = p ++ [c] := by
  rcases List.eq_nil_or_concat q with h | ⟨p, c, h⟩
  · exact .inl h
  · exact .inr ⟨p, c, by rw [h, List.concat_eq_append]⟩
theorem getD_some {l : List Nat} {i : Nat} (h : i < l.length) : l[i]? = some (l.getD i 0) := by
  rw [List.getD_eq_getElem?_getD, List.getElem?_eq_getElem h]; rfl
/-- the least of the pieces whose first places end there -/
theorem wv_spec (l : List Nat) : ∀ i, i < l.length → (∃ q : List Nat, (q.length : Int) = wv l i ∧ adv l q 0 = some (i + 1)) ∧ ∀ q, adv l q 0 = some (i + 1) → wv l i ≤ q.length := by
  intro i
  induction i using Nat.strongRecOn with
  | ind i ih =>
    intro hi
    have hg := getD_some hi
    rw [wv_eq]
    cases e : prv l (l.getD i 0) i with
    | none =>
      have pn := prv_none e
      constructor
      · refine ⟨[l.getD i 0], rfl, ?_⟩
        show ((nxt l (l.getD i 0) 0).bind fun k => some (k + 1)) = _
        rw [nxt_is (Nat.zero_le _) hg fun j _ hj => pn j hj]; rfl
      · intro q hq
        rcases snoc_cases q with rfl | ⟨p, c, rfl⟩
        · cases hq
        · show (1 : Int) ≤ _
          simp only [List.length_append, List.length_cons, List.length_nil]; omega
    | some k =>
      obtain ⟨p1, p2, p3⟩ := prv_some e
      have ne : (((List.range i).map (wv l)).drop k) ≠ [] := by
        intro z
        have := congrArg List.length z
        simp at this
        omega
      constructor
      · have hm := minI_mem ne
        rw [← List.map_drop] at hm
        obtain ⟨j, hj, ej⟩ := List.mem_map.mp hm
        obtain ⟨j1, j2⟩ := drop_range_mem.mp hj
        obtain ⟨⟨q, hq1, hq2⟩, _⟩ := ih j j2 (by omega)
        refine ⟨q ++ [l.getD i 0], ?_, ?_⟩
        · show ((q ++ [l.getD i 0]).length : Int) = 1 + minI (((List.range i).map (wv l)).drop k)
          rw [← List.map_drop, ← ej, ← hq1]
          simp only [List.length_append, List.length_cons, List.length_nil]; omega
        · rw [adv_snoc, hq2]
          show (nxt l (l.getD i 0) (j + 1)).map (· + 1) = _
          rw [nxt_is (by omega) hg fun m a b => p3 m (by omega) b]; rfl
      · intro q hq
        rcases snoc_cases q with rfl | ⟨p, c, rfl⟩
        · cases hq
        · rw [adv_snoc] at hq
          cases es : adv l p 0 with
          | none => rw [es] at hq; cases hq
          | some s =>
            rw [es] at hq
            change (nxt l c s).map (· + 1) = some (i + 1) at hq
            obtain ⟨i', ei, ei2⟩ := Option.map_eq_some_iff.mp hq
            have : i' = i := by omega
            subst this
            obtain ⟨n1, n2, n3⟩ := (nxt_iff' hi).mp ei
            have hs : k < s := Nat.lt_of_not_le fun z => n3 k z p1 (by rw [p2, n2])
            have := (ih (s - 1) (by omega) (by omega)).2 p (by rw [es]; congr 1; omega)
            have hmem : wv l (s - 1) ∈ ((List.range i').map (wv l)).drop k := by
              rw [← List.map_drop]
              exact List.mem_map.mpr ⟨s - 1, drop_range_mem.mpr ⟨by omega, by omega⟩, rfl⟩
            have hle := minI_le hmem
            show 1 + minI _ ≤ _
            simp only [List.length_append, List.length_cons, List.length_nil]
            omega
where
  nxt_iff' {l : List Nat} {c s p : Nat} (hp : p < l.length) : nxt l c s = some p ↔ s ≤ p ∧ l.getD p 0 = c ∧ ∀ j, s ≤ j → j < p → l[j]? ≠ some c := by
    have hg := getD_some hp
    constructor
    · intro e
      obtain ⟨h1, h2, h3⟩ := nxt_some e
      exact ⟨h1, by rw [hg] at h2; exact Option.some.inj h2, h3⟩
    · rintro ⟨h1, h2, h3⟩
      exact nxt_is h1 (by rw [hg, h2]) h3
def wN (l : List Nat) (i : Nat) : Nat := (wv l i).toNat
theorem wN_ex {l : List Nat} {i : Nat} (h : i < l.length) : ∃ q : List Nat, q.length = wN l i ∧ adv l q 0 = some (i + 1) := by
  obtain ⟨⟨q, h1, h2⟩, _⟩ := wv_spec l i h
  exact ⟨q, by unfold wN; omega, h2⟩
end QM
namespace QM
open PySem PySem.Spec L2 QL QP
instance {r : S} {P : S → Prop} : Step (wAll [] [] r P) (P r) := ⟨id⟩
instance {i : Nat} {is : List Nat} {x : SV} {xs : List SV} {sl sl' : List (Option SV)} {tp : Option (Int × Int)} {P : S → Prop} [h : SetL sl i (some x) sl'] : Step (wAll (i :: is) (x :: xs) ⟨sl, tp⟩ P) (wAll is xs ⟨sl', tp⟩ P) := ⟨fun q => ⟨h.lt, by
  show wAll is xs ⟨sl.set i (some x), tp⟩ P
  rw [h.eq]; exact q⟩⟩
def wLk (r : S) (i : Nat) (k : D) (Q : Option D → Prop) : Prop := ∃ o, lkS r i k = some o ∧ Q o
section
variable {P : SV → S → Prop} {X : XPo} {r : S} {p : Po} {fk fx : S → Res D} {i : Nat} {sl : List (Option SV)} {tp : Option (Int × Int)} {kvs : List (D × D)} {Q : Option D → Prop} {a b : Int} {z : Str} {o : Option D}
theorem wLk_k {k : D} {c : Key} [h : Get sl i (some (.od kvs))] (hk : keyD k = some c) (q : Q (getK kvs c)) : wLk ⟨sl, tp⟩ i k Q := ⟨_, by
  unfold lkS
  dsimp only
  rw [h.eq]
  dsimp only
  rw [hk]
  rfl, q⟩
theorem wLk_t {k : D} {c : List Key} [h : Get sl i (some (.ot kvs))] (hk : keyT k = some c) (q : Q (getT kvs c)) : wLk ⟨sl, tp⟩ i k Q := ⟨_, by
  unfold lkS
  dsimp only
  rw [h.eq]
  dsimp only
  rw [hk]
  rfl, q⟩
instance [h : Get sl i (some (.od kvs))] : Step (wLk ⟨sl, tp⟩ i (.int a) Q) (Q (getK kvs (.inl a))) := ⟨wLk_k rfl⟩
instance [h : Get sl i (some (.od kvs))] : Step (wLk ⟨sl, tp⟩ i (.str z) Q) (Q (getK kvs (.inr z))) := ⟨wLk_k rfl⟩
instance [h : Get sl i (some (.ot kvs))] : Step (wLk ⟨sl, tp⟩ i (.tuple [.int a, .int b]) Q) (Q (getT kvs [.inl a, .inl b])) := ⟨wLk_t rfl⟩
instance {f : Bool → Bool} : Step (wE (fInS f i fk r) P X) (wE (fk r) (fun k r => wLk r i k fun o => P (.fz (.bool (f o.isSome))) r) X) := ⟨fun h => wE_bind (wE_mono h fun k r h => by
  obtain ⟨o, e, h⟩ := h
  rw [e]; exact h)⟩
def wSm' (o : Option D) (Q : D → Prop) : Prop := ∃ d, o = some d ∧ Q d
instance {d : D} {Q : D → Prop} : Step (wSm' (some d) Q) (Q d) := ⟨fun q => ⟨d, rfl, q⟩⟩
theorem isDS_k [h : Get sl i (some (.od kvs))] : isDS ⟨sl, tp⟩ i = true := by unfold isDS; dsimp only; rw [h.eq]
theorem isDS_t [h : Get sl i (some (.ot kvs))] : isDS ⟨sl, tp⟩ i = true := by unfold isDS; dsimp only; rw [h.eq]
theorem isDS_f [h : Get sl i (some (.fz (.dict kvs)))] [n : NoOb kvs] : isDS ⟨sl, tp⟩ i = true := by unfold isDS; dsimp only; rw [h.eq]; dsimp only; rw [n.h]; rfl
theorem w_getS (hd : isDS r i = true) (h : wE (fk r) (fun k r => wLk r i k fun o => wSm' o fun d => P (.fz d) r) X) : wE (fGetS i fk r) P X := by
  unfold fGetS
  rw [if_pos hd]
  refine wE_bind (wE_mono h fun k r h => ?_)
  obtain ⟨o, e, d, e2, h⟩ := h
  subst e2
  rw [e]; exact h
instance [h : Get sl i (some (.od kvs))] : Step (wE (fGetS i fk ⟨sl, tp⟩) P X) (wE (fk ⟨sl, tp⟩) (fun k r => wLk r i k fun o => wSm' o fun d => P (.fz d) r) X) := ⟨w_getS isDS_k⟩
instance [h : Get sl i (some (.ot kvs))] : Step (wE (fGetS i fk ⟨sl, tp⟩) P X) (wE (fk ⟨sl, tp⟩) (fun k r => wLk r i k fun o => wSm' o fun d => P (.fz d) r) X) := ⟨w_getS isDS_t⟩
theorem w_get1S (hd : isDS r i = true) (h : wE (fk r) (fun k r => wLk r i k fun o => P (.fz (o.getD .none)) r) X) : wE (fGet1S i fk r) P X := by
  unfold fGet1S
  rw [if_pos hd]
  refine wE_bind (wE_mono h fun k r h => ?_)
  obtain ⟨o, e, h⟩ := h
  rw [e]; exact h
instance [h : Get sl i (some (.od kvs))] : Step (wE (fGet1S i fk ⟨sl, tp⟩) P X) (wE (fk ⟨sl, tp⟩) (fun k r => wLk r i k fun o => P (.fz (o.getD .none)) r) X) := ⟨w_get1S isDS_k⟩
instance [h : Get sl i (some (.ot kvs))] : Step (wE (fGet1S i fk ⟨sl, tp⟩) P X) (wE (fk ⟨sl, tp⟩) (fun k r => wLk r i k fun o => P (.fz (o.getD .none)) r) X) := ⟨w_get1S isDS_t⟩
theorem w_get2S (hd : isDS r i = true) (h : wE (fk r) (fun k r => wE (fx r) (fun x r => wLk r i k fun o => P (.fz (o.getD x)) r) X) X) : wE (fGet2S i fk fx r) P X := by
  unfold fGet2S
  rw [if_pos hd]
  refine wE_bind (wE_mono h fun k r h => wE_bind (wE_mono h fun x r h => ?_))
  obtain ⟨o, e, h⟩ := h
  rw [e]; exact h
instance [h : Get sl i (some (.od kvs))] : Step (wE (fGet2S i fk fx ⟨sl, tp⟩) P X) (wE (fk ⟨sl, tp⟩) (fun k r => wE (fx r) (fun x r => wLk r i k fun o => P (.fz (o.getD x)) r) X) X) := ⟨w_get2S isDS_k⟩
instance [h : Get sl i (some (.ot kvs))] : Step (wE (fGet2S i fk fx ⟨sl, tp⟩) P X) (wE (fk ⟨sl, tp⟩) (fun k r => wE (fx r) (fun x r => wLk r i k fun o => P (.fz (o.getD x)) r) X) X) := ⟨w_get2S isDS_t⟩
end
end QM
namespace QM
open PySem PySem.Spec L2 QL QP
local macro_rules | `(tactic| decreasing_trivial_pre_omega) => `(tactic| first
  | apply QM.Step.go
  | refine ⟨rfl, ?_⟩
  | refine ⟨⟨rfl, rfl⟩, ?_⟩
  | refine ⟨_, rfl, ?_⟩
  | refine ⟨_, _, rfl, ?_⟩
  | refine ⟨_, _, _, rfl, ?_⟩
  | refine ⟨Nat.le_of_ble_eq_true rfl, ?_⟩
  | refine wAt_r rfl ?_
  | refine wB_t rfl ?_
  | refine wB_f rfl ?_)
theorem depth_ltrs (m : List Nat) : PyData.depthAll (ltrs m) = 0 := by
  induction m with
  | nil => rfl
  | cons c m ih =>
    show max 0 (PyData.depthAll (ltrs m)) = 0
    rw [ih]; rfl
/-- the table of the law, in turn j + 1: what was known, what is new -/
structure Tbl (l : List Nat) (j : Nat) (K : List (Nat × Nat)) (N : List Nat) (Dn : Nat → Nat → Prop) : Prop where
  kk : ∀ p t, (p, t) ∈ K ↔ p < l.length ∧ wN l p = t ∧ t ≤ j
  kn : (K.map (·.1)).Nodup
  nd : N.Nodup
  nn : ∀ p ∈ N, p < l.length ∧ wN l p = j + 1
  dn : ∀ s c p, Dn s c → nxt l c s = some p → wN l p ≤ j ∨ p ∈ N
abbrev kOf (j : Nat) (K : List (Nat × Nat)) (N : List Nat) : List (Nat × Nat) := K ++ N.map fun p => (p, j + 1)
theorem Tbl.val {l : List Nat} {j : Nat} {K : List (Nat × Nat)} {N : List Nat} {Dn : Nat → Nat → Prop} (h : Tbl l j K N Dn) : ∀ q ∈ kOf j K N, q.2 = wN l q.1 := by
  intro q hq
  rcases List.mem_append.mp hq with hq | hq
  · obtain ⟨a, b⟩ := q
    exact ((h.kk a b).mp hq).2.1.symm
  · obtain ⟨p, hp, rfl⟩ := List.mem_map.mp hq
    exact (h.nn p hp).2.symm
theorem Tbl.len {l : List Nat} {j : Nat} {K : List (Nat × Nat)} {N : List Nat} {Dn : Nat → Nat → Prop} (h : Tbl l j K N Dn) : N.length ≤ l.length := by
  have := sub_lenA (S := N) (ls := List.range l.length) h.nd fun p hp => List.mem_range.mpr (h.nn p hp).1
  rwa [List.length_range] at this
theorem Tbl.mono {l : List Nat} {j : Nat} {K : List (Nat × Nat)} {N : List Nat} {D1 D2 : Nat → Nat → Prop} (h : Tbl l j K N D1) (hd : ∀ s c p, D2 s c → nxt l c s = some p → D1 s c ∨ wN l p ≤ j ∨ p ∈ N) : Tbl l j K N D2 :=
  ⟨h.kk, h.kn, h.nd, h.nn, fun s c p h2 hp => by
    rcases hd s c p h2 hp with h3 | h3
    · exact h.dn s c p h3 hp
    · exact h3⟩
end QM
namespace QM
open PySem PySem.Spec L2 QL QP
local macro_rules | `(tactic| decreasing_trivial_pre_omega) => `(tactic| first
  | apply QM.Step.go
  | refine ⟨rfl, ?_⟩
  | refine ⟨⟨rfl, rfl⟩, ?_⟩
  | refine ⟨_, rfl, ?_⟩
  | refine ⟨_, _, rfl, ?_⟩
  | refine ⟨_, _, _, rfl, ?_⟩
  | refine ⟨Nat.le_of_ble_eq_true rfl, ?_⟩
  | refine wAt_r rfl ?_
  | refine wB_t rfl ?_
  | refine wB_f rfl ?_)
instance {FL : S → Res (List D)} {r : S} {P : SV → S → Prop} {X : XPo} : Step (wE (fListZip FL r) P X) (wE (FL r) (fun ds r => ∃ xs ys, ds = [.list xs, .list ys] ∧ P (.ol (zipL xs ys)) r) X) := ⟨fun h => wE_bind (wE_mono h fun ds r h => by
  obtain ⟨xs, ys, e, h⟩ := h
  subst e
  exact h)⟩
instance {a b : Int} {r : S} {P : SV → S → Prop} : Step (wO (dSumA [.tuple [.int a, .int b]]) r P) (P (.fz (.int (a + b))) r) := ⟨fun q => wO_of (z' := .fz (.int (a + b))) d_sumA2 q⟩
instance : OfS "reach" [114, 101, 97, 99, 104] := ⟨by decide +kernel⟩
end QM
namespace QM
open PySem PySem.Spec L2 QL QP
local macro_rules | `(tactic| decreasing_trivial_pre_omega) => `(tactic| first
  | apply QM.Step.go
  | refine ⟨rfl, ?_⟩
  | refine ⟨⟨rfl, rfl⟩, ?_⟩
  | refine ⟨_, rfl, ?_⟩
  | refine ⟨_, _, rfl, ?_⟩
  | refine ⟨_, _, _, rfl, ?_⟩
  | refine ⟨Nat.le_of_ble_eq_true rfl, ?_⟩
  | refine wAt_r rfl ?_
  | refine wB_t rfl ?_
  | refine wB_f rfl ?_)
/-- a text is short; what is no text is anything -/
def shortS (n : Nat) : D → Bool
  | .str s => decide (s.cps.toList.length ≤ n)
  | _ => true
end QM
namespace QM
open PySem PySem.Spec L2 QL QP
local macro_rules | `(tactic| decreasing_trivial_pre_omega) => `(tactic| first
  | apply QM.Step.go
  | refine ⟨rfl, ?_⟩
  | refine ⟨⟨rfl, rfl⟩, ?_⟩
  | refine ⟨_, rfl, ?_⟩
  | refine ⟨_, _, rfl, ?_⟩
  | refine ⟨_, _, _, rfl, ?_⟩
  | refine ⟨Nat.le_of_ble_eq_true rfl, ?_⟩
  | refine And.intro (szb' (by omega)) ?_
  | refine wAt_r rfl ?_
  | refine wB_t rfl ?_
  | refine wB_f rfl ?_)
instance {FL : S → Res (List D)} {fv : S → Res D} {r : S} {PL : List D → S → Prop} {X : XPo} : Step (wE (fZipR FL fv r) PL X) (wE (FL r) (fun ds r => ∃ i j c, intsD ds = some [i, j, c] ∧ (QL.sml i = true ∧ QL.sml j = true ∧ c = -1) ∧ wE (fv r) (fun d r => wIt d fun es => PL (zipL (downL i (i - j).toNat) es) r) X) X) := ⟨fun h => wE_bind (wE_mono h fun ds r h => by
  obtain ⟨i, j, c, e, h1, h2⟩ := h
  rw [e]
  dsimp only
  rw [if_pos h1]
  refine wE_bind (wE_mono h2 fun d r h => ?_)
  obtain ⟨es, e2, h⟩ := h
  rw [e2]
  exact h)⟩
end QM
namespace QM
open PySem PySem.Spec L2 QL QP
local macro_rules | `(tactic| decreasing_trivial_pre_omega) => `(tactic| first
  | apply QM.Step.go
  | refine ⟨rfl, ?_⟩
  | refine ⟨⟨rfl, rfl⟩, ?_⟩
  | refine ⟨_, rfl, ?_⟩
  | refine ⟨_, _, rfl, ?_⟩
  | refine ⟨_, _, _, rfl, ?_⟩
  | refine ⟨Nat.le_of_ble_eq_true rfl, ?_⟩
  | refine And.intro (szb' (by omega)) ?_
  | refine wAt_r rfl ?_
  | refine wB_t rfl ?_
  | refine wB_f rfl ?_)
end QM
namespace QM
open PySem PySem.Spec L2 QL QP
end QM
namespace QM
open PySem PySem.Spec L2 QL QP
theorem natsD_ints (ns : List Nat) : intsD (natsD ns) = some (ns.map fun n : Nat => ((n : Nat) : Int)) := by
  rw [show natsD ns = (ns.map fun n : Nat => ((n : Nat) : Int)).map .int from nats_ints ns, d_ints]
theorem strsD_nat {n : Nat} {ns : List Nat} : strsD (natsD (n :: ns)) = none := rfl
/-- numbers, sorted -/
theorem wO_sortN {P : SV → S → Prop} {r : S} {n : Nat} {ns : List Nat} (q : ∀ ms : List Nat, ms.Perm (n :: ns) → ms.Pairwise (· ≤ ·) → P (.ol (natsD ms)) r) : wO (dSortA [.list (natsD (n :: ns))]) r P := by
  have hp := sortZ_perm ((n :: ns).map fun n : Nat => ((n : Nat) : Int))
  have hs := sortZ_sorted ((n :: ns).map fun n : Nat => ((n : Nat) : Int))
  generalize hz : sortZ ((n :: ns).map fun n : Nat => ((n : Nat) : Int)) = zs at hp hs
  have e : zs = (zs.map Int.toNat).map fun n : Nat => ((n : Nat) : Int) := by
    rw [List.map_map]
    conv => lhs; rw [← List.map_id zs]
    refine List.map_congr_left fun z hz => ?_
    obtain ⟨m, _, rfl⟩ := List.mem_map.mp (hp.mem_iff.mp hz)
    show ((m : Nat) : Int) = ((Int.toNat (m : Nat) : Nat) : Int)
    omega
  have hp2 : (zs.map Int.toNat).Perm (n :: ns) := by
    have := hp.map Int.toNat
    rw [List.map_map] at this
    have e2 : (n :: ns).map (Int.toNat ∘ fun n : Nat => ((n : Nat) : Int)) = (n :: ns).map id := List.map_congr_left fun m _ => by simp
    rwa [e2, List.map_id] at this
  have hs2 : (zs.map Int.toNat).Pairwise (· ≤ ·) := by
    rw [List.pairwise_map]
    exact hs.imp fun h => by omega
  refine wO_of (z' := .nl (natsD (zs.map Int.toNat))) ?_ (q _ hp2 hs2)
  unfold dSortA
  dsimp only
  rw [strsD_nat]
  dsimp only
  rw [natsD_ints]
  dsimp only
  rw [hz]
  have : zs.map PyData.int = natsD (zs.map Int.toNat) := by
    conv => lhs; rw [e]
    rw [List.map_map]
    rfl
  rw [this]
end QM
namespace QM
open PySem PySem.Spec L2 QL QP
end QM
namespace QM
open PySem PySem.Spec L2 QL QP
local macro_rules | `(tactic| decreasing_trivial_pre_omega) => `(tactic| first
  | apply QM.Step.go
  | refine ⟨rfl, ?_⟩
  | refine ⟨⟨rfl, rfl⟩, ?_⟩
  | refine ⟨_, rfl, ?_⟩
  | refine ⟨_, _, rfl, ?_⟩
  | refine ⟨_, _, _, rfl, ?_⟩
  | refine ⟨Nat.le_of_ble_eq_true rfl, ?_⟩
  | refine And.intro (szb' (by omega)) ?_
  | refine wAt_r rfl ?_
  | refine wB_t rfl ?_
  | refine wB_f rfl ?_)
end QM
namespace QM
open PySem PySem.Spec L2 QL QP
local macro_rules | `(tactic| decreasing_trivial_pre_omega) => `(tactic| first
  | apply QM.Step.go
  | refine ⟨rfl, ?_⟩
  | refine ⟨⟨rfl, rfl⟩, ?_⟩
  | refine ⟨_, rfl, ?_⟩
  | refine ⟨_, _, rfl, ?_⟩
  | refine ⟨_, _, _, rfl, ?_⟩
  | refine ⟨Nat.le_of_ble_eq_true rfl, ?_⟩
  | refine And.intro (szb' (by omega)) ?_
  | refine wAt_r rfl ?_
  | refine wB_t rfl ?_
  | refine wB_f rfl ?_)
end QM
namespace QM
open PySem PySem.Spec L2 QL QP
local macro_rules | `(tactic| decreasing_trivial_pre_omega) => `(tactic| first
  | apply QM.Step.go
  | refine ⟨rfl, ?_⟩
  | refine ⟨⟨rfl, rfl⟩, ?_⟩
  | refine ⟨_, rfl, ?_⟩
  | refine ⟨_, _, rfl, ?_⟩
  | refine ⟨_, _, _, rfl, ?_⟩
  | refine ⟨Nat.le_of_ble_eq_true rfl, ?_⟩
  | refine wAt_r rfl ?_
  | refine wB_t rfl ?_
  | refine wB_f rfl ?_)
structure LdInv (l : List Nat) (p a : Nat) (f : List Nat) : Prop where
  lt : a < l.length
  go : ∀ q, adv l q 0 = some (a + 1) → adv l (q ++ f) 0 = some (p + 1)
  ln : wN l a + f.length = wN l p
  ml : ∀ c ∈ f, c ∈ l
theorem LdInv.last {l : List Nat} {p a : Nat} {f : List Nat} (h : LdInv l p a f) (h1 : wN l a = 1) : (l.getD a 0 :: f).length = wN l p ∧ adv l (l.getD a 0 :: f) 0 = some (p + 1) := by
  obtain ⟨q, q1, q2⟩ := wN_ex h.lt
  rw [h1] at q1
  obtain ⟨c, rfl⟩ := List.length_eq_one_iff.mp q1
  have hn : nxt l c 0 = some a := by
    change ((nxt l c 0).bind fun k => some (k + 1)) = some (a + 1) at q2
    cases e : nxt l c 0 with
    | none => rw [e] at q2; cases q2
    | some k => rw [e] at q2; simp at q2; rw [q2]
  have hc : l.getD a 0 = c := by
    have := (nxt_some hn).2.1
    rw [getD_some h.lt] at this
    exact Option.some.inj this
  rw [hc]
  refine ⟨by have := h.ln; simp only [List.length_cons]; omega, h.go [c] q2⟩
def okV : D → Bool
  | .tuple [a, b] => shortS 1000 a && shortS 1000 b
  | _ => true
end QM
namespace QM
open PySem PySem.Spec L2 QL QP
local macro_rules | `(tactic| decreasing_trivial_pre_omega) => `(tactic| first
  | apply QM.Step.go
  | refine ⟨rfl, ?_⟩
  | refine ⟨⟨rfl, rfl⟩, ?_⟩
  | refine ⟨_, rfl, ?_⟩
  | refine ⟨_, _, rfl, ?_⟩
  | refine ⟨_, _, _, rfl, ?_⟩
  | refine ⟨Nat.le_of_ble_eq_true rfl, ?_⟩
  | refine ⟨szb' (by omega), ?_⟩
  | refine ⟨szb' (by simp only [List.length_append, List.length_take, List.length_drop, List.length_reverse, List.length_cons, List.length_nil]; omega), ?_⟩
  | refine wAt_r rfl ?_
  | refine wB_t rfl ?_
  | refine wB_f rfl ?_)
theorem cut_len {α : Type} (xs : List α) (lo hi : Option Int) : (cutL xs lo hi).length ≤ xs.length := by
  unfold cutL
  rw [List.length_take, List.length_drop]
  omega
/-- short, plain signs -/
def Sh (n : Nat) (m : List Nat) : Prop := m.length ≤ n ∧ ∀ c ∈ m, c < 200
theorem Sh.app {a b : Nat} {x y : List Nat} (h : Sh a x) (g : Sh b y) : Sh (a + b) (x ++ y) := ⟨by have := h.1; have := g.1; rw [List.length_append]; omega, fun c hc => by
  rcases List.mem_append.mp hc with hc | hc
  · exact h.2 c hc
  · exact g.2 c hc⟩
theorem Sh.take {a : Nat} {x : List Nat} (h : Sh a x) (n : Nat) : Sh a (x.take n) := ⟨by have := h.1; rw [List.length_take]; omega, fun c hc => h.2 c (List.mem_of_mem_take hc)⟩
theorem Sh.drop {a : Nat} {x : List Nat} (h : Sh a x) (n : Nat) : Sh a (x.drop n) := ⟨by have := h.1; rw [List.length_drop]; omega, fun c hc => h.2 c (List.mem_of_mem_drop hc)⟩
theorem Sh.rev {a : Nat} {x : List Nat} (h : Sh a x) : Sh a x.reverse := ⟨by have := h.1; rw [List.length_reverse]; omega, fun c hc => h.2 c (List.mem_reverse.mp hc)⟩
theorem Sh.cut {a : Nat} {x : List Nat} (h : Sh a x) (lo hi : Option Int) : Sh a (cutL x lo hi) := ⟨Nat.le_trans (cut_len x lo hi) h.1, fun c hc => h.2 c (by
  unfold cutL at hc
  exact List.mem_of_mem_drop (List.mem_of_mem_take hc))⟩
theorem Sh.up {a b : Nat} {x : List Nat} (h : Sh a x) (hb : a ≤ b) : Sh b x := ⟨Nat.le_trans h.1 hb, h.2⟩
theorem Sh.tn {a : Nat} {x : List Nat} (h : Sh a x) (ha : a ≤ 200) : tiny (.str (tx x)) = true := tiny_tx (by have := h.1; omega) fun c hc => by have := h.2 c hc; exact Nat.lt_trans this (by decide)
theorem Sh.ss {a : Nat} {x : List Nat} (h : Sh a x) (ha : a ≤ 200) : shortS 1000 (.str (tx x)) = true := decide_eq_true (by have := h.1; show (tx x).cps.toList.length ≤ 1000; simp [tx]; omega)
/-- rows of small things -/
theorem tinyAll : ∀ {ds : List D}, (∀ d ∈ ds, tiny d = true) → PyData.showableAll ds = true ∧ PyData.depthAll ds ≤ 40 ∧ PyData.leavesShortAll 40 ds = true ∧ PyData.weightAll ds ≤ ds.length * 1001
  | [], _ => ⟨rfl, Nat.zero_le _, rfl, by simp [PyData.weightAll]⟩
  | d :: ds, h => by
    obtain ⟨a1, a2, a3, a4⟩ := tinyAll fun e he => h e (List.mem_cons_of_mem _ he)
    obtain ⟨b, b2, b3⟩ := tiny_of (h d (List.mem_cons_self ..))
    unfold sml at b
    simp only [Bool.and_eq_true, decide_eq_true_eq] at b
    obtain ⟨⟨⟨c1, c2⟩, c3⟩, c4⟩ := b
    refine ⟨?_, ?_, ?_, ?_⟩
    · simp [PyData.showableAll, c1, a1]
    · simp only [PyData.depthAll]; omega
    · simp [PyData.leavesShortAll, c3, a3]
    · simp only [PyData.weightAll, List.length_cons]; omega
theorem sml_tup {ds : List D} (h : ∀ d ∈ ds, tiny d = true) (hl : ds.length ≤ 9) : sml (.tuple ds) = true := by
  obtain ⟨a1, a2, a3, a4⟩ := tinyAll h
  unfold sml
  simp only [Bool.and_eq_true, decide_eq_true_eq]
  refine ⟨⟨⟨by simpa [PyData.showable] using a1, by simp only [PyData.depth]; omega⟩, by simpa [PyData.leavesShort] using a3⟩, ?_⟩
  simp only [PyData.weight]; omega
theorem sml_lst {ds : List D} (h : ∀ d ∈ ds, tiny d = true) (hl : ds.length ≤ 9) : sml (.list ds) = true := by
  obtain ⟨a1, a2, a3, a4⟩ := tinyAll h
  unfold sml
  simp only [Bool.and_eq_true, decide_eq_true_eq]
  refine ⟨⟨⟨by simpa [PyData.showable] using a1, by simp only [PyData.depth]; omega⟩, by simpa [PyData.leavesShort] using a3⟩, ?_⟩
  simp only [PyData.weight]; omega
theorem ltrs_small : ∀ {m : List Nat}, (∀ c ∈ m, c < 200) → PyData.showableAll (ltrs m) = true ∧ PyData.leavesShortAll 40 (ltrs m) = true ∧ PyData.weightAll (ltrs m) = m.length * 2
  | [], _ => ⟨rfl, rfl, rfl⟩
  | c :: m, h => by
    obtain ⟨a1, a2, a3⟩ := ltrs_small fun d hd => h d (List.mem_cons_of_mem _ hd)
    have hc := h c (List.mem_cons_self ..)
    refine ⟨?_, ?_, ?_⟩
    · show (true && PyData.showableAll (ltrs m)) = true
      rw [a1]; rfl
    · show ((PyData.str (tx [c])).leavesShort 40 && PyData.leavesShortAll 40 (ltrs m)) = true
      rw [a2, Bool.and_true]
      have : c < 16 ^ 8 := Nat.lt_trans hc (by decide)
      simp only [PyData.leavesShort, List.all_eq_true, decide_eq_true_eq]
      intro d hd
      have : d = c := by simpa [tx] using hd
      subst this
      assumption
    · show PyData.weight (.str (tx [c])) + 1 + PyData.weightAll (ltrs m) = _
      rw [a3]
      simp [PyData.weight, tx]
      omega
theorem ltrs_tl {m : List Nat} (h : Sh 100 m) : tiny (.list (ltrs m)) = true := by
  obtain ⟨a1, a2, a3⟩ := ltrs_small h.2
  have := h.1
  unfold tiny sml
  simp only [Bool.and_eq_true, decide_eq_true_eq]
  have dp : PyData.depth (.list (ltrs m)) = 1 := by simp only [PyData.depth, depth_ltrs]
  have wt : PyData.weight (.list (ltrs m)) = m.length * 2 := by simp only [PyData.weight, a3]
  refine ⟨⟨⟨⟨⟨by simpa [PyData.showable] using a1, by omega⟩, by simpa [PyData.leavesShort] using a2⟩, by omega⟩, by omega⟩, by omega⟩
theorem ltrs_tt {m : List Nat} (h : Sh 100 m) : tiny (.tuple (ltrs m)) = true := by
  obtain ⟨a1, a2, a3⟩ := ltrs_small h.2
  have := h.1
  unfold tiny sml
  simp only [Bool.and_eq_true, decide_eq_true_eq]
  have dp : PyData.depth (.tuple (ltrs m)) = 1 := by simp only [PyData.depth, depth_ltrs]
  have wt : PyData.weight (.tuple (ltrs m)) = m.length * 2 := by simp only [PyData.weight, a3]
  refine ⟨⟨⟨⟨⟨by simpa [PyData.showable] using a1, by omega⟩, by simpa [PyData.leavesShort] using a2⟩, by omega⟩, by omega⟩, by omega⟩
/-- may be shown; of a pair each text is short -/
def fine (d : D) : Bool := sml d && okV d
theorem fine_pair {a b : D} (ha : tiny a = true) (hb : tiny b = true) (ga : shortS 1000 a = true) (gb : shortS 1000 b = true) : fine (.tuple [a, b]) = true := by
  unfold fine
  rw [sml_tup (fun d hd => by
    simp only [List.mem_cons, List.not_mem_nil, or_false] at hd
    rcases hd with rfl | rfl <;> assumption) (by simp)]
  show (true && (shortS 1000 a && shortS 1000 b)) = true
  rw [ga, gb]; rfl
instance : OfS "out" [111, 117, 116] := ⟨by decide +kernel⟩
instance : OfS "swap" [115, 119, 97, 112] := ⟨by decide +kernel⟩
instance : OfS "in" [105, 110] := ⟨by decide +kernel⟩
instance : OfS "behind" [98, 101, 104, 105, 110, 100] := ⟨by decide +kernel⟩
instance : OfS "strike" [115, 116, 114, 105, 107, 101] := ⟨by decide +kernel⟩
instance : OfS "0" [48] := ⟨by decide +kernel⟩
instance : OfS "has a" [104, 97, 115, 32, 97] := ⟨by decide +kernel⟩
instance : OfS "letters a" [108, 101, 116, 116, 101, 114, 115, 32, 97] := ⟨by decide +kernel⟩
instance : OfS "z" [122] := ⟨by decide +kernel⟩
theorem any_sp {t : Int × Int} (ok : TapeOk t = true) : wFT (F__law_any t []) (fun v t' => TapeOk t' = true ∧ ∃ d, v = .fz d ∧ fine d = true) (fun _ _ _ => False) := by
  refine wFT_go ?_
  unfold B__law_any
  repeat' decreasing_trivial_pre_omega
  refine ⟨⟨by decide, by decide +kernel⟩, ?_⟩
  repeat' decreasing_trivial_pre_omega
  refine wFT_use (one_all (Pb := fine) ok (by decide +kernel) (by simp) (by simp)) (fun v t1 ⟨o1, d, e, hd⟩ => ?_)
  subst e
  repeat' decreasing_trivial_pre_omega
  exact ⟨o1, d, rfl, hd⟩
section
variable {t : Int × Int} {l v w s : List Nat} {x3 x4 x5 x6 x7 x8 x9 : Option SV} {f : Nat}
abbrev Sb (l v w : List Nat) (x3 x4 x5 x6 x7 x8 x9 : Option SV) (t : Int × Int) : S := ⟨[some .tape, some (.fz (.tuple [.str (tx v), .str (tx w)])), some (.fz (.str (tx l))), x3, x4, x5, x6, x7, x8, x9, none], some t⟩
def bent_3 : S → RS := sAsg 7 (eLst (aCons (fD (eTup (aCons (fD (fOp dAdd (fD (fOp dAdd (fD (fSl (gV 3) (oNon) (oSom (gV 5)))) (gV 6))) (fD (fSl (gV 3) (oSom (gV 5)) (oNon))))) (aCons (fV 4) (aNil))))) (aCons (fD (eTup (aCons (fV 3) (aCons (fD (fOp dAdd (gV 4) (gV 6))) (aNil))))) (aCons (fD (eTup (aCons (fV 4) (aCons (fV 3) (aNil))))) (aCons (fD (eTup (aCons (fD (fOp1 dRev (gV 3))) (aCons (fV 4) (aNil))))) (aCons (fD (eTup (aCons (fV 3) (aCons (fD (fOp dAdd (fD (fSl (gV 4) (oNon) (oSom (fD (fOp1 dNeg (fC (.int 1))))))) (gV 6))) (aNil))))) (aNil)))))))
def bent_4 : S → RS := sAsg 7 (fOp dAdd (gV 7) (fD (eLst (aCons (fD (eTup (aCons (fV 3) (aNil)))) (aCons (fD (eLst (aCons (fV 3) (aCons (fV 4) (aNil))))) (aCons (fD (eTup (aCons (fV 3) (aCons (fV 4) (aCons (fC (.str "")) (aNil)))))) (aCons (fD (eTup (aCons (fD (fSl (gV 3) (oSom (fC (.int 1))) (oNon))) (aCons (fV 4) (aNil))))) (aCons (fD (eTup (aCons (fC .none) (aCons (fV 4) (aNil))))) (aCons (fD (eTup (aCons (fV 3) (aCons (fC .none) (aNil))))) (aCons (fD (eTup (aCons (fD (fCB dListA (aCons (gV 3) (aNil)))) (aCons (fV 4) (aNil))))) (aCons (fD (eTup (aCons (fD (fCB dTupA (aCons (gV 3) (aNil)))) (aCons (fV 4) (aNil))))) (aCons (fD (eTup (aCons (fV 3) (aCons (fD (fCB dListA (aCons (gV 4) (aNil)))) (aNil))))) (aCons (fV 1) (aCons (fV 1) (aCons (fD (fCallT 0 0 F__law_any (aNil))) (aNil))))))))))))))))
theorem b3 (hv : Sh 20 v) (hw : Sh 20 w) (hs : Sh 1 s) : wS (bent_3 (Sb l v w (some (.fz (.str (tx v)))) (some (.fz (.str (tx w)))) (some (.fz (.int (f : Nat)))) (some (.fz (.str (tx s)))) x7 x8 x9 t))
    (Pn fun r => ∃ ds, (∀ d ∈ ds, fine d = true) ∧ ds.length ≤ 5 ∧ r = Sb l v w (some (.fz (.str (tx v)))) (some (.fz (.str (tx w)))) (some (.fz (.int (f : Nat)))) (some (.fz (.str (tx s)))) (some (.ol ds)) x8 x9 t) := by
  have h2 := hv.1
  have h3 := hw.1
  have h4 := hs.1
  have c1 := cut_len w none (some (-1))
  have c3 := cut_len v none (some (f : Int))
  have c4 := cut_len v (some (f : Int)) none
  unfold bent_3
  repeat' decreasing_trivial_pre_omega
  refine ⟨_, ?_, ?_, rfl⟩
  · intro d hd
    simp only [List.mem_cons, List.not_mem_nil, or_false] at hd
    rcases hd with rfl | rfl | rfl | rfl | rfl
    · exact fine_pair ((((hv.cut _ _).app hs).app (hv.cut _ _)).tn (by decide)) (hw.tn (by decide)) ((((hv.cut _ _).app hs).app (hv.cut _ _)).ss (by decide)) (hw.ss (by decide))
    · exact fine_pair (hv.tn (by decide)) ((hw.app hs).tn (by decide)) (hv.ss (by decide)) ((hw.app hs).ss (by decide))
    · exact fine_pair (hw.tn (by decide)) (hv.tn (by decide)) (hw.ss (by decide)) (hv.ss (by decide))
    · exact fine_pair (hv.rev.tn (by decide)) (hw.tn (by decide)) (hv.rev.ss (by decide)) (hw.ss (by decide))
    · exact fine_pair (hv.tn (by decide)) (((hw.cut _ _).app hs).tn (by decide)) (hv.ss (by decide)) (((hw.cut _ _).app hs).ss (by decide))
  · exact Nat.le_refl 5
theorem b4 (ok : TapeOk t = true) (hv : Sh 20 v) (hw : Sh 20 w) {ds : List D} (hds : ∀ d ∈ ds, fine d = true) (hdl : ds.length ≤ 5) : wS (bent_4 (Sb l v w (some (.fz (.str (tx v)))) (some (.fz (.str (tx w)))) x5 x6 (some (.ol ds)) x8 x9 t))
    (Pn fun r => ∃ ds t', TapeOk t' = true ∧ (∀ d ∈ ds, fine d = true) ∧ ds.length ≤ 20 ∧ r = Sb l v w (some (.fz (.str (tx v)))) (some (.fz (.str (tx w)))) x5 x6 (some (.ol ds)) x8 x9 t') := by
  have h2 := hv.1
  have h3 := hw.1
  have c2 := cut_len v (some 1) none
  unfold bent_4
  repeat' decreasing_trivial_pre_omega
  refine wFT_use (any_sp ok) (fun x t1 ⟨o1, d, e, hd⟩ => ?_)
  subst e
  repeat' decreasing_trivial_pre_omega
  refine ⟨_, t1, o1, ?_, ?_, rfl⟩
  · have tv := hv.tn (by decide)
    have tw := hw.tn (by decide)
    have sv := hv.ss (by decide)
    have sw := hw.ss (by decide)
    have te : tiny (.str (tx [])) = true := tiny_tx (by decide) (by simp)
    have tn : tiny .none = true := by decide +kernel
    intro e he
    rcases List.mem_append.mp he with he | he
    · exact hds e he
    · simp only [List.mem_cons, List.not_mem_nil, or_false] at he
      rcases he with rfl | rfl | rfl | rfl | rfl | rfl | rfl | rfl | rfl | rfl | rfl | rfl
      · unfold fine
        rw [sml_tup (fun d hd => by simp only [List.mem_cons, List.not_mem_nil, or_false] at hd; subst hd; exact tv) (by simp)]
        rfl
      · unfold fine
        rw [sml_lst (fun d hd => by
          simp only [List.mem_cons, List.not_mem_nil, or_false] at hd
          rcases hd with rfl | rfl <;> assumption) (by simp)]
        rfl
      · unfold fine
        rw [sml_tup (fun d hd => by
          simp only [List.mem_cons, List.not_mem_nil, or_false] at hd
          rcases hd with rfl | rfl | rfl <;> assumption) (by simp)]
        rfl
      · exact fine_pair ((hv.cut _ _).tn (by decide)) tw ((hv.cut _ _).ss (by decide)) sw
      · exact fine_pair tn tw rfl sw
      · exact fine_pair tv tn sv rfl
      · exact fine_pair (ltrs_tl (hv.up (by decide))) tw rfl sw
      · exact fine_pair (ltrs_tt (hv.up (by decide))) tw rfl sw
      · exact fine_pair tv (ltrs_tl (hw.up (by decide))) sv rfl
      · exact fine_pair tv tw sv sw
      · exact fine_pair tv tw sv sw
      · exact hd
  · simp only [List.length_append, List.length_cons, List.length_nil]; omega
end
end QM
namespace QM
open PySem PySem.Spec L2 QL QP
def wOwn (x : SV) (r : S) (P : SV → S → Prop) : Prop := (∃ xs, (x = .ol xs ∨ (x = .fz (.list xs) ∧ flatAll xs = true)) ∧ P (.ol xs) r)
section
variable {i n m : Nat} {FD : List D → FR} {FL : S → Res (List D)} {FS : S → Res (List SV)} {T : S → Res Bool} {A B : S → RS} {r : S} {P : SV → S → Prop} {X : XPo} {p : Po} {sl : List (Option SV)} {tp : Option (Int × Int)} {ds xs : List D} {dss : List (List D)}
instance : Step (wE (fCallN n FD FL r) P X) (wE (FL r) (fun ds r => ds.length = n ∧ flatAll ds = true ∧ wF (FD ds) (fun v => wOwn v r P) (fun _ _ => False)) X) := ⟨fun h => wE_bind (wE_mono h fun ds r h => by
  obtain ⟨h1, h2, h3⟩ := h
  rw [if_pos ⟨h1, h2⟩]
  unfold outN
  cases e : FD ds with
  | bad => rw [e] at h3; exact h3
  | exc c f t => rw [e] at h3; exact h3.elim
  | ok v t =>
    rw [e] at h3
    obtain ⟨h3, xs, h4, h5⟩ := h3
    rcases h4 with h4 | ⟨h4, h6⟩
    · subst h4; exact h5
    · subst h4
      dsimp only
      rw [if_pos h6]
      exact h5)⟩
instance : Step (wOwn (.ol xs) r P) (P (.ol xs) r) := ⟨fun h => ⟨xs, .inl rfl, h⟩⟩
instance : Step (wOwn (.fz (.list xs)) r P) (flatAll xs = true ∧ P (.ol xs) r) := ⟨fun h => ⟨xs, .inr ⟨rfl, h.1⟩, h.2⟩⟩
def wOls (m : Nat) (xs : List SV) (P : List (List D) → Prop) : Prop := ∃ dss, olsS m xs = some dss ∧ P dss
def wNest (i n m : Nat) (T : S → Res Bool) (A B : S → RS) (p : Po) (dss : List (List D)) (r1 : S) : Prop := dss.length = n ∧ i < r1.sl.length ∧ n ≤ sizeLine ∧ wU r1.sl i (some (.fz (.list (dss.map .list)))) fun sl => wE (T ⟨sl, r1.tp⟩) (fun b r2 => wB b (wS (sSeq A sBad r2) p) (wU r1.sl i none fun sl => wS (B ⟨sl, r2.tp⟩) p)) p.ex
instance : Step (wS (sNest i n m FS T A B r) p) (wE (FS r) (fun xs r1 => wOls m xs fun dss => wNest i n m T A B p dss r1) p.ex) := ⟨fun h => wE_bindS (wE_mono h fun xs r1 h => by
  obtain ⟨dss, e, h1, h2, h3, h4, h5⟩ := h
  rw [e]
  dsimp only
  rw [if_pos ⟨h1, h2, h3⟩]
  refine wE_bindS (wE_mono h5 fun b r2 h => ?_)
  cases b with
  | true => exact h.1 rfl
  | false =>
    obtain ⟨_, h⟩ := h.2 rfl
    exact h)⟩
instance : Step (wNest i n m T A B p dss ⟨sl, tp⟩) (dss.length = n ∧ n ≤ 1000000 ∧ wU sl i (some (.fz (.list (dss.map .list)))) fun sl2 => wE (T ⟨sl2, tp⟩) (fun b r2 => wB b (wS (sSeq A sBad r2) p) (wU sl i none fun sl => wS (B ⟨sl, r2.tp⟩) p)) p.ex) := ⟨fun h => by
  obtain ⟨h1, h2, h3, h4⟩ := h
  exact ⟨h1, h3, by unfold sizeLine; omega, h3, h4⟩⟩
instance {P : List (List D) → Prop} : Step (wOls m [] P) (P []) := ⟨fun h => ⟨[], rfl, h⟩⟩
instance {x : List D} {r : List SV} {P : List (List D) → Prop} : Step (wOls m (.ol x :: r) P) (x.length + m ≤ 1000000 ∧ wOls m r fun dss => P (x :: dss)) := ⟨fun ⟨h1, dss, e, h⟩ => ⟨x :: dss, by
  unfold olsS
  rw [if_pos (by unfold sizeLine; omega), e]
  rfl, h⟩⟩
end
end QM
namespace QM
open PySem PySem.Spec L2 QL QP
def Lt (n m : Nat) (d : D) : Prop := d.showable = true ∧ d.depth ≤ n ∧ PyData.leavesShort 40 d = true ∧ d.weight ≤ m
theorem lt_all {n m : Nat} : ∀ {ds : List D}, (∀ d ∈ ds, Lt n m d) → PyData.showableAll ds = true ∧ PyData.depthAll ds ≤ n ∧ PyData.leavesShortAll 40 ds = true ∧ PyData.weightAll ds ≤ ds.length * (m + 2)
  | [], _ => ⟨rfl, Nat.zero_le _, rfl, by simp [PyData.weightAll]⟩
  | d :: ds, h => by
    obtain ⟨a1, a2, a3, a4⟩ := lt_all fun e he => h e (List.mem_cons_of_mem _ he)
    obtain ⟨c1, c2, c3, c4⟩ := h d (List.mem_cons_self ..)
    refine ⟨?_, ?_, ?_, ?_⟩
    · simp [PyData.showableAll, c1, a1]
    · simp only [PyData.depthAll]; omega
    · simp [PyData.leavesShortAll, c3, a3]
    · simp only [PyData.weightAll, List.length_cons, Nat.add_mul]; omega
theorem lt_list {n m k : Nat} {ds : List D} (h : ∀ d ∈ ds, Lt n m d) (hl : ds.length ≤ k) : Lt (n + 1) (k * (m + 2) + 4) (.list ds) := by
  obtain ⟨a1, a2, a3, a4⟩ := lt_all h
  have := Nat.mul_le_mul_right (m + 2) hl
  exact ⟨by simpa [PyData.showable] using a1, by simp only [PyData.depth]; omega, by simpa [PyData.leavesShort] using a3, by simp only [PyData.weight]; omega⟩
theorem lt_tup {n m k : Nat} {ds : List D} (h : ∀ d ∈ ds, Lt n m d) (hl : ds.length ≤ k) : Lt (n + 1) (k * (m + 2) + 4) (.tuple ds) := by
  obtain ⟨a1, a2, a3, a4⟩ := lt_all h
  have := Nat.mul_le_mul_right (m + 2) hl
  exact ⟨by simpa [PyData.showable] using a1, by simp only [PyData.depth]; omega, by simpa [PyData.leavesShort] using a3, by simp only [PyData.weight]; omega⟩
theorem Lt.up {n m n' m' : Nat} {d : D} (h : Lt n m d) (hn : n ≤ n') (hm : m ≤ m') : Lt n' m' d := ⟨h.1, Nat.le_trans h.2.1 hn, h.2.2.1, Nat.le_trans h.2.2.2 hm⟩
end QM
namespace QM
open PySem PySem.Spec L2 QL QP
local macro_rules | `(tactic| decreasing_trivial_pre_omega) => `(tactic| first
  | apply QM.Step.go
  | refine ⟨rfl, ?_⟩
  | refine ⟨⟨rfl, rfl⟩, ?_⟩
  | refine ⟨_, rfl, ?_⟩
  | refine ⟨_, _, rfl, ?_⟩
  | refine ⟨_, _, _, rfl, ?_⟩
  | refine ⟨Nat.le_of_ble_eq_true rfl, ?_⟩
  | refine wAt_r rfl ?_
  | refine wB_t rfl ?_
  | refine wB_f rfl ?_)
/-- nothing against nothing: whatever is inside -/
theorem dEq_nilT {f : Bool → Bool} {a : D} {as : List D} : dEqF f (.tuple (a :: as)) (.tuple []) = some (.fz (.bool (f false))) := by
  rw [d_eq]
  split
  · rfl
  · rw [if_pos (by simp [unEq])]
theorem dEq_nilL {f : Bool → Bool} {as : List D} : dEqF f (.list as) (.list []) = some (.fz (.bool (f as.isEmpty))) := by
  rw [d_eq]
  split
  · rw [eqv_nil]
  · rename_i h
    cases as with
    | nil => exact absurd ⟨by decide, by decide⟩ h
    | cons a as => rw [if_pos (by simp [unEq])]; rfl
instance {f : Bool → Bool} {a : D} {as : List D} {r : S} {P : SV → S → Prop} : Step (wO (dEqF f (.tuple (a :: as)) (.tuple [])) r P) (P (.fz (.bool (f false))) r) := ⟨fun q => wO_of (z' := .fz (.bool (f false))) dEq_nilT q⟩
instance {f : Bool → Bool} {as : List D} {r : S} {P : SV → S → Prop} : Step (wO (dEqF f (.list as) (.list [])) r P) (P (.fz (.bool (f as.isEmpty))) r) := ⟨fun q => wO_of (z' := .fz (.bool (f as.isEmpty))) dEq_nilL q⟩
end QM
namespace QM
open PySem PySem.Spec L2 QL QP
local macro_rules | `(tactic| decreasing_trivial_pre_omega) => `(tactic| first
  | apply QM.Step.go
  | refine ⟨rfl, ?_⟩
  | refine ⟨⟨rfl, rfl⟩, ?_⟩
  | refine ⟨_, rfl, ?_⟩
  | refine ⟨_, _, rfl, ?_⟩
  | refine ⟨_, _, _, rfl, ?_⟩
  | refine ⟨Nat.le_of_ble_eq_true rfl, ?_⟩
  | refine wAt_r rfl ?_
  | refine wB_t rfl ?_
  | refine wB_f rfl ?_)
abbrev Pr := Nat × Nat
abbrev nx (l : List Nat) (c i : Nat) : Option Nat := (nxt l c i).map (· + 1)
structure En where
  i : Nat
  j : Nat
  p : List Nat
  c : Nat
abbrev En.w (e : En) : List Nat := e.p ++ [e.c]
end QM
namespace QM
open PySem PySem.Spec L2 QL QP
local macro_rules | `(tactic| decreasing_trivial_pre_omega) => `(tactic| first
  | apply QM.Step.go
  | refine ⟨rfl, ?_⟩
  | refine ⟨⟨rfl, rfl⟩, ?_⟩
  | refine ⟨_, rfl, ?_⟩
  | refine ⟨_, _, rfl, ?_⟩
  | refine ⟨_, _, _, rfl, ?_⟩
  | refine ⟨Nat.le_of_ble_eq_true rfl, ?_⟩
  | refine wAt_r rfl ?_
  | refine wB_t rfl ?_
  | refine wB_f rfl ?_)
end QM
namespace QM
open PySem PySem.Spec L2 QL QP
local macro_rules | `(tactic| decreasing_trivial_pre_omega) => `(tactic| first
  | apply QM.Step.go
  | refine ⟨rfl, ?_⟩
  | refine ⟨⟨rfl, rfl⟩, ?_⟩
  | refine ⟨_, rfl, ?_⟩
  | refine ⟨_, _, rfl, ?_⟩
  | refine ⟨_, _, _, rfl, ?_⟩
  | refine ⟨Nat.le_of_ble_eq_true rfl, ?_⟩
  | refine wAt_r rfl ?_
  | refine wB_t rfl ?_
  | refine wB_f rfl ?_)
instance {fa : S → Res D} {G : S → Res SV} {r : S} {P : SV → S → Prop} {X : XPo} : Step (wE (eOrI fa G r) P X) (wE (fa r) (fun d r => wIn d fun i => wB (decide (i = 0)) (wE (G r) P X) (P (.fz (.int i)) r)) X) := ⟨fun h => wE_bind (wE_mono h fun d r h => by
  obtain ⟨i, e, h1, h2⟩ := h
  subst e
  dsimp only
  by_cases hi : i = 0
  · rw [if_pos hi]; exact h1 (decide_eq_true hi)
  · rw [if_neg hi]; exact h2 (decide_eq_false hi))⟩
instance {i : Nat} {fv fk : S → Res D} {r : S} {p : Po} : Step (wS (sPutT i fv fk r) p) (wE (fv r) (fun v r => wL r.sl i fun x => ∃ kvs, x = .ot kvs ∧ wE (fk r) (fun k r => ∃ c, keyT k = some c ∧ wL r.sl i fun x => ∃ kvs, x = .ot kvs ∧ kvs.length < sizeLine ∧ wU r.sl i (some (.ot (putT kvs c v))) fun sl => wRS sl r.tp p.nx) p.ex) p.ex) := ⟨fun h => by
  unfold sPutT
  refine wE_bindS (wE_mono h fun v r h => ?_)
  obtain ⟨x, e, kvs, e2, h⟩ := h
  subst e2
  rw [e]
  dsimp only
  refine wE_bindS (wE_mono h fun k r h => ?_)
  obtain ⟨c, e3, x2, e4, kvs2, e5, hl, hU⟩ := h
  subst e5
  rw [e3, e4]
  dsimp only
  rw [if_pos hl]
  exact hU.2⟩
/-- a wish that is not opened when it is named -/
structure Hid (p : Prop) : Prop where
  out : p
def orN (z : Int) : D := if z = 0 then .none else .int z
instance {fa : S → Res D} {r : S} {PD : D → S → Prop} {X : XPo} : Step (wE (fD (eOrI fa (eD (fC .none))) r) PD X) (wE (fa r) (fun d r => wIn d fun i => PD (orN i) r) X) := ⟨fun h => QM.Step.go (QM.Step.go (wE_mono h fun d r h => by
  obtain ⟨i, e, h⟩ := h
  refine ⟨i, e, ?_, ?_⟩
  · intro hb
    have hi : i = 0 := of_decide_eq_true hb
    rw [show orN i = .none from if_pos hi] at h
    repeat' apply QM.Step.go
    exact h
  · intro hb
    have hi : ¬ i = 0 := of_decide_eq_false hb
    rw [show orN i = .int i from if_neg hi] at h
    repeat' apply QM.Step.go
    exact h))⟩
theorem Hid.seq {A B M : S → RS} {r s : S} {p : Po} (hm : M = sSeq A B) (hA : Hid (wS (A r) (Pn fun r => r = s))) (hB : Hid (wS (B s) p)) : Hid (wS (M r) p) := ⟨by
  subst hm
  refine QM.Step.go (cutP hA.out fun t e => ?_)
  subst e
  exact hB.out⟩
theorem Hid.mono {x : RS} {q q2 : S → Prop} (h : Hid (wS x (Pn q))) (k : ∀ s, q s → q2 s) : Hid (wS x (Pn q2)) := ⟨cutP h.out k⟩
end QM
namespace QM
open PySem PySem.Spec L2 QL QP
local macro_rules | `(tactic| decreasing_trivial_pre_omega) => `(tactic| first
  | apply QM.Step.go
  | refine ⟨rfl, ?_⟩
  | refine ⟨⟨rfl, rfl⟩, ?_⟩
  | refine ⟨Nat.le_of_ble_eq_true rfl, ?_⟩
  | refine wB_t rfl ?_
  | refine wB_f rfl ?_)
abbrev prD (p : Pr) : D := .tuple [.int (p.1 : Nat), .int (p.2 : Nat)]
def ld (L : List (Pr × List Nat)) : List D := L.map fun x => .tuple [prD x.1, .str (tx x.2)]
end QM
namespace QM
open PySem PySem.Spec L2 QL QP
local macro_rules | `(tactic| decreasing_trivial_pre_omega) => `(tactic| first
  | apply QM.Step.go
  | refine ⟨rfl, ?_⟩
  | refine ⟨⟨rfl, rfl⟩, ?_⟩
  | refine ⟨_, rfl, ?_⟩
  | refine ⟨Nat.le_of_ble_eq_true rfl, ?_⟩
  | refine wB_t rfl ?_
  | refine wB_f rfl ?_)
end QM
namespace QM
open PySem PySem.Spec L2 QL QP
def wDc (d : D) (Q : List (D × D) → Prop) : Prop := ∃ kvs, d = .dict kvs ∧ isOb kvs = false ∧ Q kvs
instance {kvs : List (D × D)} {Q : List (D × D) → Prop} [n : NoOb kvs] : Step (wDc (.dict kvs) Q) (Q kvs) := ⟨fun q => ⟨_, rfl, n.h, q⟩⟩
section
variable {P : SV → S → Prop} {X : XPo} {r : S} {p : Po} {fk fx : S → Res D} {i : Nat} {sl : List (Option SV)} {tp : Option (Int × Int)} {kvs : List (D × D)} {Q : Option D → Prop} {a b : Int} {z : Str} {o : Option D}
instance {P : List D → S → Prop} : Step (wE (fDk i r) P X) (wE (fV i r) (fun d r => wDc d fun kvs => P (kysD kvs) r) X) := ⟨fun h => by
  unfold fDk
  refine wE_bind (wE_mono h fun d r h => ?_)
  obtain ⟨kvs, e, n, h⟩ := h
  subst e
  simp only [n, cond_false]
  exact h⟩
instance {G : D → S → Option S} {B : S → RS} : Step (wS (sForK i G B r) p) (wE (fDk i r) (fun ds r => wS (forF G B ds r) { p with ex := XN }) p.ex) := ⟨fun h => by
  unfold sForK
  refine wE_bindS (wE_mono h fun ds r h => ?_)
  generalize forF G B ds r = R at h ⊢
  cases R <;> first | exact h | exact h.elim⟩
instance [h : Get sl i (some (.fz (.dict kvs)))] [NoOb kvs] : Step (wE (fGetS i fk ⟨sl, tp⟩) P X) (wE (fk ⟨sl, tp⟩) (fun k r => wLk r i k fun o => wSm' o fun d => P (.fz d) r) X) := ⟨w_getS isDS_f⟩
instance [h : Get sl i (some (.fz (.dict kvs)))] [NoOb kvs] : Step (wE (fGet1S i fk ⟨sl, tp⟩) P X) (wE (fk ⟨sl, tp⟩) (fun k r => wLk r i k fun o => P (.fz (o.getD .none)) r) X) := ⟨w_get1S isDS_f⟩
instance [h : Get sl i (some (.fz (.dict kvs)))] [NoOb kvs] : Step (wE (fGet2S i fk fx ⟨sl, tp⟩) P X) (wE (fk ⟨sl, tp⟩) (fun k r => wE (fx r) (fun x r => wLk r i k fun o => P (.fz (o.getD x)) r) X) X) := ⟨w_get2S isDS_f⟩
end
end QM
namespace QM
open PySem PySem.Spec L2 QL QP
section
variable {P : SV → S → Prop} {PL : List D → S → Prop} {X : XPo} {r : S} {p : Po} {fa fb fo : S → Res D} {FL : S → Res (List D)} {i n : Nat} {c f m : Str} {q : D → Bool} {fs fs' : List (D × D)} {d e v : D} {F : List D → FR} {B : S → RS} {sl : List (Option SV)} {tp : Option (Int × Int)}
class ShF (fs : List (D × D)) : Prop where
  h : fs.length < 1000
instance : ShF [] := ⟨by simp⟩
instance {a : D × D} : ShF [a] := ⟨by simp⟩
instance {a b : D × D} : ShF [a, b] := ⟨by simp⟩
class NeS (x f : Str) : Prop where
  h : x ≠ f
instance : NeS "least" "k" := ⟨by decide +kernel⟩
instance : NeS "k" "least" := ⟨by decide +kernel⟩
class PutF (f : Str) (d : D) (fs : List (D × D)) (fs' : outParam (List (D × D))) : Prop where
  h : putFD f d fs = fs'
instance : PutF f d [] [(.str f, d)] := ⟨rfl⟩
instance {x : Str} {e : D} {r r' : List (D × D)} [n : NeS x f] [h : PutF f d r r'] : PutF f d ((.str x, e) :: r) ((.str x, e) :: r') := ⟨by rw [putFD, if_neg n.h, h.h]⟩
def wOb (c : Str) (x : SV) (Q : List (D × D) → Prop) : Prop := ∃ fs, x = .ob c fs ∧ fs.length < 1000 ∧ Q fs
instance {Q : List (D × D) → Prop} [h : ShF fs] : Step (wOb c (.ob c fs) Q) (Q fs) := ⟨fun q => ⟨fs, rfl, h.h, q⟩⟩
def wPf (f : Str) (d : D) (fs : List (D × D)) (Q : List (D × D) → Prop) : Prop := Q (putFD f d fs)
instance {Q : List (D × D) → Prop} [h : PutF f d fs fs'] : Step (wPf f d fs Q) (Q fs') := ⟨fun q => by unfold wPf; rw [h.h]; exact q⟩
instance : Step (wS (sFst c i f fa r) p) (wE (fa r) (fun d r => wL r.sl i fun x => wOb c x fun fs => wPf f d fs fun fs => wU r.sl i (some (.ob c fs)) fun sl => wRS sl r.tp p.nx) p.ex) := ⟨fun h => by
  unfold sFst
  refine wE_bindS (wE_mono h fun d r h => ?_)
  obtain ⟨x, e, fs, e2, hl, hi, h⟩ := h
  subst e2
  rw [e]
  dsimp only
  rw [if_pos ⟨rfl, hl⟩]
  exact h⟩
def wMt (c m : Str) (d : D) (Q : Prop) : Prop := ∃ fs, fldsOf c d = some fs ∧ lookF m fs = none ∧ Q
instance : Step (wE (aMeth c m fo FL r) PL X) (wE (fo r) (fun d r => wMt c m d (wE (FL r) (fun ds r => PL (d :: ds) r) X)) X) := ⟨fun h => by
  unfold aMeth
  refine wE_bind (wE_mono h fun d r h => ?_)
  obtain ⟨fs, e, l, h⟩ := h
  rw [e]
  dsimp only
  rw [l]
  exact wE_bind h⟩
def wOwO (c : Str) (q : D → Bool) (d e : D) (Q : Prop) : Prop := (fldsOf c d).isSome = true ∧ q e = true ∧ Q
instance : Step (wE (aOwn c q fa fb r) PL X) (wE (fa r) (fun d r => wE (fb r) (fun e r => wOwO c q d e (PL [d, e] r)) X) X) := ⟨fun h => by
  unfold aOwn
  refine wE_bind (wE_mono h fun d r h => wE_bind (wE_mono h fun e r h => ?_))
  obtain ⟨h1, h2, h⟩ := h
  rw [h1, h2]
  exact h⟩
theorem mkO_R {ds : List D} (h : wS (B (mkS n (.ob c [] :: ds.map .fz) none)) ⟨fun r => r.sl[0]? = some (some (.ob c fs)), fun _ _ => False, fun _ => False, fun _ => False, XN⟩) : Ret (mkO (bodyI n c B) ds) (.fz (obD c fs)) := by
  unfold mkO bodyI
  generalize B (mkS n (.ob c [] :: ds.map .fz) none) = z at h ⊢
  cases z with
  | nx r =>
    have h : r.sl[0]? = some (some (.ob c fs)) := h
    unfold outI
    dsimp only
    rw [h]
    exact ⟨_, rfl, rfl⟩
  | _ => exact h.elim
end
def Kd (k : Nat) (u : List Nat) : D := obD "Kind" [(.str "least", .str (tx u)), (.str "k", .int k)]
section
variable {P : SV → S → Prop} {r : S} {k j : Nat} {u v : List Nat} {t : Int} {Q : Prop}
theorem kd_f : fldsOf "Kind" (Kd k u) = some [(.str "least", .str (tx u)), (.str "k", .int k)] := by
  unfold Kd fldsOf
  simp
instance : Step (wO (dFld "Kind" "k" (Kd k u)) r P) (P (.fz (.int k)) r) := ⟨fun q => ⟨.fz (.int k), by
  unfold dFld
  rw [kd_f]
  dsimp only
  rw [lookF, if_neg (by decide +kernel), lookF, if_pos rfl]
  rfl, q⟩⟩
instance : Step (wO (dFld "Kind" "least" (Kd k u)) r P) (P (.fz (.str (tx u))) r) := ⟨fun q => ⟨.fz (.str (tx u)), by
  unfold dFld
  rw [kd_f]
  dsimp only
  rw [lookF, if_pos rfl]
  rfl, q⟩⟩
instance : Step (wO (dIsC "Kind" (Kd k u)) r P) (P (.fz (.bool true)) r) := ⟨fun q => ⟨.fz (.bool true), by
  unfold dIsC
  rw [kd_f]
  rfl, q⟩⟩
instance : Step (wMt "Kind" "within" (Kd k u) Q) Q := ⟨fun q => ⟨_, kd_f, by
  rw [lookF, if_neg (by decide +kernel), lookF, if_neg (by decide +kernel)]
  rfl, q⟩⟩
instance : Step (wMt "Kind" "idle_behind" (Kd k u) Q) Q := ⟨fun q => ⟨_, kd_f, by
  rw [lookF, if_neg (by decide +kernel), lookF, if_neg (by decide +kernel)]
  rfl, q⟩⟩
instance : Step (wOwO "Kind" (qOb "Kind") (Kd k u) (Kd j v) Q) Q := ⟨fun q => ⟨by rw [kd_f]; rfl, by unfold qOb; rw [kd_f]; rfl, q⟩⟩
instance : Step (wOwO "Kind" qInt (Kd k u) (.int t) Q) Q := ⟨fun q => ⟨by rw [kd_f]; rfl, rfl, q⟩⟩
end
end QM
namespace QM
open PySem PySem.Spec L2 QL QP
def wNg (x : SV) (Q : Bool → Prop) : Prop := ∃ b, x = .fz (.bool b) ∧ Q b
section
variable {P : SV → S → Prop} {X : XPo} {r : S} {k j : Nat} {u v : List Nat} {t : Int} {Q : Prop} {QB : Bool → Prop} {G : S → Res SV} {b : Bool}
instance : Step (wE (fNeg G r) P X) (wE (G r) (fun x r => wNg x fun b => P (.fz (.bool (!b))) r) X) := ⟨fun h => by
  unfold fNeg
  refine wE_bind (wE_mono h fun x r h => ?_)
  obtain ⟨b, rfl, h⟩ := h
  exact h⟩
instance : Step (wNg (.fz (.bool b)) QB) (QB b) := ⟨fun h => ⟨b, rfl, h⟩⟩
instance : Step (wOwO "Kind" (qAny "Kind") (Kd k u) (Kd j v) Q) Q := ⟨fun q => ⟨by rw [kd_f]; rfl, by unfold qAny; rw [kd_f]; rfl, q⟩⟩
end
section
variable {P : SV → S → Prop} {X : XPo} {r : S} {fa : S → Res D}
instance : Step (wE (eDictL fa r) P X) (wE (fa r) (fun d r => ∃ ds ps cs, d = .list ds ∧ prsKV ds = some ps ∧ keysDT ps = some cs ∧ P (.ot (mergeDT [] cs)) r) X) := ⟨fun h => by
  unfold eDictL
  refine wE_bind (wE_mono h fun d r h => ?_)
  obtain ⟨ds, ps, cs, rfl, e1, e2, h⟩ := h
  dsimp only
  rw [e1]
  dsimp only
  rw [e2]
  exact h⟩
end
section
variable {vs vs1 : List Nat} {G G1 : D → S → Option S} {T T1 : S → Res Bool} {I I1 : S → Res (List D)} {F : S → Res D} {r r3 r0 : S} {P : SV → S → Prop} {X : XPo} {ds es : List D}
def wLc2 (vs vs1 : List Nat) (G : D → S → Option S) (T : S → Res Bool) (I1 : S → Res (List D)) (G1 : D → S → Option S) (T1 : S → Res Bool) (F : S → Res D) (ds : List D) (r : S) (P : SV → S → Prop) : Prop :=
  ∃ acc r', lc2F vs vs1 G T I1 G1 T1 F ds [] ⟨wipeS vs r.sl, r.tp⟩ = .ok acc r' ∧ P (.ol acc) ⟨restS vs r.sl r'.sl, r'.tp⟩
instance : Step (wE (fLc2 vs vs1 I G T I1 G1 T1 F r) P X) (wE (I r) (fun ds r => wLc2 vs vs1 G T I1 G1 T1 F ds r P) X) := ⟨fun h => wE_bind (wE_mono h fun ds r h => by
  obtain ⟨acc, r', e, h⟩ := h
  show wE (match lc2F vs vs1 G T I1 G1 T1 F ds [] { r with sl := wipeS vs r.sl } with
    | .ok acc r' => Res.ok (SV.ol acc) { r' with sl := restS vs r.sl r'.sl }
    | _ => Res.bad) P X
  rw [show ({ r with sl := wipeS vs r.sl } : S) = ⟨wipeS vs r.sl, r.tp⟩ from rfl, e]
  exact h)⟩
/-- the inner loop adds out, whatever stands ahead, and the state is r0 behind it -/
def wLcI (vs vs1 : List Nat) (G1 : D → S → Option S) (T1 : S → Res Bool) (F : S → Res D) (es : List D) (r3 r0 : S) (out : List D) : Prop :=
  ∀ acc : List D, acc.length + out.length ≤ sizeLine → ∃ r4, lcF vs1 G1 T1 F es acc ⟨wipeS vs1 r3.sl, r3.tp⟩ = .ok (acc ++ out) r4 ∧ (⟨wipeS vs r4.sl, r4.tp⟩ : S) = r0
theorem lcF_mp2 (f1 : D → Option D) (ri : S) : ∀ (es : List D) (acc : List D), (∀ e ∈ es, wG (G1 e ri) fun r => wE (T1 r) (fun b r2 => wB b (wE (F r2) (fun y r3 => f1 e = some y ∧ (⟨wipeS vs1 r3.sl, r3.tp⟩ : S) = ri) XN) (f1 e = none ∧ (⟨wipeS vs1 r2.sl, r2.tp⟩ : S) = ri)) XN) →
    acc.length + (es.filterMap f1).length ≤ sizeLine → lcF vs1 G1 T1 F es acc ri = .ok (acc ++ es.filterMap f1) ri
  | [], acc, _, _ => by unfold lcF; simp
  | e :: es, acc, h, hl => by
    obtain ⟨r1, e1, h1⟩ := h e List.mem_cons_self
    have ht : ∀ e ∈ es, wG (G1 e ri) fun r => wE (T1 r) (fun b r2 => wB b (wE (F r2) (fun y r3 => f1 e = some y ∧ (⟨wipeS vs1 r3.sl, r3.tp⟩ : S) = ri) XN) (f1 e = none ∧ (⟨wipeS vs1 r2.sl, r2.tp⟩ : S) = ri)) XN := fun d hd => h d (List.mem_cons_of_mem _ hd)
    unfold lcF
    rw [e1]
    dsimp only
    cases e2 : T1 r1 with
    | bad => rw [e2] at h1; exact h1.elim
    | exc c f s => rw [e2] at h1; exact h1.elim
    | ok b r2 =>
      rw [e2] at h1
      cases b with
      | true =>
        have h2 := h1.1 rfl
        dsimp only
        cases e3 : F r2 with
        | bad => rw [e3] at h2; exact h2.elim
        | exc c f s => rw [e3] at h2; exact h2.elim
        | ok y r3 =>
          rw [e3] at h2
          obtain ⟨hy, hr⟩ := h2
          rw [List.filterMap_cons, hy] at hl ⊢
          rw [List.length_cons] at hl
          dsimp only
          rw [if_pos (by omega)]
          have := lcF_mp2 f1 ri es (acc ++ [y]) ht (by simp; omega)
          rw [show ({ r3 with sl := wipeS vs1 r3.sl } : S) = ri from hr, this, List.append_assoc]
          rfl
      | false =>
        obtain ⟨hy, hr⟩ := h1.2 rfl
        rw [List.filterMap_cons, hy] at hl ⊢
        dsimp only
        rw [show ({ r2 with sl := wipeS vs1 r2.sl } : S) = ri from hr]
        exact lcF_mp2 f1 ri es acc ht hl
theorem wLcI_map (f1 : D → Option D) (st : ∀ e ∈ es, wG (G1 e ⟨wipeS vs1 r3.sl, r3.tp⟩) fun r => wE (T1 r) (fun b r2 => wB b (wE (F r2) (fun y r4 => f1 e = some y ∧ (⟨wipeS vs1 r4.sl, r4.tp⟩ : S) = ⟨wipeS vs1 r3.sl, r3.tp⟩) XN) (f1 e = none ∧ (⟨wipeS vs1 r2.sl, r2.tp⟩ : S) = ⟨wipeS vs1 r3.sl, r3.tp⟩)) XN)
    (h : (⟨wipeS vs (wipeS vs1 r3.sl), r3.tp⟩ : S) = r0) : wLcI vs vs1 G1 T1 F es r3 r0 (es.filterMap f1) := fun acc hl => ⟨_, lcF_mp2 f1 _ es acc st hl, h⟩
theorem lc2F_map (f : D → List D) (r0 : S) : ∀ (ds : List D) (acc : List D), (∀ d ∈ ds, wG (G d r0) fun r1 => wE (T r1) (fun b r2 => wB b (wE (I1 r2) (fun es r3 => wLcI vs vs1 G1 T1 F es r3 r0 (f d)) XN) (f d = [] ∧ (⟨wipeS vs r2.sl, r2.tp⟩ : S) = r0)) XN) →
    acc.length + (ds.flatMap f).length ≤ sizeLine → lc2F vs vs1 G T I1 G1 T1 F ds acc r0 = .ok (acc ++ ds.flatMap f) r0
  | [], acc, _, _ => by unfold lc2F; simp
  | d :: ds, acc, h, hl => by
    obtain ⟨r1, e1, h1⟩ := h d List.mem_cons_self
    have ht : ∀ d ∈ ds, wG (G d r0) fun r1 => wE (T r1) (fun b r2 => wB b (wE (I1 r2) (fun es r3 => wLcI vs vs1 G1 T1 F es r3 r0 (f d)) XN) (f d = [] ∧ (⟨wipeS vs r2.sl, r2.tp⟩ : S) = r0)) XN := fun d hd => h d (List.mem_cons_of_mem _ hd)
    rw [List.flatMap_cons, List.length_append] at hl
    unfold lc2F
    rw [e1]
    dsimp only
    cases e2 : T r1 with
    | bad => rw [e2] at h1; exact h1.elim
    | exc c f s => rw [e2] at h1; exact h1.elim
    | ok b r2 =>
      rw [e2] at h1
      cases b with
      | true =>
        have h2 := h1.1 rfl
        dsimp only
        cases e3 : I1 r2 with
        | bad => rw [e3] at h2; exact h2.elim
        | exc c f s => rw [e3] at h2; exact h2.elim
        | ok es r3 =>
          rw [e3] at h2
          obtain ⟨r4, e4, e5⟩ := h2 acc (by omega)
          dsimp only
          rw [show ({ r3 with sl := wipeS vs1 r3.sl } : S) = ⟨wipeS vs1 r3.sl, r3.tp⟩ from rfl, e4]
          dsimp only
          rw [show ({ r4 with sl := wipeS vs r4.sl } : S) = r0 from e5, lc2F_map f r0 ds (acc ++ f d) ht (by rw [List.length_append]; omega), List.flatMap_cons, List.append_assoc]
      | false =>
        obtain ⟨hy, hr⟩ := h1.2 rfl
        dsimp only
        rw [show ({ r2 with sl := wipeS vs r2.sl } : S) = r0 from hr, List.flatMap_cons, hy]
        exact lc2F_map f r0 ds acc ht (by omega)
theorem wLc2_map (f : D → List D) (hl : (ds.flatMap f).length ≤ sizeLine)
    (st : ∀ d ∈ ds, wG (G d ⟨wipeS vs r.sl, r.tp⟩) fun r1 => wE (T r1) (fun b r2 => wB b (wE (I1 r2) (fun es r3 => wLcI vs vs1 G1 T1 F es r3 ⟨wipeS vs r.sl, r.tp⟩ (f d)) XN) (f d = [] ∧ (⟨wipeS vs r2.sl, r2.tp⟩ : S) = ⟨wipeS vs r.sl, r.tp⟩)) XN)
    (he : P (.ol (ds.flatMap f)) ⟨restS vs r.sl (wipeS vs r.sl), r.tp⟩) : wLc2 vs vs1 G T I1 G1 T1 F ds r P :=
  ⟨_, _, lc2F_map f _ ds [] st (by simpa using hl), he⟩
end
end QM
namespace QM
open PySem PySem.Spec L2 QL QP
local macro_rules | `(tactic| decreasing_trivial_pre_omega) => `(tactic| first
  | apply QM.Step.go
  | refine ⟨rfl, ?_⟩
  | refine ⟨⟨rfl, rfl⟩, ?_⟩
  | refine ⟨_, rfl, ?_⟩
  | refine ⟨_, _, rfl, ?_⟩
  | refine ⟨_, _, _, rfl, ?_⟩
  | refine ⟨Nat.le_of_ble_eq_true rfl, ?_⟩
  | refine wAt_r rfl ?_
  | refine wB_t rfl ?_
  | refine wB_f rfl ?_)
def wSrM (L : List Nat) (r : S) (P : SV → S → Prop) : Prop := False ∨ wO (dSortA [.list (natsD L)]) r P
theorem wO_sortM {P : SV → S → Prop} {r : S} {L : List Nat} (q : ∀ ms : List Nat, ms.Perm L → ms.Pairwise (· ≤ ·) → P (.ol (natsD ms)) r) : wO (dSortA [.list (natsD L)]) r P := by
  cases L with
  | nil =>
    refine wO_of (z' := .nl []) ?_ (q [] (List.Perm.refl _) .nil)
    rfl
  | cons n ns => exact wO_sortN q
instance (priority := 2000) {L : List Nat} {r : S} {P : SV → S → Prop} : Step (wO (dSortA [.list (natsD L)]) r P) (wSrM L r P) := ⟨fun h => h.resolve_left id⟩
theorem wSrM_i {P : SV → S → Prop} {r : S} {L : List Nat} (q : ∀ ms : List Nat, ms.Perm L → ms.Pairwise (· ≤ ·) → P (.ol (natsD ms)) r) : wSrM L r P := .inr (wO_sortM q)
abbrev rowsD (R : List (List Nat)) : List D := R.map fun row => .tuple (natsD row)
/-- rows of n places each, all below their number -/
structure RowsOk (n m : Nat) (R : List (List Nat)) : Prop where
  len : ∀ row ∈ R, row.length = n
  lt : ∀ row ∈ R, ∀ p ∈ row, p < m
section
variable {l : List Nat} {most m : Nat} {x4 x6 : Option SV} {t : Int × Int}
abbrev Sm (l : List Nat) (most m : Nat) (x4 x6 x8 : Option SV) (t : Int × Int) : S := ⟨[some .tape, some (.fz (.str (tx l))), some (.fz (.int (most : Nat))), some (.fz (.int (m : Nat))), x4, none, x6, none, x8], some t⟩
theorem dm_row (ok : TapeOk t = true) (h : 1 ≤ m) (hm : m ≤ 1000) (hl : l.length ≤ 100) : Hid (wE (_law_drawn_machine_e2 (Sm l most m x4 x6 none t)) (fun y r => ∃ row t', TapeOk t' = true ∧ y = .tuple (natsD row) ∧ row.length = l.length ∧ (∀ p ∈ row, p < m) ∧ r = Sm l most m x4 x6 none t') XN) := by
  refine ⟨?_⟩
  unfold _law_drawn_machine_e2
  repeat' decreasing_trivial_pre_omega
  refine ⟨szb' (by omega), ?_⟩
  repeat' decreasing_trivial_pre_omega
  refine wLc_inv (fun j acc r => ∃ row t', acc = natsD row ∧ row.length = j ∧ (∀ p ∈ row, p < m) ∧ TapeOk t' = true ∧ r = Sm l most m x4 x6 none t') ?_ ?_ ?_
  · exact ⟨[], t, rfl, rfl, fun _ h => (nomatch h), ok, rfl⟩
  · rintro j d acc r hd ⟨row, t1, rfl, hj, hr, o1, rfl⟩
    have hjl : j < l.length := by
      have := (List.getElem?_eq_some_iff.mp hd).1
      have e : (ltrs l).length = l.length := by unfold ltrs; exact List.length_map ..
      rw [e] at this; exact this
    obtain ⟨c, hc, rfl⟩ := List.mem_map.mp (List.mem_of_getElem? hd)
    refine ⟨_, rfl, ?_⟩
    unfold _law_drawn_machine_e1
    repeat' decreasing_trivial_pre_omega
    refine wFT_use (pick_sp o1 (by omega) (by omega)) (fun v t2 ⟨o2, f, e, hf⟩ => ?_)
    subst e
    repeat' decreasing_trivial_pre_omega
    refine ⟨szl' (by simp; omega), row ++ [f], t2, by simp [natsD], by simp [hj], fun p hp => ?_, o2, rfl⟩
    rcases List.mem_append.mp hp with z | z
    · exact hr p z
    · rw [List.mem_singleton.mp z]; omega
  · rintro acc r ⟨row, t1, rfl, hj, hr, o1, rfl⟩
    repeat' decreasing_trivial_pre_omega
    refine ⟨row, t1, o1, rfl, by rw [hj]; unfold ltrs; exact List.length_map .., hr, rfl⟩
/-- the rows -/
theorem dm_rows (ok : TapeOk t = true) (h : 1 ≤ m) (hm : m ≤ 1000) (hl : l.length ≤ 100) : Hid (wS (sAsg 4 (fLc [6] (fRng1 (aCons (fV 3) (aNil))) (gNm 6) (tYesF) (_law_drawn_machine_e2)) (Sm l most m none none none t)) (Pn fun r => ∃ R t', TapeOk t' = true ∧ R.length = m ∧ RowsOk l.length m R ∧ r = Sm l most m (some (.ol (rowsD R))) none none t')) := by
  have key := fun x6 t ok => (@dm_row l most m none x6 t ok h hm hl).out
  refine ⟨?_⟩
  generalize _law_drawn_machine_e2 = E2 at key ⊢
  repeat' decreasing_trivial_pre_omega
  refine ⟨by omega, ?_⟩
  rw [show ((m : Nat) : Int).toNat = m by omega]
  refine wLc_inv (fun j acc r => ∃ R t', acc = rowsD R ∧ R.length = j ∧ RowsOk l.length m R ∧ TapeOk t' = true ∧ r = Sm l most m none none none t') ?_ ?_ ?_
  · exact ⟨[], t, rfl, rfl, ⟨fun _ h => (nomatch h), fun _ h => (nomatch h)⟩, ok, rfl⟩
  · rintro j d acc r hd ⟨R, t1, rfl, hj, hR, o1, rfl⟩
    obtain ⟨rfl, hjm⟩ := rngL_get hd
    refine ⟨_, rfl, ?_⟩
    repeat' decreasing_trivial_pre_omega
    refine wE_mono (key _ t1 o1) fun y r hy => ?_
    obtain ⟨row, t2, o2, rfl, h1, h2, rfl⟩ := hy
    refine ⟨szl' (by simp; omega), R ++ [row], t2, by simp [rowsD], by simp [hj], ⟨fun x hx => ?_, fun x hx => ?_⟩, o2, rfl⟩
    · rcases List.mem_append.mp hx with z | z
      · exact hR.len x z
      · rw [List.mem_singleton.mp z]; exact h1
    · rcases List.mem_append.mp hx with z | z
      · exact hR.lt x z
      · rw [List.mem_singleton.mp z]; exact h2
  · rintro acc r ⟨R, t1, rfl, hj, hR, o1, rfl⟩
    repeat' decreasing_trivial_pre_omega
    exact ⟨R, t1, o1, by simpa [rngL] using hj, hR, rfl⟩
def mxF (j : Nat) : D → Option D
  | .int p => some (.int (if p > (j : Int) then p else (j : Int)))
  | _ => none
theorem mxF_all (j : Nat) (row : List Nat) : (natsD row).filterMap (mxF j) = natsD (row.map fun p => max j p) := by
  induction row with
  | nil => rfl
  | cons a row ih =>
    show List.filterMap (mxF j) (.int (a : Nat) :: natsD row) = _
    have e : mxF j (.int (a : Nat)) = some (.int ((max j a : Nat) : Nat)) := by
      show some (PyData.int (if ((a : Nat) : Int) > (j : Int) then ((a : Nat) : Int) else (j : Int))) = _
      congr 2
      split <;> omega
    rw [List.filterMap_cons, e]
    dsimp only
    rw [ih]; rfl
end
end QM
namespace QM
open PySem PySem.Spec L2 QL QP
/-- a letter put in -/
def ins (l : List Nat) (p c : Nat) : List Nat := l.take p ++ c :: l.drop p
end QM
namespace QM
open PySem PySem.Spec L2 QL QP
def okA (a : D) : Bool := okD a || (match a with | .dict kvs => !isOb kvs | _ => false)
def eqS (a : D) (m : List Nat) : Bool := match a with | .str s => decide (s.cps.toList = m) | _ => false
theorem d_eqA {f : Bool → Bool} {a : D} {m : List Nat} (h : okA a = true) : dEqF f a (.str (tx m)) = some (.fz (.bool (f (eqS a m)))) := by
  unfold okA at h
  simp only [Bool.or_eq_true] at h
  cases a with
  | str s =>
    rw [Str.tx s, d_eq, if_pos ⟨ok_str, ok_str⟩, eqv_str, tx_dec]
    rfl
  | dict kvs =>
    have : okD (.dict kvs) = false := by unfold okD; simp [PyData.plain]
    have hn : isOb kvs = false := by
      rcases h with h | h
      · rw [this] at h; cases h
      · simpa using h
    rw [d_eq, this, if_neg (by simp), if_pos (by unfold unEq; simp [hn])]
    rfl
  | _ =>
    rcases h with h | h
    · rw [d_eq, if_pos ⟨h, ok_str⟩]
      simp [PyData.eqv, eqS]
    · cases h
section
variable {P : SV → S → Prop} {r : S} {f : Bool → Bool} {a : D} {m : List Nat}
instance (priority := 500) : Step (wO (dEqF f a (.str (tx m))) r P) (okA a = true ∧ P (.fz (.bool (f (eqS a m)))) r) := ⟨fun q => wO_of (z' := .fz (.bool (f (eqS a m)))) (d_eqA q.1) q.2⟩
end
def isC (d : D) : Bool := match d with | .int i => decide (0 ≤ i) | _ => false
theorem isC_R (d : D) : Ret (F_is_count [d]) (.fz (.bool (isC d))) := by
  cases d with
  | int i => exact Ret.of_eq (is_count_eq i)
  | _ => exact ⟨none, rfl, rfl⟩
theorem isC_law (d : D) : Ret (F__law_is_count [d]) (.fz (.bool (isC d))) := isC_R d
instance {P : SV → Prop} {X : Str → List (Str × D) → Prop} {d : D} : Step (wF (F_is_count [d]) P X) (P (.fz (.bool (isC d)))) := ⟨wF_ret (isC_R d)⟩
instance {P : SV → Prop} {X : Str → List (Str × D) → Prop} {d : D} : Step (wF (F__law_is_count [d]) P X) (P (.fz (.bool (isC d)))) := ⟨wF_ret (isC_law d)⟩
theorem isC_yes {d : D} (h : isC d = true) : ∃ p : Nat, d = .int (p : Nat) := by
  cases d with
  | int i => exact ⟨i.toNat, by have : 0 ≤ i := of_decide_eq_true h; congr 1; omega⟩
  | _ => cases h
local macro_rules | `(tactic| decreasing_trivial_pre_omega) => `(tactic| first
  | apply QM.Step.go
  | refine ⟨rfl, ?_⟩
  | refine ⟨⟨rfl, rfl⟩, ?_⟩
  | refine ⟨_, rfl, ?_⟩
  | refine ⟨_, _, rfl, ?_⟩
  | refine ⟨_, _, _, rfl, ?_⟩
  | refine ⟨Nat.le_of_ble_eq_true rfl, ?_⟩
  | refine ⟨szb' (by omega), ?_⟩
  | refine ⟨szb' (by simp only [List.length_append, List.length_take, List.length_drop, List.length_reverse, List.length_cons, List.length_nil]; omega), ?_⟩
  | refine ⟨by assumption, ?_⟩
  | refine wB_f (by assumption) ?_
  | refine wAt_r rfl ?_
  | refine wB_t rfl ?_
  | refine wB_f rfl ?_)
end QM
namespace QM
open PySem PySem.Spec L2 QL QP
local macro_rules | `(tactic| decreasing_trivial_pre_omega) => `(tactic| first
  | apply QM.Step.go
  | refine ⟨rfl, ?_⟩
  | refine ⟨⟨rfl, rfl⟩, ?_⟩
  | refine ⟨_, rfl, ?_⟩
  | refine ⟨_, _, rfl, ?_⟩
  | refine ⟨_, _, _, rfl, ?_⟩
  | refine ⟨Nat.le_of_ble_eq_true rfl, ?_⟩
  | refine wAt_r rfl ?_
  | refine wB_t rfl ?_
  | refine wB_f rfl ?_)
def plB (m : Nat) (d : D) : Bool := isC d && (match d with | .int i => decide (i < m) | _ => false)
def shB (n : Nat) (d : D) : Bool := match d with | .tuple ps => decide (ps.length = n) | _ => false
def inB (m : Nat) (d : D) : Bool := match d with | .tuple ps => ps.all (plB m) | _ => false
def rowsB (n : Nat) (d : D) : Bool := match d with | .list rs => !rs.isEmpty && (rs.all (shB n) && rs.all (inB rs.length)) | _ => false
def natOf (d : D) : Nat := match d with | .int i => i.toNat | _ => 0
def letsB (m : Nat) (d : D) : Bool := match d with | .list ps => ps.all (plB m) && decide ((ps.map natOf).Nodup) | _ => false
theorem w_all : ∀ {ds : List D}, ds.length ≤ PyData.weightAll ds ∧ ∀ d ∈ ds, d.weight ≤ PyData.weightAll ds
  | [] => ⟨Nat.zero_le _, fun _ h => (nomatch h)⟩
  | d :: ds => by
    obtain ⟨a, b⟩ := @w_all ds
    simp only [PyData.weightAll, List.length_cons]
    refine ⟨by omega, fun e he => ?_⟩
    rcases List.mem_cons.mp he with rfl | he
    · omega
    · have := b e he; omega
theorem w_list {ds : List D} {k : Nat} (h : PyData.weight (.list ds) ≤ k) : ds.length ≤ k ∧ ∀ d ∈ ds, d.weight ≤ k := by
  simp only [PyData.weight] at h
  obtain ⟨a, b⟩ := @w_all ds
  exact ⟨by omega, fun d hd => by have := b d hd; omega⟩
theorem w_tup {ds : List D} {k : Nat} (h : PyData.weight (.tuple ds) ≤ k) : ds.length ≤ k ∧ ∀ d ∈ ds, d.weight ≤ k := by
  simp only [PyData.weight] at h
  obtain ⟨a, b⟩ := @w_all ds
  exact ⟨by omega, fun d hd => by have := b d hd; omega⟩
theorem boolsF (g : D → Bool) (ds : List D) : ds.filterMap (fun d => some (PyData.bool (g d))) = (ds.map g).map PyData.bool := by
  induction ds with
  | nil => rfl
  | cons d ds ih => rw [List.filterMap_cons]; dsimp only; rw [ih]; rfl
theorem okB (bs : List Bool) : okD (.list (bs.map PyData.bool)) = true := (okN_list (n := 3) fun d hd => by
  obtain ⟨b, _, rfl⟩ := List.mem_map.mp hd
  exact okN_bool).ok
theorem in_bools (bs : List Bool) : ((bs.map PyData.bool).any fun y => PyData.eqv y (.bool false)) = decide (false ∈ bs) := any_eqv eqv_bool false bs
theorem notin_all (g : D → Bool) (ds : List D) : decide (false ∈ ds.map g) = !ds.all g := by
  induction ds with
  | nil => rfl
  | cons d ds ih =>
    rw [List.all_cons, List.map_cons, Bool.not_and, ← ih]
    cases h : g d <;> simp
def psOf (d : D) : List D := match d with | .tuple ps => ps | _ => []
theorem sum_rows {n k m : Nat} (hn : n ≤ k) : ∀ {R : List D}, (∀ d ∈ R, shB n d = true) → (R.flatMap fun d => (psOf d).filterMap fun p => some (PyData.bool (plB m p))).length ≤ R.length * k
  | [], _ => by simp
  | d :: R, h => by
    have := sum_rows (m := m) hn fun x hx => h x (List.mem_cons_of_mem d hx)
    have h := h d (List.mem_cons_self ..)
    rw [List.flatMap_cons, List.length_append, List.length_cons, boolsF, List.length_map, List.length_map]
    have : (psOf d).length ≤ k := by
      cases d with
      | tuple ps => have := of_decide_eq_true h; show ps.length ≤ k; omega
      | _ => exact Nat.zero_le _
    rw [Nat.add_mul]
    omega
theorem flat_bools {m : Nat} : ∀ (R : List D), (∀ d ∈ R, ∃ ps, d = .tuple ps) → ∃ bs : List Bool, (R.flatMap fun d => (psOf d).filterMap fun p => some (PyData.bool (plB m p))) = bs.map PyData.bool ∧ decide (false ∈ bs) = !R.all (inB m)
  | [], _ => ⟨[], rfl, rfl⟩
  | d :: R, h => by
    obtain ⟨bs, e1, e2⟩ := flat_bools R fun x hx => h x (List.mem_cons_of_mem d hx)
    obtain ⟨ps, rfl⟩ := h d (List.mem_cons_self ..)
    refine ⟨ps.map (plB m) ++ bs, ?_, ?_⟩
    · rw [List.flatMap_cons, e1, List.map_append, boolsF]; rfl
    · rw [List.all_cons, Bool.not_and, ← e2, show inB m (.tuple ps) = ps.all (plB m) from rfl, ← notin_all]
      simp only [List.mem_append]
      by_cases a : false ∈ ps.map (plB m) <;> by_cases b : false ∈ bs <;> simp [a, b]
theorem are_rows_R {l : List Nat} {d : D} (hl : l.length ≤ 100) (hd : d.weight ≤ 5000) : Ret (F_are_rows [.str (tx l), d]) (.fz (.bool (rowsB l.length d))) := by
  refine Ret.go ?_
  unfold B_are_rows
  cases d with
  | list rs =>
    obtain ⟨h1, h2⟩ := w_list hd
    repeat' decreasing_trivial_pre_omega
    cases rs with
    | nil =>
      repeat' decreasing_trivial_pre_omega
      rfl
    | cons r0 rs =>
    generalize hR : r0 :: rs = R at *
    have h0 : R.isEmpty = false := by subst hR; rfl
    have hB : rowsB l.length (.list R) = (R.all (shB l.length) && R.all (inB R.length)) := by
      show (!R.isEmpty && _) = _
      rw [h0]; rfl
    rw [h0]
    repeat' decreasing_trivial_pre_omega
    refine lc_map (fun d => some (.bool (shB l.length d))) (szb' (by omega)) (fun d hd => ?_) ?_
    · have hw := h2 d hd
      unfold are_rows_e1
      cases d with
      | tuple ps =>
        obtain ⟨h3, _⟩ := w_tup hw
        repeat' decreasing_trivial_pre_omega
        refine ⟨szb' (by omega), ?_⟩
        repeat' decreasing_trivial_pre_omega
        show some (PyData.bool (shB l.length (.tuple ps))) = _ ∧ _
        refine ⟨?_, rfl⟩
        unfold shB
        congr 2
        exact decide_eq_decide.mpr (by omega)
      | _ =>
        repeat' decreasing_trivial_pre_omega
        rfl
    · rw [boolsF]
      repeat' decreasing_trivial_pre_omega
      refine ⟨⟨rfl, okB _⟩, ?_⟩
      rw [in_bools, notin_all]
      rw [hB]
      cases hs : R.all (shB l.length) with
      | false =>
        repeat' decreasing_trivial_pre_omega
        rfl
      | true =>
        have hs := List.all_eq_true.mp hs
        repeat' decreasing_trivial_pre_omega
        have hsum := sum_rows (m := R.length) hl hs
        refine wLc2_map (fun d => (psOf d).filterMap fun p => some (PyData.bool (plB R.length p))) (szb' (by omega)) (fun d hd => ?_) ?_
        · cases d with
          | tuple ps =>
            unfold are_rows_i2
            repeat' decreasing_trivial_pre_omega
            refine wLcI_map _ (fun p hp => ?_) rfl
            unfold are_rows_e3
            repeat' decreasing_trivial_pre_omega
            cases hc : isC p with
            | false =>
              repeat' decreasing_trivial_pre_omega
              refine ⟨?_, rfl⟩
              unfold plB
              rw [hc]; rfl
            | true =>
              obtain ⟨q, rfl⟩ := isC_yes hc
              repeat' decreasing_trivial_pre_omega
              rfl
          | _ => exact absurd (hs _ hd) (by simp [shB])
        · obtain ⟨bs, e1, e2⟩ := flat_bools (m := R.length) R fun d hd => by
            have := hs d hd
            cases d with
            | tuple ps => exact ⟨ps, rfl⟩
            | _ => exact absurd this (by simp [shB])
          rw [e1]
          repeat' decreasing_trivial_pre_omega
          refine ⟨⟨rfl, okB _⟩, ?_⟩
          rw [in_bools, e2]
          refine ⟨rfl, ?_⟩
          simp
  | _ =>
    repeat' decreasing_trivial_pre_omega
    rfl
end QM
namespace QM
open PySem PySem.Spec L2 QL QP
local macro_rules | `(tactic| decreasing_trivial_pre_omega) => `(tactic| first
  | apply QM.Step.go
  | refine ⟨rfl, ?_⟩
  | refine ⟨⟨rfl, rfl⟩, ?_⟩
  | refine ⟨_, rfl, ?_⟩
  | refine ⟨_, _, rfl, ?_⟩
  | refine ⟨_, _, _, rfl, ?_⟩
  | refine ⟨Nat.le_of_ble_eq_true rfl, ?_⟩
  | refine wAt_r rfl ?_
  | refine wB_t rfl ?_
  | refine wB_f rfl ?_)
theorem ddL_full {α : Type} [DecidableEq α] : ∀ (l acc : List α), acc.Nodup → (ddL acc l).length = acc.length + l.length → (acc ++ l).Nodup
  | [], acc, h, _ => by simpa using h
  | c :: l, acc, h, e => by
    rw [ddL] at e
    split at e
    · have := ddL_len l acc
      rw [List.length_cons] at e; omega
    · rename_i hc
      have := ddL_full l (acc ++ [c]) (by
        rw [List.nodup_append]
        refine ⟨h, by simp, fun a ha b hb => ?_⟩
        rw [List.mem_singleton.mp hb]
        rintro rfl
        exact hc ha) (by rw [e]; simp; omega)
      simpa using this
theorem dd_full {α : Type} [DecidableEq α] (l : List α) : decide ((ddL [] l).length = l.length) = decide l.Nodup := decide_eq_decide.mpr ⟨fun h => by simpa using ddL_full l [] .nil (by simpa using h), fun h => by rw [ddL_self l [] (by simpa using h)]; rfl⟩
theorem step_dd : ∀ (l acc : List Int), l.foldl PyProof.Rows.step_dedup acc = ddL acc l
  | [], acc => by rw [ddL]; rfl
  | c :: l, acc => by
    rw [List.foldl_cons, ddL]
    unfold PyProof.Rows.step_dedup
    by_cases h : c ∈ acc
    · rw [if_pos h, if_pos (List.any_eq_true.mpr ⟨c, h, by simp⟩)]
      exact step_dd l acc
    · rw [if_neg h, if_neg (fun z => h (by obtain ⟨x, hx, e⟩ := List.any_eq_true.mp z; rwa [← (show x = c by simpa using e)]))]
      exact step_dd l (acc ++ [c])
theorem metI_dd (l : List Int) : metI l = ddL [] l := by
  unfold metI PyProof.Rows.firstMet
  rw [step_dd]
  congr 1
  refine List.ext_getElem? fun i => ?_
  rw [List.getElem?_map]
  by_cases h : i < l.length
  · rw [List.getElem?_range h, List.getElem?_eq_getElem h]; simp [List.getD, h]
  · rw [List.getElem?_eq_none (by simpa using h), List.getElem?_eq_none (by omega)]; rfl
def toI (ns : List Nat) : List Int := ns.map fun n : Nat => (n : Int)
theorem toI_nodup (ns : List Nat) : (toI ns).Nodup ↔ ns.Nodup := by
  unfold toI
  induction ns with
  | nil => simp
  | cons n ns ih =>
    rw [List.map_cons, List.nodup_cons, List.nodup_cons, ih]
    simp only [List.mem_map, not_exists, not_and]
    refine and_congr_left fun _ => ⟨fun h hn => h n hn rfl, fun h m hm e => h ((show m = n by omega) ▸ hm)⟩
theorem natsD_toI (ns : List Nat) : natsD ns = (toI ns).map PyData.int := by unfold toI natsD; rw [List.map_map]; rfl
instance {ns : List Nat} {r : S} {P : SV → S → Prop} : Step (wO (dLenSet (.list (natsD ns))) r P) (ns.length < 4000 ∧ P (.fz (.int ((ddL [] (toI ns)).length : Nat))) r) := ⟨fun q => wO_of (z' := .fz (.int (metI (toI ns)).length)) (by
  rw [natsD_toI]
  unfold dLenSet
  dsimp only
  rw [d_ints]
  dsimp only
  rw [if_pos (by unfold toI; rw [List.length_map]; exact q.1)]) (by
  rw [metI_dd]; exact q.2)⟩
theorem all_pl {m : Nat} : ∀ {ps : List D}, ps.all (plB m) = true → ps = natsD (ps.map natOf) ∧ ∀ p ∈ ps.map natOf, p < m
  | [], _ => ⟨rfl, fun _ h => (nomatch h)⟩
  | d :: ps, h => by
    rw [List.all_cons, Bool.and_eq_true] at h
    obtain ⟨e, f⟩ := all_pl h.2
    have h1 := h.1
    unfold plB at h1
    rw [Bool.and_eq_true] at h1
    obtain ⟨q, rfl⟩ : ∃ q : Nat, d = .int (q : Nat) := isC_yes h1.1
    have h2 : ((q : Nat) : Int) < m := of_decide_eq_true h1.2
    refine ⟨?_, fun p hp => ?_⟩
    · show _ :: ps = _ :: natsD (ps.map natOf)
      rw [← e]; rfl
    · rw [List.map_cons, List.mem_cons] at hp
      rcases hp with e2 | hp
      · rw [e2]
        show (q : Int).toNat < m
        omega
      · exact f p hp
theorem are_lets_R {m : Nat} {d : D} (hd : d.weight ≤ 3000) : Ret (F_are_lets [.int (m : Nat), d]) (.fz (.bool (letsB m d))) := by
  refine Ret.go ?_
  unfold B_are_lets
  cases d with
  | list ps =>
    obtain ⟨h1, h2⟩ := w_list hd
    repeat' decreasing_trivial_pre_omega
    refine lc_map (fun d => some (.bool (plB m d))) (szb' (by omega)) (fun p hp => ?_) ?_
    · unfold are_lets_e1
      repeat' decreasing_trivial_pre_omega
      cases hc : isC p with
      | false =>
        repeat' decreasing_trivial_pre_omega
        refine ⟨?_, rfl⟩
        unfold plB
        rw [hc]; rfl
      | true =>
        obtain ⟨q, rfl⟩ := isC_yes hc
        repeat' decreasing_trivial_pre_omega
        rfl
    · rw [boolsF]
      repeat' decreasing_trivial_pre_omega
      refine ⟨⟨rfl, okB _⟩, ?_⟩
      rw [in_bools, notin_all]
      rw [show letsB m (.list ps) = (ps.all (plB m) && decide ((ps.map natOf).Nodup)) from rfl]
      cases hs : ps.all (plB m) with
      | false =>
        repeat' decreasing_trivial_pre_omega
        rfl
      | true =>
        obtain ⟨e, f⟩ := all_pl hs
        rw [show decide ((ps.map natOf).Nodup) = decide ((ddL [] (toI (ps.map natOf))).length = (ps.map natOf).length) by
          have := dd_full (toI (ps.map natOf))
          rw [decide_eq_decide.mpr (toI_nodup _)] at this
          rw [← this]; unfold toI; rw [List.length_map]]
        revert e
        generalize hns : ps.map natOf = ns at *
        rintro rfl
        rw [List.length_map] at h1
        repeat' decreasing_trivial_pre_omega
        refine ⟨by omega, ?_⟩
        repeat' decreasing_trivial_pre_omega
        rw [Bool.true_and]
        congr 2
        exact decide_eq_decide.mpr (by rw [List.length_map]; omega)
  | _ =>
    repeat' decreasing_trivial_pre_omega
    rfl
end QM
namespace QM
open PySem PySem.Spec L2 QL QP
local macro_rules | `(tactic| decreasing_trivial_pre_omega) => `(tactic| first
  | apply QM.Step.go
  | refine ⟨rfl, ?_⟩
  | refine ⟨⟨rfl, rfl⟩, ?_⟩
  | refine ⟨_, rfl, ?_⟩
  | refine ⟨_, _, rfl, ?_⟩
  | refine ⟨_, _, _, rfl, ?_⟩
  | refine ⟨Nat.le_of_ble_eq_true rfl, ?_⟩
  | refine wAt_r rfl ?_
  | refine wB_t rfl ?_
  | refine wB_f rfl ?_)
instance : OfS "rows" [114, 111, 119, 115] := ⟨by decide +kernel⟩
instance : OfS "lets" [108, 101, 116, 115] := ⟨by decide +kernel⟩
section
variable {a b c : D} {x3 x4 x5 : Option SV} {p : Po}
theorem eqv_natsD (x y : Nat) : PyData.eqv (.int (x : Nat)) (.int (y : Nat)) = decide (x = y) := by
  show PyData.eqv (.int (x : Int)) (.int (y : Int)) = _
  rw [eqv_int]
  exact decide_eq_decide.mpr (by omega)
end
end QM
namespace QM
open PySem PySem.Spec L2 QL QP
local macro_rules | `(tactic| decreasing_trivial_pre_omega) => `(tactic| first
  | apply QM.Step.go
  | refine ⟨rfl, ?_⟩
  | refine ⟨⟨rfl, rfl⟩, ?_⟩
  | refine ⟨_, rfl, ?_⟩
  | refine ⟨_, _, rfl, ?_⟩
  | refine ⟨_, _, _, rfl, ?_⟩
  | refine ⟨Nat.le_of_ble_eq_true rfl, ?_⟩
  | refine wAt_r rfl ?_
  | refine wB_t rfl ?_
  | refine wB_f rfl ?_)
end QM
namespace QM
open PySem PySem.Spec L2 QL QP
local macro_rules | `(tactic| decreasing_trivial_pre_omega) => `(tactic| first
  | apply QM.Step.go
  | refine ⟨rfl, ?_⟩
  | refine ⟨⟨rfl, rfl⟩, ?_⟩
  | refine ⟨_, rfl, ?_⟩
  | refine ⟨_, _, rfl, ?_⟩
  | refine ⟨_, _, _, rfl, ?_⟩
  | refine ⟨Nat.le_of_ble_eq_true rfl, ?_⟩
  | refine wAt_r rfl ?_
  | refine wB_t rfl ?_
  | refine wB_f rfl ?_)
instance {n : Nat} {r : S} {Q : S → Prop} {Gs : List D → S → Option S} {ds : List D} : Step (wG (gLstF n Gs (.list ds) r) Q) (ds.length = n ∧ wG (Gs ds r) Q) := ⟨fun ⟨h, r1, e1, q⟩ => ⟨r1, by
  unfold gLstF
  dsimp only
  rw [if_pos h]
  exact e1, q⟩⟩
section
variable {l : List Nat} {most m : Nat} {x4 x6 : Option SV} {t : Int × Int}
theorem dm_max {R : List (List Nat)} (hR : R.length = m) (h : RowsOk l.length m R) (hm : m ≤ 1000) (hl : l.length ≤ 100) : Hid (wS (sAsg 4 (fLc [6, 8] (fEnum (aCons (fV 4) (aNil))) (gTupF 2 (gConsF (gNm 6) (gConsF (gNm 8) (gNilF)))) (tYesF) (_law_drawn_machine_e4)) (Sm l most m (some (.ol (rowsD R))) none none t)) (Pn fun r => ∃ R', R'.length = m ∧ RowsOk l.length m R' ∧ r = Sm l most m (some (.ol (rowsD R'))) none none t)) := by
  refine ⟨?_⟩
  repeat' decreasing_trivial_pre_omega
  refine ⟨_, _, rfl, .inl rfl, ?_⟩
  refine wLc_inv (fun j acc r => r = Sm l most m (some (.fz (.list (rowsD R)))) none none t ∧ ∃ R', acc = rowsD R' ∧ R'.length = j ∧ RowsOk l.length m R') ?_ ?_ ?_
  · exact ⟨rfl, [], rfl, rfl, fun _ h => (nomatch h), fun _ h => (nomatch h)⟩
  · rintro j d acc r hd ⟨rfl, R', rfl, hj, hR'⟩
    obtain ⟨d', hd', rfl⟩ := enumL_get hd
    rw [List.getElem?_map] at hd'
    obtain ⟨row, hr, rfl⟩ := Option.map_eq_some_iff.mp hd'
    have hmem := List.mem_of_getElem? hr
    have hjm := (List.getElem?_eq_some_iff.mp hr).1
    have hlen := h.len row hmem
    unfold _law_drawn_machine_e4
    repeat' decreasing_trivial_pre_omega
    refine lc_map (mxF j) (szb' (by rw [List.length_map]; omega)) (fun d hd => ?_) ?_
    · obtain ⟨p, hp, rfl⟩ := List.mem_map.mp hd
      unfold _law_drawn_machine_e3
      repeat' decreasing_trivial_pre_omega
      rfl
    · rw [mxF_all]
      repeat' decreasing_trivial_pre_omega
      refine ⟨szl' (by rw [List.length_map]; omega), rfl, R' ++ [row.map fun p => max j p], by simp [rowsD], by simp [hj], fun x hx => ?_, fun x hx => ?_⟩
      · rcases List.mem_append.mp hx with z | z
        · exact hR'.len x z
        · rw [List.mem_singleton.mp z, List.length_map]; exact hlen
      · rcases List.mem_append.mp hx with z | z
        · exact hR'.lt x z
        · rw [List.mem_singleton.mp z]
          intro q hq
          obtain ⟨p, hp, rfl⟩ := List.mem_map.mp hq
          have := h.lt row hmem p hp
          omega
  · rintro acc r ⟨rfl, R', rfl, hj, hR'⟩
    repeat' decreasing_trivial_pre_omega
    exact ⟨R', by rw [hj, enumL_len, List.length_map, hR], hR', rfl⟩
end
end QM
namespace QM
open PySem PySem.Spec L2 QL
def sp (c : Nat) : List Nat → List (List Nat)
  | [] => [[]]
  | x :: r => if x = c then [] :: sp c r else match sp c r with
    | [] => [[x]]
    | w :: W => (x :: w) :: W
def jn (c : Nat) : List (List Nat) → List Nat
  | [] => []
  | [w] => w
  | w :: W => w ++ [c] ++ jn c W
theorem sp_free {c : Nat} : ∀ {w : List Nat}, c ∉ w → ∀ r v V, sp c r = v :: V → sp c (w ++ r) = (w ++ v) :: V
  | [], _, r, v, V, e => e
  | x :: w, h, r, v, V, e => by
    have hx : x ≠ c := fun z => h (by rw [z]; exact List.mem_cons_self ..)
    have ih := sp_free (w := w) (fun z => h (List.mem_cons_of_mem _ z)) r v V e
    rw [List.cons_append, sp, if_neg hx, ih]; rfl
theorem sp_jn {c : Nat} : ∀ {W : List (List Nat)}, W ≠ [] → (∀ w ∈ W, c ∉ w) → sp c (jn c W) = W
  | [], h, _ => absurd rfl h
  | [w], _, h => by
    have := sp_free (h w (by simp)) [] [] [] rfl
    rw [List.append_nil] at this
    exact this
  | w :: w2 :: W, _, h => by
    have ih := sp_jn (W := w2 :: W) (by simp) fun x hx => h x (List.mem_cons_of_mem _ hx)
    show sp c (w ++ [c] ++ jn c (w2 :: W)) = _
    rw [List.append_assoc]
    have := sp_free (h w (List.mem_cons_self ..)) ([c] ++ jn c (w2 :: W)) [] (w2 :: W) (by
      rw [List.singleton_append, sp, if_pos rfl, ih])
    rw [this, List.append_nil]
theorem jn_join (c : Nat) : ∀ W : List Str, Str.join (tx [c]) W = tx (jn c (W.map fun w => w.cps.toList))
  | [] => rfl
  | [w] => by
    show w = tx w.cps.toList
    rw [← Str.tx w]
  | w :: w2 :: W => by
    show w ++ tx [c] ++ Str.join (tx [c]) (w2 :: W) = tx (w.cps.toList ++ [c] ++ jn c ((w2 :: W).map fun w => w.cps.toList))
    rw [jn_join c (w2 :: W)]
    conv => lhs; rw [Str.tx w]
    rw [tx_add, tx_add]
theorem split_ne (x y : Str) : Txt.split x y ≠ [] := by
  unfold Txt.split
  split
  · simp
  · split
    · simp
    · unfold Builtin.Str.partsBetween
      intro h
      have := congrArg List.length h
      simp at this
theorem split_sp (l : List Nat) (c : Nat) : Txt.split (tx l) (tx [c]) = (sp c l).map tx := by
  have h1 := StrLaws.join_split (tx l) (tx [c])
  have h2 := StrLaws.split_free (tx l) c
  have h3 := split_ne (tx l) (tx [c])
  rw [show (⟨#[c]⟩ : Str) = tx [c] from rfl] at h2
  generalize Txt.split (tx l) (tx [c]) = P at h1 h2 h3 ⊢
  rw [jn_join] at h1
  have h1 := tx_inj.mp h1
  have h4 := sp_jn (c := c) (W := P.map fun w => w.cps.toList) (by simpa using h3) (fun w hw => by
    obtain ⟨z, hz, rfl⟩ := List.mem_map.mp hw
    exact h2 z hz)
  rw [h1] at h4
  rw [h4, List.map_map]
  have : P.map (tx ∘ fun w => w.cps.toList) = P.map id := List.map_congr_left fun w _ => (Str.tx w).symm
  rw [this, List.map_id]
theorem join_jn {c : Nat} {W : List (List Nat)} : Txt.join (tx [c]) (W.map tx) = tx (jn c W) := by
  show Builtin.Str.glued (tx [c]) _ = _
  rw [StrLaws.glued_eq_join, jn_join, List.map_map]
  have : W.map ((fun w : Str => w.cps.toList) ∘ tx) = W.map id := List.map_congr_left fun w _ => tx_cps w
  rw [this, List.map_id]
end QM
namespace QM
open PySem PySem.Spec L2 QL QP
local macro_rules | `(tactic| decreasing_trivial_pre_omega) => `(tactic| first
  | apply QM.Step.go
  | refine ⟨rfl, ?_⟩
  | refine ⟨⟨rfl, rfl⟩, ?_⟩
  | refine ⟨_, rfl, ?_⟩
  | refine ⟨_, _, rfl, ?_⟩
  | refine ⟨_, _, _, rfl, ?_⟩
  | refine ⟨Nat.le_of_ble_eq_true rfl, ?_⟩
  | refine wAt_r rfl ?_
  | refine wB_t rfl ?_
  | refine wB_f rfl ?_)
def Mc (l : List Nat) (R : List (List Nat)) (ns : List Nat) : D := obD "Machine" [(.str "signs", .str (tx l)), (.str "lines", .tuple (rowsD R)), (.str "ends", .tuple (natsD ns))]
section
variable {P : SV → S → Prop} {X : XPo} {r : S} {l : List Nat} {R : List (List Nat)} {ns : List Nat} {c : Str} {F : List D → FR} {fa : S → Res D} {Q : Prop} {l2 : List Nat} {R2 : List (List Nat)} {ns2 : List Nat}
theorem mc_f : fldsOf "Machine" (Mc l R ns) = some [(.str "signs", .str (tx l)), (.str "lines", .tuple (rowsD R)), (.str "ends", .tuple (natsD ns))] := by
  unfold Mc fldsOf
  simp
instance : Step (wO (dFld "Machine" "signs" (Mc l R ns)) r P) (P (.fz (.str (tx l))) r) := ⟨fun q => ⟨.fz (.str (tx l)), by
  unfold dFld
  rw [mc_f]
  dsimp only
  rw [lookF, if_pos rfl]
  rfl, q⟩⟩
instance : Step (wO (dFld "Machine" "lines" (Mc l R ns)) r P) (P (.fz (.tuple (rowsD R))) r) := ⟨fun q => ⟨.fz (.tuple (rowsD R)), by
  unfold dFld
  rw [mc_f]
  dsimp only
  rw [lookF, if_neg (by decide +kernel), lookF, if_pos rfl]
  rfl, q⟩⟩
instance : Step (wO (dFld "Machine" "ends" (Mc l R ns)) r P) (P (.fz (.tuple (natsD ns))) r) := ⟨fun q => ⟨.fz (.tuple (natsD ns)), by
  unfold dFld
  rw [mc_f]
  dsimp only
  rw [lookF, if_neg (by decide +kernel), lookF, if_neg (by decide +kernel), lookF, if_pos rfl]
  rfl, q⟩⟩
instance : Step (wO (dIsA "Machine" (Mc l R ns)) r P) (P (.fz (.bool true)) r) := ⟨fun q => ⟨.fz (.bool true), by
  unfold dIsA qAny
  rw [mc_f]
  rfl, q⟩⟩
instance : Step (wOwO "Machine" (qOb "Machine") (Mc l R ns) (Mc l2 R2 ns2) Q) Q := ⟨fun q => ⟨by rw [mc_f]; rfl, by unfold qOb; rw [mc_f]; rfl, q⟩⟩
instance : Step (wE (fProp c F fa r) P X) (wE (fa r) (fun d r => (fldsOf c d).isSome = true ∧ wF (F [d]) (fun v => P v r) (fun _ _ => False)) X) := ⟨fun h => by
  unfold fProp
  refine wE_bind (wE_mono h fun d r h => ?_)
  rw [h.1]
  have h := h.2
  show wE (outP (F [d]) r) P X
  unfold outP
  cases e : F [d] with
  | ok v t =>
    rw [e] at h
    have h : v.out = true ∧ P v r := h
    dsimp only
    rw [if_pos h.1]
    exact h.2
  | exc c f t => rw [e] at h; exact h.elim
  | bad => rw [e] at h; exact h.elim⟩
theorem letters_R : Ret (F_Machine_letters [Mc l R ns]) (.fz (.str (tx l))) := by
  unfold F_Machine_letters B_Machine_letters
  refine Ret.go ?_
  repeat' decreasing_trivial_pre_omega
  all_goals rfl
theorem rows_R : Ret (F_Machine_rows [Mc l R ns]) (.ol (rowsD R)) := by
  unfold F_Machine_rows B_Machine_rows
  refine Ret.go ?_
  repeat' decreasing_trivial_pre_omega
  all_goals rfl
theorem lets_R : Ret (F_Machine_lets [Mc l R ns]) (.ol (natsD ns)) := by
  unfold F_Machine_lets B_Machine_lets
  refine Ret.go ?_
  repeat' decreasing_trivial_pre_omega
  all_goals rfl
theorem natsD_eqv (ns : List Nat) : ∀ d ∈ natsD ns, PyData.eqv d d = true := fun d hd => by
  obtain ⟨n, _, rfl⟩ := List.mem_map.mp hd
  rw [eqv_natsD]; simp
theorem eqv_allR : ∀ {ds : List D}, (∀ d ∈ ds, PyData.eqv d d = true) → PyData.eqvAll ds ds = true
  | [], _ => rfl
  | d :: ds, h => by
    simp only [PyData.eqvAll, h d (List.mem_cons_self ..), eqv_allR fun e he => h e (List.mem_cons_of_mem _ he), Bool.and_self]
theorem eqv_tupR {ds : List D} (h : ∀ d ∈ ds, PyData.eqv d d = true) : PyData.eqv (.tuple ds) (.tuple ds) = true := by
  simp only [PyData.eqv]; exact eqv_allR h
theorem rowsD_eqv (R : List (List Nat)) : ∀ d ∈ rowsD R, PyData.eqv d d = true := fun d hd => by
  obtain ⟨row, _, rfl⟩ := List.mem_map.mp hd
  exact eqv_tupR (natsD_eqv row)
theorem okN_row (row : List Nat) : okN 1 (.tuple (natsD row)) := okN_tup (n := 0) fun d hd => by
  obtain ⟨n, _, rfl⟩ := List.mem_map.mp hd
  exact okN_int
theorem okN_rowsT (R : List (List Nat)) : okN 2 (.tuple (rowsD R)) := okN_tup (n := 1) fun d hd => by
  obtain ⟨row, _, rfl⟩ := List.mem_map.mp hd
  exact okN_row row
theorem okN_rowsL (R : List (List Nat)) : okN 2 (.list (rowsD R)) := okN_list (n := 1) fun d hd => by
  obtain ⟨row, _, rfl⟩ := List.mem_map.mp hd
  exact okN_row row
theorem mc_eq_R : Ret (F_Machine_eq [Mc l R ns, Mc l R ns]) (.fz (.bool true)) := by
  unfold F_Machine_eq B_Machine_eq
  refine Ret.go ?_
  repeat' decreasing_trivial_pre_omega
  refine wB_t (decide_eq_true rfl) ?_
  repeat' decreasing_trivial_pre_omega
  refine ⟨⟨(okN_rowsT R).ok, (okN_rowsT R).ok⟩, ?_⟩
  repeat' decreasing_trivial_pre_omega
  refine wB_t (eqv_tupR (rowsD_eqv R)) ?_
  repeat' decreasing_trivial_pre_omega
  refine ⟨⟨(okN_row ns).ok, (okN_row ns).ok⟩, ?_⟩
  rw [eqv_tupR (natsD_eqv ns)]
  repeat' decreasing_trivial_pre_omega
  all_goals rfl
theorem lt8 {n : Nat} (h : n < 64) : Lt 0 8 (.int (n : Nat)) := by
  have key : ∀ n < 64, (PyData.int ((n : Nat) : Int)).showable = true ∧ (PyData.int ((n : Nat) : Int)).depth ≤ 0 ∧ PyData.leavesShort 40 (PyData.int ((n : Nat) : Int)) = true ∧ (PyData.int ((n : Nat) : Int)).weight ≤ 8 := by decide +kernel
  exact key n h
theorem w_rows (hR : RowsOk l.length R.length R) (hl4 : l.length ≤ 5) (hr4 : R.length ≤ 40) : (PyData.list (rowsD R)).weight ≤ 5000 := by
  have := lt_list (n := 1) (m := 60) (k := 40) (ds := rowsD R) (fun d hd => by
    obtain ⟨row, hrow, rfl⟩ := List.mem_map.mp hd
    exact (lt_tup (n := 0) (m := 8) (k := 5) (fun e he => by
      obtain ⟨n, hn, rfl⟩ := List.mem_map.mp he
      have := hR.lt row hrow n hn
      exact lt8 (by omega)) (by rw [List.length_map, hR.len row hrow]; exact hl4)).up (by decide) (by decide)) (by rw [List.length_map]; exact hr4)
  exact Nat.le_trans this.2.2.2 (by decide)
theorem w_lets (hn : ∀ n ∈ ns, n < 40) (hl : ns.length ≤ 40) : (PyData.list (natsD ns)).weight ≤ 3000 := by
  have := lt_list (n := 0) (m := 8) (k := 40) (ds := natsD ns) (fun d hd => by
    obtain ⟨n, h, rfl⟩ := List.mem_map.mp hd
    have := hn n h
    exact lt8 (by omega)) (by rw [List.length_map]; exact hl)
  exact Nat.le_trans this.2.2.2 (by decide)
theorem natOf_natsD (ns : List Nat) : (natsD ns).map natOf = ns := by
  rw [List.map_map]
  have : ns.map (natOf ∘ fun n : Nat => PyData.int (n : Nat)) = ns.map id := List.map_congr_left fun n _ => rfl
  rw [this, List.map_id]
theorem all_plB {m : Nat} (h : ∀ n ∈ ns, n < m) : (natsD ns).all (plB m) = true := List.all_eq_true.mpr fun d hd => by
  obtain ⟨n, hn, rfl⟩ := List.mem_map.mp hd
  have := h n hn
  show (decide (0 ≤ ((n : Nat) : Int)) && decide (((n : Nat) : Int) < (m : Int))) = true
  rw [decide_eq_true (by omega), decide_eq_true (by omega)]; rfl
theorem mach2_R (hl : l.length ≤ 5) (h0 : Tx l) (h1 : asc l = true) (h2 : l ≠ []) (hR : RowsOk l.length R.length R) (hr : 1 ≤ R.length) (hr4 : R.length ≤ 40) (hn : ns.Pairwise (· ≤ ·)) (hnd : ns.Nodup) (hnl : ns.length ≤ 40) (hn2 : ∀ n ∈ ns, n < R.length) : Ret (mkO F_Machine_init_v2 [.str (tx l), .list (rowsD R), .list (natsD ns)]) (.fz (Mc l R ns)) := by
  have k1 : Ret (F_must_be_letters [.str (tx l)]) (.fz .none) := by
    refine Ret.go ?_
    unfold B_must_be_letters
    repeat' decreasing_trivial_pre_omega
    refine wF_ret (goodL_tx (l := l) (by omega) h0 h2 h1) ?_
    repeat' decreasing_trivial_pre_omega
    rfl
  have hl2 : (rowsD R).length = R.length := List.length_map ..
  have k2 := are_rows_R (l := l) (d := .list (rowsD R)) (by omega) (w_rows hR hl hr4)
  have e2 : rowsB l.length (.list (rowsD R)) = true := by
    show (!(rowsD R).isEmpty && ((rowsD R).all (shB l.length) && (rowsD R).all (inB (rowsD R).length))) = true
    rw [hl2]
    have a1 : (rowsD R).isEmpty = false := by cases R with | nil => simp at hr | cons => rfl
    have a2 : (rowsD R).all (shB l.length) = true := List.all_eq_true.mpr fun d hd => by
      obtain ⟨row, hrow, rfl⟩ := List.mem_map.mp hd
      exact decide_eq_true (by rw [List.length_map]; exact hR.len row hrow)
    have a3 : (rowsD R).all (inB R.length) = true := List.all_eq_true.mpr fun d hd => by
      obtain ⟨row, hrow, rfl⟩ := List.mem_map.mp hd
      exact all_plB (hR.lt row hrow)
    rw [a1, a2, a3]; rfl
  rw [e2] at k2
  have k3 := are_lets_R (m := R.length) (d := .list (natsD ns)) (w_lets (fun n h => by have := hn2 n h; omega) hnl)
  have e3 : letsB R.length (.list (natsD ns)) = true := by
    show ((natsD ns).all (plB R.length) && decide (((natsD ns).map natOf).Nodup)) = true
    rw [all_plB hn2, natOf_natsD, decide_eq_true hnd]; rfl
  rw [e3] at k3
  unfold F_Machine_init_v2 Mc
  refine mkO_R ?_
  unfold B_Machine_init_v2
  generalize F_must_be_letters = F at k1 ⊢
  generalize F_are_rows = G at k2 ⊢
  generalize F_are_lets = G2 at k3 ⊢
  simp only [mkS, List.map_cons, List.map_nil, List.length_cons, List.length_nil, List.replicate, Nat.reduceAdd, Nat.reduceSub, List.cons_append, List.nil_append]
  repeat' decreasing_trivial_pre_omega
  refine wF_ret k1 ?_
  repeat' decreasing_trivial_pre_omega
  refine wF_ret k2 ?_
  repeat' decreasing_trivial_pre_omega
  rw [hl2]
  refine wF_ret k3 ?_
  repeat' decreasing_trivial_pre_omega
  refine wSrM_i fun ms hp hs => ?_
  obtain rfl : ms = ns := pw_eq hp hs hn
  repeat' decreasing_trivial_pre_omega
  all_goals rfl
end
end QM
namespace QM
open PySem PySem.Spec L2 QL QP
local macro_rules | `(tactic| decreasing_trivial_pre_omega) => `(tactic| first
  | apply QM.Step.go
  | refine ⟨rfl, ?_⟩
  | refine ⟨⟨rfl, rfl⟩, ?_⟩
  | refine ⟨_, rfl, ?_⟩
  | refine ⟨_, _, rfl, ?_⟩
  | refine ⟨_, _, _, rfl, ?_⟩
  | refine ⟨Nat.le_of_ble_eq_true rfl, ?_⟩
  | refine wAt_r rfl ?_
  | refine wB_t rfl ?_
  | refine wB_f rfl ?_)
instance : OfS "letters " [108, 101, 116, 116, 101, 114, 115, 32] := ⟨by decide +kernel⟩
instance ofS_sp57 : OfS " " [32] := ⟨by decide +kernel⟩
instance ofS_nl57 : OfS "\n" [10] := ⟨by decide +kernel⟩
instance : OfS " lets" [32, 108, 101, 116, 115] := ⟨by decide +kernel⟩
instance : OfS "0123456789" [48, 49, 50, 51, 52, 53, 54, 55, 56, 57] := ⟨by decide +kernel⟩
def sN (n : Nat) : List Nat := if n < 10 then [48 + n] else [48 + n / 10, 48 + n % 10]
def vN (l : List Nat) : Nat := match l with | [a] => a - 48 | [a, b] => (a - 48) * 10 + (b - 48) | _ => 0
theorem strI_sN {n : Nat} (h : n < 64) : dStrI [.int (n : Nat)] = some (.fz (.str (tx (sN n)))) := by
  have key : ∀ n < 64, (match dStrI [.int ((n : Nat) : Int)] with | some (.fz (.str s)) => decide (s.cps.toList = sN n) | _ => false) = true := by decide +kernel
  have k := key n h
  generalize dStrI [.int ((n : Nat) : Int)] = z at k ⊢
  match z, k with
  | some (.fz (.str s)), k => rw [Str.tx s, of_decide_eq_true k]
theorem intS_sN {n : Nat} (h : n < 64) : dIntS [.str (tx (sN n))] = some (.fz (.int (n : Nat))) := by
  have key : ∀ n < 64, (match dIntS [.str (tx (sN n))] with | some (.fz (.int i)) => decide (i = (n : Nat)) | _ => false) = true := by decide +kernel
  have k := key n h
  generalize dIntS [.str (tx (sN n))] = z at k ⊢
  match z, k with
  | some (.fz (.int s)), k => rw [of_decide_eq_true k]
theorem sN_all {n : Nat} (h : n < 64) : vN (sN n) = n ∧ sN n ≠ [] ∧ (∀ c ∈ sN n, 48 ≤ c ∧ c ≤ 57) ∧ (sN n).length ≤ 2 ∧ (n = 0 ∨ ∃ c r, sN n = c :: r ∧ c ≠ 48) := by
  have key : ∀ n < 64, vN (sN n) = n ∧ sN n ≠ [] ∧ (∀ c ∈ sN n, 48 ≤ c ∧ c ≤ 57) ∧ (sN n).length ≤ 2 ∧ (n = 0 ∨ (sN n).headD 48 ≠ 48) := by decide +kernel
  obtain ⟨a, b, c, d, e⟩ := key n h
  refine ⟨a, b, c, d, e.imp id fun e => ?_⟩
  cases z : sN n with
  | nil => exact absurd z b
  | cons x r => exact ⟨x, r, rfl, by rw [z] at e; exact e⟩
instance {n : Nat} {r : S} {P : SV → S → Prop} : Step (wO (dStrI [.int (n : Nat)]) r P) (n < 64 ∧ P (.fz (.str (tx (sN n)))) r) := ⟨fun q => wO_of (strI_sN q.1) q.2⟩
instance {n : Nat} {r : S} {P : SV → S → Prop} : Step (wO (dIntS [.str (tx (sN n))]) r P) (n < 64 ∧ P (.fz (.int (n : Nat))) r) := ⟨fun q => wO_of (intS_sN q.1) q.2⟩
theorem number_R {n : Nat} (h : n < 64) : Ret (F_number_of_v3 [.str (tx (sN n))]) (.fz (.int (n : Nat))) := by
  obtain ⟨a, b, c, d, e⟩ := sN_all h
  refine Ret.go ?_
  unfold B_number_of_v3
  repeat' decreasing_trivial_pre_omega
  refine wB_f (decide_eq_false b) ?_
  repeat' decreasing_trivial_pre_omega
  refine lc_map (fun _ => none) (szb' (by rw [ltrs_len]; omega)) (fun x hx => ?_) ?_
  · obtain ⟨k, hk, rfl⟩ := mem_lets hx
    have := c k hk
    unfold number_of_v3_t1 number_of_v3_e2
    repeat' decreasing_trivial_pre_omega
    have key : ∀ k < 58, 48 ≤ k → strIn (tx [k]) (tx [48, 49, 50, 51, 52, 53, 54, 55, 56, 57]) = true := by decide +kernel
    refine wB_t (key k (by omega) this.1) ?_
    repeat' decreasing_trivial_pre_omega
    all_goals rfl
  · rw [show (ltrs (sN n)).filterMap (fun _ => (none : Option D)) = [] by simp]
    repeat' decreasing_trivial_pre_omega
    rcases e with rfl | ⟨x, r, ex, hx⟩
    · repeat' decreasing_trivial_pre_omega
      all_goals rfl
    · refine wB_f (decide_eq_false fun z => hx (by rw [ex] at z; exact (List.cons.inj z).1)) ?_
      repeat' decreasing_trivial_pre_omega
      refine ⟨szb' (by omega), ?_⟩
      refine wAt_r (show atI (sN n) ((0 : Nat) : Int) = some x by rw [ex, atI_lt (by simp)]; rfl) ?_
      repeat' decreasing_trivial_pre_omega
      refine wB_f (decide_eq_false (by simpa using hx)) ?_
      repeat' decreasing_trivial_pre_omega
      exact ⟨h, rfl, rfl⟩
def rt (row : List Nat) : List Nat := jn 32 (row.map sN)
def tl (b : Bool) : List Nat := if b then [32, 108, 101, 116, 115] else []
theorem jn_len {c : Nat} : ∀ {W : List (List Nat)}, (∀ w ∈ W, w.length ≤ 2) → (jn c W).length ≤ 3 * W.length
  | [], _ => by simp [jn]
  | [w], h => by have := h w (by simp); simp only [jn, List.length_cons, List.length_nil]; omega
  | w :: w2 :: W, h => by
    have a := h w (List.mem_cons_self ..)
    have b := jn_len (c := c) (W := w2 :: W) fun x hx => h x (List.mem_cons_of_mem _ hx)
    show (w ++ [c] ++ jn c (w2 :: W)).length ≤ _
    simp only [List.length_append, List.length_cons, List.length_nil] at b ⊢
    omega
theorem rt_len {row : List Nat} (h : ∀ n ∈ row, n < 64) : (rt row).length ≤ 3 * row.length := by
  have := jn_len (c := 32) (W := row.map sN) fun w hw => by
    obtain ⟨n, hn, rfl⟩ := List.mem_map.mp hw
    exact (sN_all (h n hn)).2.2.2.1
  rwa [List.length_map] at this
theorem jn_mem {c x : Nat} : ∀ {W : List (List Nat)}, x ∈ jn c W → x = c ∨ ∃ w ∈ W, x ∈ w
  | [], h => by simp [jn] at h
  | [w], h => .inr ⟨w, by simp, h⟩
  | w :: w2 :: W, h => by
    have h : x ∈ w ++ [c] ++ jn c (w2 :: W) := h
    rcases List.mem_append.mp h with h | h
    · rcases List.mem_append.mp h with h | h
      · exact .inr ⟨w, by simp, h⟩
      · exact .inl (List.mem_singleton.mp h)
    · rcases jn_mem h with h | ⟨v, hv, h⟩
      · exact .inl h
      · exact .inr ⟨v, List.mem_cons_of_mem _ hv, h⟩
theorem rt_chars {row : List Nat} (h : ∀ n ∈ row, n < 64) : ∀ c ∈ rt row, c = 32 ∨ (48 ≤ c ∧ c ≤ 57) := fun c hc => by
  rcases jn_mem hc with h1 | ⟨w, hw, h1⟩
  · exact .inl h1
  · obtain ⟨n, hn, rfl⟩ := List.mem_map.mp hw
    exact .inr ((sN_all (h n hn)).2.2.1 c h1)
theorem ends_tl {row : List Nat} (h : ∀ n ∈ row, n < 64) (b : Bool) : sufN (rt row ++ tl b) [32, 108, 101, 116, 115] = b := by
  cases b with
  | true =>
    refine decide_eq_true ⟨by simp [tl], ?_⟩
    show List.drop ((rt row ++ [32, 108, 101, 116, 115]).length - 5) (rt row ++ [32, 108, 101, 116, 115]) = _
    rw [List.length_append]
    exact List.drop_left' (by simp)
  | false =>
    refine decide_eq_false fun ⟨h1, h2⟩ => ?_
    have e : rt row ++ tl false = rt row := List.append_nil _
    rw [e] at h2
    have : 108 ∈ rt row := List.mem_of_mem_drop (i := (rt row).length - 5) (by rw [show ([32, 108, 101, 116, 115] : List Nat).length = 5 from rfl] at h2; rw [h2]; decide)
    have := rt_chars h _ this
    omega
theorem cut_m5 {A B : List Nat} (hB : B.length = 5) : cutL (A ++ B) none (some (-5)) = A := by
  have e : cutL (A ++ B) none (some (-5)) = cutL (A ++ B) none (some ((A.length : Nat) : Int)) := by
    unfold cutL
    have : HT.sIx (A ++ B).length (A ++ B).length (some (-5)) = HT.sIx (A ++ B).length (A ++ B).length (some ((A.length : Nat) : Int)) := by
      rw [HT.sIx_nat]
      unfold HT.sIx
      show (if (-5 : Int) < 0 then _ else _ : Nat) = _
      rw [if_pos (by decide : (-5 : Int) < 0)]
      rw [List.length_append, hB, Nat.min_def, if_pos (by omega)]
      omega
    rw [this]
  rw [e, cut_up, List.take_left' rfl]
def numF : D → Option D
  | .str s => some (.int (vN s.cps.toList : Nat))
  | _ => none
theorem numF_all {row : List Nat} (h : ∀ n ∈ row, n < 64) : ((row.map sN).map fun w => PyData.str (tx w)).filterMap numF = natsD row := by
  induction row with
  | nil => rfl
  | cons n row ih =>
    have e : numF (.str (tx (sN n))) = some (.int (n : Nat)) := by
      show some (PyData.int ((vN (tx (sN n)).cps.toList : Nat) : Int)) = _
      rw [tx_cps, (sN_all (h n (List.mem_cons_self ..))).1]
    rw [List.map_cons, List.map_cons, List.filterMap_cons, e]
    dsimp only
    rw [ih fun x hx => h x (List.mem_cons_of_mem _ hx)]; rfl
instance {l : List Nat} {c : Nat} {r : S} {P : SV → S → Prop} : Step (wO (dSplit (.str (tx l)) [.str (tx [c])]) r P) (l.length + 2 ≤ sizeLine ∧ P (.ol ((sp c l).map fun w => .str (tx w))) r) := ⟨fun q => wO_of (z' := .nl ((sp c l).map fun w => .str (tx w))) (by
  unfold dSplit
  dsimp only
  rw [if_pos ⟨rfl, by rw [QL.tx_len]; exact q.1⟩, split_sp, List.map_map]
  rfl) q.2⟩
instance {a b : List Nat} {r : S} {P : SV → S → Prop} : Step (wO (dEnds (.str (tx a)) [.str (tx b)]) r P) (P (.fz (.bool (sufN a b))) r) := ⟨fun q => wO_of (z' := .fz (.bool (sufN a b))) (by unfold dEnds; dsimp only; rw [tx_cps, tx_cps]) q⟩
theorem row_of_R {row : List Nat} (h : ∀ n ∈ row, n < 64) (h0 : row ≠ []) (hl : row.length ≤ 100) (b : Bool) : Ret (F_row_of [.str (tx (rt row ++ tl b)), .int ((row.length : Nat) : Int)]) (.fz (.tuple [.tuple (natsD row), .bool b])) := by
  have e1 := ends_tl h b
  have hlen := rt_len h
  have e2 : sp 32 (rt row) = row.map sN := sp_jn (by simpa using h0) fun w hw => by
    obtain ⟨n, hn, rfl⟩ := List.mem_map.mp hw
    intro z
    have := (sN_all (h n hn)).2.2.1 32 z
    omega
  have e3 : sN 0 = [48] := rfl
  refine Ret.go ?_
  unfold B_row_of
  generalize hF : F_number_of_v3 = F
  repeat' decreasing_trivial_pre_omega
  rw [e1]
  have fin : ∀ (z : List Nat) (b : Bool), wS (sSeq (sAsg 4 (fCB dTupA (aCons (fD (fLc [5] (fItems (fV 3)) (gNm 5) tYesF row_of_e1)) aNil))) (sRet (eIfF (tAndF (tV (fD (fOp dEq (fD (fCB dLen (aCons (gV 4) (aNil)))) (gV 1)))) (tV (fD (fOp dNotIn (fC .none) (gV 4))))) (eTup (aCons (fV 4) (aCons (fV 2) (aNil)))) (eD (fC .none)))) ⟨[some (.fz (.str (tx z))), some (.fz (.int ((row.length : Nat) : Int))), some (.fz (.bool b)), some (.ol ((row.map sN).map fun w => .str (tx w))), none, none], none⟩) ⟨fun x => SV.fz .none = SV.fz (.tuple [.tuple (natsD row), .bool b]), fun x _ => x.out = true ∧ x = SV.fz (.tuple [.tuple (natsD row), .bool b]), fun _ => False, fun _ => False, fun _ _ _ => False⟩ := fun z b => by
    have hln : (natsD row).length = row.length := List.length_map ..
    unfold row_of_e1
    subst hF
    repeat' decreasing_trivial_pre_omega
    refine lc_map numF (szb' (by rw [List.length_map, List.length_map]; omega)) (fun d hd => ?_) ?_
    · obtain ⟨w, hw, rfl⟩ := List.mem_map.mp hd
      obtain ⟨n, hn, rfl⟩ := List.mem_map.mp hw
      have hn := h n hn
      repeat' decreasing_trivial_pre_omega
      refine wF_ret (number_R hn) ?_
      repeat' decreasing_trivial_pre_omega
      refine ⟨?_, rfl⟩
      show some (PyData.int ((vN (tx (sN n)).cps.toList : Nat) : Int)) = _
      rw [tx_cps, (sN_all hn).1]
    · rw [numF_all h]
      repeat' decreasing_trivial_pre_omega
      refine wB_t (decide_eq_true (by rw [hln])) ?_
      repeat' decreasing_trivial_pre_omega
      refine ⟨⟨rfl, (okN_row row).ok⟩, ?_⟩
      have en : ((natsD row).any fun y => PyData.eqv y PyData.none) = false := List.any_eq_false.mpr fun d hd => by
        obtain ⟨n, _, rfl⟩ := List.mem_map.mp hd
        show ¬ PyData.eqv (.int ((n : Nat) : Int)) .none = true
        exact Bool.false_ne_true
      rw [en]
      repeat' decreasing_trivial_pre_omega
      all_goals rfl
  generalize sSeq (sAsg 4 (fCB dTupA (aCons (fD (fLc [5] (fItems (fV 3)) (gNm 5) tYesF row_of_e1)) aNil))) (sRet (eIfF (tAndF (tV (fD (fOp dEq (fD (fCB dLen (aCons (gV 4) (aNil)))) (gV 1)))) (tV (fD (fOp dNotIn (fC .none) (gV 4))))) (eTup (aCons (fV 4) (aCons (fV 2) (aNil)))) (eD (fC .none)))) = T at fin ⊢
  cases b with
  | true =>
    have e4 : cutL (rt row ++ tl true) none (some (-5)) = rt row := cut_m5 rfl
    repeat' decreasing_trivial_pre_omega
    refine ⟨szb' (by rw [List.length_append]; simp [tl]; omega), ?_⟩
    rw [show (-(([32, 108, 101, 116, 115] : List Nat).length : Int)) = -5 from rfl, e4]
    repeat' decreasing_trivial_pre_omega
    refine ⟨szb' (by omega), ?_⟩
    rw [e2]
    repeat' decreasing_trivial_pre_omega
    exact fin _ _
  | false =>
    rw [show rt row ++ tl false = rt row from List.append_nil _]
    repeat' decreasing_trivial_pre_omega
    refine ⟨szb' (by omega), ?_⟩
    rw [e2]
    repeat' decreasing_trivial_pre_omega
    exact fin _ _
end QM
namespace QM
open PySem PySem.Spec L2 QL QP
local macro_rules | `(tactic| decreasing_trivial_pre_omega) => `(tactic| first
  | apply QM.Step.go
  | refine ⟨rfl, ?_⟩
  | refine ⟨⟨rfl, rfl⟩, ?_⟩
  | refine ⟨_, rfl, ?_⟩
  | refine ⟨_, _, rfl, ?_⟩
  | refine ⟨_, _, _, rfl, ?_⟩
  | refine ⟨Nat.le_of_ble_eq_true rfl, ?_⟩
  | refine wAt_r rfl ?_
  | refine wB_t rfl ?_
  | refine wB_f rfl ?_)
def ln (R : List (List Nat)) (ns : List Nat) (j : Nat) : List Nat := rt (R.getD j []) ++ tl (decide (j ∈ ns))
def lns (R : List (List Nat)) (ns : List Nat) (m : Nat) : List (List Nat) := (List.range m).map (ln R ns)
def hd57 (l : List Nat) : List Nat := [108, 101, 116, 116, 101, 114, 115, 32] ++ l
def pt (l : List Nat) (R : List (List Nat)) (ns : List Nat) : List Nat := jn 10 (hd57 l :: lns R ns R.length)
abbrev sD (W : List (List Nat)) : List D := W.map fun w => .str (tx w)
theorem strsD_tx : ∀ (W : List (List Nat)), strsD (sD W) = some (W.map tx)
  | [] => rfl
  | w :: W => by
    show (strsD (sD W)).map (tx w :: ·) = _
    rw [strsD_tx W]; rfl
theorem sum_le {k : Nat} : ∀ {W : List (List Nat)}, (∀ w ∈ W, w.length ≤ k) → ((W.map tx).map (·.length)).sum ≤ k * W.length
  | [], _ => by simp
  | w :: W, h => by
    have a := h w (List.mem_cons_self ..)
    have b := sum_le fun x hx => h x (List.mem_cons_of_mem w hx)
    simp only [List.map_cons, List.sum_cons, List.length_cons, QL.tx_len, Nat.mul_add]
    omega
def strF : D → Option D
  | .int i => some (.str (tx (sN i.toNat)))
  | _ => none
theorem strF_all (row : List Nat) : (natsD row).filterMap strF = sD (row.map sN) := by
  induction row with
  | nil => rfl
  | cons n row ih =>
    show (PyData.int ((n : Nat) : Int) :: natsD row).filterMap strF = _
    rw [List.filterMap_cons]
    show PyData.str (tx (sN ((n : Nat) : Int).toNat)) :: (natsD row).filterMap strF = _
    rw [ih, Int.toNat_natCast]; rfl
theorem lns_succ (R : List (List Nat)) (ns : List Nat) (j : Nat) : lns R ns (j + 1) = lns R ns j ++ [ln R ns j] := by
  unfold lns
  rw [List.range_succ, List.map_append]; rfl
structure Ok57 (l : List Nat) (R : List (List Nat)) (ns : List Nat) : Prop where
  l0 : l ≠ []
  l5 : l.length ≤ 5
  tx : Tx l
  asc : asc l = true
  rok : RowsOk l.length R.length R
  r1 : 1 ≤ R.length
  r40 : R.length ≤ 40
  nlt : ∀ n ∈ ns, n < R.length
  npw : ns.Pairwise (· ≤ ·)
  nnd : ns.Nodup
theorem nodup_le57 {ns : List Nat} {m : Nat} (h : ns.Nodup) (hl : ∀ n ∈ ns, n < m) : ns.length ≤ m := by
  have := List.Nodup.length_le_of_subset h (fun n hn => List.mem_range.mpr (hl n hn))
  simpa using this
section
variable {l : List Nat} {R : List (List Nat)} {ns : List Nat}
theorem in_nats (ns : List Nat) (j : Nat) : ((natsD ns).any fun y => PyData.eqv y (.int ((j : Nat) : Int))) = decide (j ∈ ns) := any_eqv (f := fun n : Nat => PyData.int (n : Nat)) eqv_natsD j ns
theorem okNats (ns : List Nat) : okD (.list (natsD ns)) = true := (okN_list (n := 0) fun d hd => by
  obtain ⟨n, _, rfl⟩ := List.mem_map.mp hd
  exact okN_int).ok
theorem plan_b {j : Nat} {row : List Nat} {W : List (List Nat)} (h : ∀ n ∈ row, n < 64) (hl : row.length ≤ 5) (hW : W.length ≤ 100) : wS (_law_plan_text_b2 ⟨[some (.fz (.list [.str (tx l), .list (rowsD R), .list (natsD ns)])), some (.ol (sD W)), some (.fz (.int (j : Nat))), some (.fz (.tuple (natsD row))), none], none⟩) (Pn fun r => r = ⟨[some (.fz (.list [.str (tx l), .list (rowsD R), .list (natsD ns)])), some (.ol (sD (W ++ [rt row ++ tl (decide (j ∈ ns))]))), some (.fz (.int (j : Nat))), some (.fz (.tuple (natsD row))), none], none⟩) := by
  unfold _law_plan_text_b2
  have hln : (natsD row).length = row.length := List.length_map ..
  have hWl : (sD W).length = W.length := List.length_map ..
  have hrt := rt_len h
  have hsum := sum_le (k := 2) (W := row.map sN) fun w hw => by
    obtain ⟨n, hn, rfl⟩ := List.mem_map.mp hw
    exact (sN_all (h n hn)).2.2.2.1
  rw [List.length_map] at hsum
  have hap : ∀ w, sD (W ++ [w]) = sD W ++ [.str (tx w)] := fun w => List.map_append ..
  rw [hap]
  repeat' decreasing_trivial_pre_omega
  refine lc_map strF (szb' (by omega)) (fun d hd => ?_) ?_
  · obtain ⟨n, hn, rfl⟩ := List.mem_map.mp hd
    unfold _law_plan_text_e1
    repeat' decreasing_trivial_pre_omega
    refine ⟨h n hn, ?_⟩
    repeat' decreasing_trivial_pre_omega
    rfl
  · rw [strF_all]
    repeat' decreasing_trivial_pre_omega
    refine ⟨_, strsD_tx _, ?_, ?_⟩
    · rw [List.length_map, List.length_map, QL.tx_len]
      simp only [List.length_cons, List.length_nil]
      omega
    rw [join_jn]
    repeat' decreasing_trivial_pre_omega
    refine ⟨⟨rfl, okNats ns⟩, ?_⟩
    rw [in_nats]
    by_cases hj : j ∈ ns
    · rw [decide_eq_true hj]
      repeat' decreasing_trivial_pre_omega
      refine ⟨szb' (by show (rt row).length + _ ≤ _; simp only [List.length_cons, List.length_nil]; omega), ?_⟩
      repeat' decreasing_trivial_pre_omega
      refine ⟨szl' (by omega), ?_⟩
      repeat' decreasing_trivial_pre_omega
      rfl
    · rw [decide_eq_false hj]
      repeat' decreasing_trivial_pre_omega
      refine ⟨szb' (by show (rt row).length + _ ≤ _; simp only [List.length_nil]; omega), ?_⟩
      repeat' decreasing_trivial_pre_omega
      refine ⟨szl' (by omega), ?_⟩
      repeat' decreasing_trivial_pre_omega
      rfl
theorem ln_len (h : Ok57 l R ns) {w : List Nat} (hw : w ∈ lns R ns R.length) : w.length ≤ 30 := by
  obtain ⟨j, hj, rfl⟩ := List.mem_map.mp hw
  have hj := List.mem_range.mp hj
  have hm : R.getD j [] ∈ R := by rw [List.getD_eq_getElem?_getD, List.getElem?_eq_getElem hj]; exact List.getElem_mem ..
  have h1 := rt_len (row := R.getD j []) fun n hn => by have := h.rok.lt _ hm n hn; have := h.r40; omega
  have h2 := h.rok.len _ hm
  have h3 := h.l5
  unfold ln
  rw [List.length_append]
  have : (tl (decide (j ∈ ns))).length ≤ 5 := by unfold tl; split <;> simp
  omega
theorem plan_R (h : Ok57 l R ns) : Ret (F__law_plan_text [.list [.str (tx l), .list (rowsD R), .list (natsD ns)]]) (.fz (.str (tx (pt l R ns)))) := by
  have hrl : (rowsD R).length = R.length := List.length_map ..
  have h40 := h.r40
  have hl5 := h.l5
  have key := fun (j : Nat) (row : List Nat) (W : List (List Nat)) (a : ∀ n ∈ row, n < 64) b c => @plan_b l R ns j row W a b c
  refine Ret.go ?_
  unfold B__law_plan_text
  generalize _law_plan_text_b2 = BB at key ⊢
  repeat' decreasing_trivial_pre_omega
  refine ⟨szb' (by simp only [List.length_cons, List.length_nil]; omega), ?_⟩
  repeat' decreasing_trivial_pre_omega
  refine ⟨_, _, rfl, .inl rfl, ?_⟩
  refine wFor_inv (fun j r => j ≤ R.length ∧ ∃ (x2 x3 : Option SV), r = ⟨[some (.fz (.list [.str (tx l), .list (rowsD R), .list (natsD ns)])), some (.ol (sD (hd57 l :: lns R ns j))), x2, x3, none], none⟩) ⟨by omega, none, none, rfl⟩ ?_ ?_
  · rintro j d r hd ⟨hj, x2, x3, rfl⟩
    obtain ⟨d', hd', rfl⟩ := enumL_get hd
    rw [List.getElem?_map] at hd'
    obtain ⟨row, hr, rfl⟩ := Option.map_eq_some_iff.mp hd'
    have hmem := List.mem_of_getElem? hr
    have hjm := (List.getElem?_eq_some_iff.mp hr).1
    have hlt : ∀ n ∈ row, n < 64 := fun n hn => by have := h.rok.lt row hmem n hn; omega
    have hlen := h.rok.len row hmem
    have hg : R.getD j [] = row := by rw [List.getD_eq_getElem?_getD, hr]; rfl
    repeat' decreasing_trivial_pre_omega
    refine cutP (key j row (hd57 l :: lns R ns j) hlt (by omega) (by simp [lns]; omega)) fun r h => ?_
    refine ⟨by omega, some (.fz (.int ((j : Nat) : Int))), some (.fz (.tuple (natsD row))), ?_⟩
    rw [h, lns_succ, ← List.cons_append]
    unfold ln
    rw [hg]
  · rintro r ⟨hj, x2, x3, rfl⟩
    rw [enumL_len, hrl]
    repeat' decreasing_trivial_pre_omega
    refine ⟨_, strsD_tx _, ?_, ?_⟩
    · have := sum_le (k := 30) (W := hd57 l :: lns R ns R.length) fun w hw => by
        rcases List.mem_cons.mp hw with rfl | hw
        · simp [hd57]; omega
        · exact ln_len h hw
      simp only [List.length_cons] at this
      have hll : (lns R ns R.length).length = R.length := by simp [lns]
      rw [List.length_map, QL.tx_len, List.length_cons]
      simp only [List.length_cons, List.length_nil]
      omega
    rw [join_jn]
    exact ⟨rfl, rfl⟩
theorem fmt_b {j : Nat} {row : List Nat} {W : List (List Nat)} (h : ∀ n ∈ row, n < 64) (hl : row.length ≤ 5) (hW : W.length ≤ 100) : wS (format_machine_b2 ⟨[some (.fz (Mc l R ns)), some (.ol (sD W)), some (.fz (.int (j : Nat))), some (.fz (.tuple (natsD row))), none], none⟩) (Pn fun r => r = ⟨[some (.fz (Mc l R ns)), some (.ol (sD (W ++ [rt row ++ tl (decide (j ∈ ns))]))), some (.fz (.int (j : Nat))), some (.fz (.tuple (natsD row))), none], none⟩) := by
  unfold format_machine_b2
  have k := lets_R (l := l) (R := R) (ns := ns)
  generalize F_Machine_lets = F at k ⊢
  have hln : (natsD row).length = row.length := List.length_map ..
  have hWl : (sD W).length = W.length := List.length_map ..
  have hrt := rt_len h
  have hsum := sum_le (k := 2) (W := row.map sN) fun w hw => by
    obtain ⟨n, hn, rfl⟩ := List.mem_map.mp hw
    exact (sN_all (h n hn)).2.2.2.1
  rw [List.length_map] at hsum
  have hap : ∀ w, sD (W ++ [w]) = sD W ++ [.str (tx w)] := fun w => List.map_append ..
  rw [hap]
  repeat' decreasing_trivial_pre_omega
  refine lc_map strF (szb' (by omega)) (fun d hd => ?_) ?_
  · obtain ⟨n, hn, rfl⟩ := List.mem_map.mp hd
    unfold format_machine_e1
    repeat' decreasing_trivial_pre_omega
    refine ⟨h n hn, ?_⟩
    repeat' decreasing_trivial_pre_omega
    rfl
  · rw [strF_all]
    repeat' decreasing_trivial_pre_omega
    refine ⟨_, strsD_tx _, ?_, ?_⟩
    · rw [List.length_map, List.length_map, QL.tx_len]
      simp only [List.length_cons, List.length_nil]
      omega
    rw [join_jn]
    repeat' decreasing_trivial_pre_omega
    refine wF_ret k ?_
    repeat' decreasing_trivial_pre_omega
    refine ⟨⟨rfl, okNats ns⟩, ?_⟩
    rw [in_nats]
    by_cases hj : j ∈ ns
    · rw [decide_eq_true hj]
      repeat' decreasing_trivial_pre_omega
      refine ⟨szb' (by show (rt row).length + _ ≤ _; simp only [List.length_cons, List.length_nil]; omega), ?_⟩
      repeat' decreasing_trivial_pre_omega
      refine ⟨szl' (by omega), ?_⟩
      repeat' decreasing_trivial_pre_omega
      rfl
    · rw [decide_eq_false hj]
      repeat' decreasing_trivial_pre_omega
      refine ⟨szb' (by show (rt row).length + _ ≤ _; simp only [List.length_nil]; omega), ?_⟩
      repeat' decreasing_trivial_pre_omega
      refine ⟨szl' (by omega), ?_⟩
      repeat' decreasing_trivial_pre_omega
      rfl
theorem format2_R (h : Ok57 l R ns) : Ret (F_format_machine [Mc l R ns]) (.fz (.str (tx (pt l R ns)))) := by
  have hrl : (rowsD R).length = R.length := List.length_map ..
  have h40 := h.r40
  have hl5 := h.l5
  have key := fun (j : Nat) (row : List Nat) (W : List (List Nat)) (a : ∀ n ∈ row, n < 64) b c => @fmt_b l R ns j row W a b c
  have k1 := letters_R (l := l) (R := R) (ns := ns)
  have k2 := rows_R (l := l) (R := R) (ns := ns)
  refine Ret.go ?_
  unfold B_format_machine
  generalize format_machine_b2 = BB at key ⊢
  generalize F_Machine_letters = G1 at k1 ⊢
  generalize F_Machine_rows = G2 at k2 ⊢
  repeat' decreasing_trivial_pre_omega
  refine wF_ret k1 ?_
  repeat' decreasing_trivial_pre_omega
  refine ⟨szb' (by simp only [List.length_cons, List.length_nil]; omega), ?_⟩
  repeat' decreasing_trivial_pre_omega
  refine wF_ret k2 ?_
  repeat' decreasing_trivial_pre_omega
  refine ⟨_, _, rfl, .inl rfl, ?_⟩
  refine wFor_inv (fun j r => j ≤ R.length ∧ ∃ (x2 x3 : Option SV), r = ⟨[some (.fz (Mc l R ns)), some (.ol (sD (hd57 l :: lns R ns j))), x2, x3, none], none⟩) ⟨by omega, none, none, rfl⟩ ?_ ?_
  · rintro j d r hd ⟨hj, x2, x3, rfl⟩
    obtain ⟨d', hd', rfl⟩ := enumL_get hd
    rw [List.getElem?_map] at hd'
    obtain ⟨row, hr, rfl⟩ := Option.map_eq_some_iff.mp hd'
    have hmem := List.mem_of_getElem? hr
    have hjm := (List.getElem?_eq_some_iff.mp hr).1
    have hlt : ∀ n ∈ row, n < 64 := fun n hn => by have := h.rok.lt row hmem n hn; omega
    have hlen := h.rok.len row hmem
    have hg : R.getD j [] = row := by rw [List.getD_eq_getElem?_getD, hr]; rfl
    repeat' decreasing_trivial_pre_omega
    refine cutP (key j row (hd57 l :: lns R ns j) hlt (by omega) (by simp [lns]; omega)) fun r h => ?_
    refine ⟨by omega, some (.fz (.int ((j : Nat) : Int))), some (.fz (.tuple (natsD row))), ?_⟩
    rw [h, lns_succ, ← List.cons_append]
    unfold ln
    rw [hg]
  · rintro r ⟨hj, x2, x3, rfl⟩
    rw [enumL_len, hrl]
    repeat' decreasing_trivial_pre_omega
    refine ⟨_, strsD_tx _, ?_, ?_⟩
    · have := sum_le (k := 30) (W := hd57 l :: lns R ns R.length) fun w hw => by
        rcases List.mem_cons.mp hw with rfl | hw
        · simp [hd57]; omega
        · exact ln_len h hw
      simp only [List.length_cons] at this
      have hll : (lns R ns R.length).length = R.length := by simp [lns]
      rw [List.length_map, QL.tx_len, List.length_cons]
      simp only [List.length_cons, List.length_nil]
      omega
    rw [join_jn]
    exact ⟨rfl, rfl⟩
end
end QM
namespace QM
open PySem PySem.Spec L2 QL QP
local macro_rules | `(tactic| decreasing_trivial_pre_omega) => `(tactic| first
  | apply QM.Step.go
  | refine ⟨rfl, ?_⟩
  | refine ⟨⟨rfl, rfl⟩, ?_⟩
  | refine ⟨_, rfl, ?_⟩
  | refine ⟨_, _, rfl, ?_⟩
  | refine ⟨_, _, _, rfl, ?_⟩
  | refine ⟨Nat.le_of_ble_eq_true rfl, ?_⟩
  | refine wAt_r rfl ?_
  | refine wB_t rfl ?_
  | refine wB_f rfl ?_)
theorem w_callVb {n : Nat} {F : List D → FR} {ds0 : List D} {b : Bool} {FL : S → Res (List D)} {r : S} {P : SV → S → Prop} {X : XPo} (k : Ret (F ds0) (.fz (.bool b))) (h : wE (FL r) (fun ds r => ds = ds0 ∧ ds.length = n ∧ P (.fz (.bool b)) r) X) : wE (fCallV n F FL r) P X := by
  unfold fCallV
  refine wE_bind (wE_mono h fun ds r h => ?_)
  obtain ⟨rfl, hn, h⟩ := h
  obtain ⟨tp, e, _⟩ := k
  rw [if_pos hn, e]
  exact h
section
variable {l : List Nat} {R : List (List Nat)} {ns : List Nat}
theorem begins_R {m : Nat} (h : ∀ row ∈ R, ∀ p ∈ row, p < m) (hr : R.length ≤ 40) (hw : ∀ row ∈ R, row.length ≤ 5) : Ret (F_begins [.list (rowsD R), .int (m : Nat)]) (.fz (.bool true)) := by
  refine Ret.go ?_
  unfold B_begins
  repeat' decreasing_trivial_pre_omega
  have hsum : ((rowsD R).flatMap fun d => (psOf d).filterMap fun _ => some (PyData.bool false)).length ≤ R.length * 5 := by
    clear h hr
    induction R with
    | nil => simp
    | cons row R ih =>
      have := ih fun x hx => hw x (List.mem_cons_of_mem _ hx)
      have h1 := hw row (List.mem_cons_self ..)
      show ((natsD row).filterMap (fun _ => some (PyData.bool false)) ++ (rowsD R).flatMap _).length ≤ _
      rw [List.length_append, boolsF (fun _ => false), List.length_map, List.length_map, List.length_map, List.length_cons]
      omega
  have hall : ∃ bs : List Bool, ((rowsD R).flatMap fun d => (psOf d).filterMap fun _ => some (PyData.bool false)) = bs.map PyData.bool ∧ true ∉ bs := by
    clear h hr hsum hw
    induction R with
    | nil => exact ⟨[], rfl, by simp⟩
    | cons row R ih =>
      obtain ⟨bs, e, hb⟩ := ih
      refine ⟨(natsD row).map (fun _ => false) ++ bs, ?_, by simp [hb]⟩
      show (natsD row).filterMap (fun _ => some (PyData.bool false)) ++ (rowsD R).flatMap _ = _
      rw [e, boolsF (fun _ => false), List.map_append]
  refine wLc2_map (fun d => (psOf d).filterMap fun _ => some (PyData.bool false)) (szb' (by omega)) (fun d hd => ?_) ?_
  · obtain ⟨row, hrow, rfl⟩ := List.mem_map.mp hd
    unfold begins_i1
    repeat' decreasing_trivial_pre_omega
    refine wLcI_map _ (fun p hp => ?_) rfl
    obtain ⟨n, hn, rfl⟩ := List.mem_map.mp hp
    have := h row hrow n hn
    unfold begins_e2
    repeat' decreasing_trivial_pre_omega
    rw [decide_eq_false (by omega)]
    exact ⟨rfl, rfl⟩
  · obtain ⟨bs, e, hb⟩ := hall
    rw [e]
    repeat' decreasing_trivial_pre_omega
    refine ⟨⟨rfl, okB _⟩, ?_⟩
    rw [any_eqv eqv_bool true bs, decide_eq_false hb]
    exact ⟨rfl, rfl⟩
def nsJ (ns : List Nat) (j : Nat) : List Nat := (List.range j).filter fun n => decide (n ∈ ns)
theorem nsJ_succ (ns : List Nat) (j : Nat) : nsJ ns (j + 1) = if j ∈ ns then nsJ ns j ++ [j] else nsJ ns j := by
  unfold nsJ
  rw [List.range_succ, List.filter_append]
  by_cases h : j ∈ ns
  · rw [if_pos h]; simp [h]
  · rw [if_neg h]; simp [h]
theorem nsJ_all {m : Nat} (h1 : ns.Pairwise (· ≤ ·)) (h2 : ns.Nodup) (h3 : ∀ n ∈ ns, n < m) : nsJ ns m = ns := by
  have p1 : (nsJ ns m).Pairwise (· ≤ ·) := (List.pairwise_lt_range.imp fun h => Nat.le_of_lt h).sublist List.filter_sublist
  have n1 : (nsJ ns m).Nodup := List.nodup_range.sublist List.filter_sublist
  refine pw_eq ((List.perm_ext_iff_of_nodup n1 h2).mpr fun n => ?_) p1 h1
  unfold nsJ
  rw [List.mem_filter, List.mem_range]
  exact ⟨fun h => of_decide_eq_true h.2, fun h => ⟨h3 n h, decide_eq_true h⟩⟩
theorem read_b {j : Nat} {row : List Nat} {Rj : List (List Nat)} {nj : List Nat} {B : D} {W : List D} {x7 : Option SV} (h : ∀ n ∈ row, n < 64) (h0 : row ≠ []) (hl : row.length = l.length) (hl5 : l.length ≤ 5) (b : Bool) (hj : j ≤ 100) (hR : Rj.length ≤ 100) (hn : nj.length ≤ 100) : wS (read_machine_b1 ⟨[some (.fz B), some (.ol W), some (.fz (.str (tx l))), some (.ol (rowsD Rj)), some (.ol (natsD nj)), some (.fz (.int (j : Nat))), some (.fz (.str (tx (rt row ++ tl b)))), x7], none⟩) (Pn fun r => ∃ x7, r = ⟨[some (.fz B), some (.ol W), some (.fz (.str (tx l))), some (.ol (rowsD (Rj ++ [row]))), some (.ol (natsD (if b then nj ++ [j] else nj))), some (.fz (.int (j : Nat))), some (.fz (.str (tx (rt row ++ tl b)))), x7], none⟩) := by
  have k := row_of_R h h0 (by omega) b
  rw [hl] at k
  have e1 : rowsD (Rj ++ [row]) = rowsD Rj ++ [.tuple (natsD row)] := List.map_append ..
  have e2 : natsD (nj ++ [j]) = natsD nj ++ [.int (j : Nat)] := List.map_append ..
  have l1 : (rowsD Rj).length = Rj.length := List.length_map ..
  have l2 : (natsD nj).length = nj.length := List.length_map ..
  unfold read_machine_b1
  generalize F_row_of = F at k ⊢
  rw [e1]
  repeat' decreasing_trivial_pre_omega
  refine ⟨szb' (by omega), ?_⟩
  repeat' decreasing_trivial_pre_omega
  refine wF_ret k ?_
  repeat' decreasing_trivial_pre_omega
  refine ⟨szl' (by omega), ?_⟩
  repeat' decreasing_trivial_pre_omega
  cases b with
  | true =>
    repeat' decreasing_trivial_pre_omega
    refine ⟨szl' (by omega), ?_⟩
    repeat' decreasing_trivial_pre_omega
    rw [show (if true = true then nj ++ [j] else nj) = nj ++ [j] from if_pos rfl, e2]
    exact ⟨_, rfl⟩
  | false =>
    repeat' decreasing_trivial_pre_omega
    exact ⟨_, rfl⟩
theorem pt_sp (h : Ok57 l R ns) : sp 10 (pt l R ns) = hd57 l :: lns R ns R.length := sp_jn (by simp) fun w hw => by
  rcases List.mem_cons.mp hw with rfl | hw
  · intro z
    rcases List.mem_append.mp z with z | z
    · revert z; decide
    · have := h.tx 10 z; omega
  · obtain ⟨j, hj, rfl⟩ := List.mem_map.mp hw
    have hj := List.mem_range.mp hj
    have hm : R.getD j [] ∈ R := by rw [List.getD_eq_getElem?_getD, List.getElem?_eq_getElem hj]; exact List.getElem_mem ..
    have h40 := h.r40
    intro z
    rcases List.mem_append.mp z with z | z
    · have := rt_chars (fun n hn => by have := h.rok.lt _ hm n hn; omega) 10 z
      omega
    · unfold tl at z
      split at z
      · revert z; decide
      · cases z
theorem pt_len (h : Ok57 l R ns) : (pt l R ns).length ≤ 10000 := by
  have key : ∀ (W : List (List Nat)), (∀ w ∈ W, w.length ≤ 30) → (jn 10 W).length ≤ 31 * W.length := by
    intro W
    induction W with
    | nil => simp [jn]
    | cons w W ih =>
      intro hw
      have h1 := hw w (List.mem_cons_self ..)
      have h2 := ih fun x hx => hw x (List.mem_cons_of_mem _ hx)
      cases W with
      | nil => simp only [jn, List.length_cons, List.length_nil]; omega
      | cons w2 W =>
        show (w ++ [10] ++ jn 10 (w2 :: W)).length ≤ _
        simp only [List.length_append, List.length_cons, List.length_nil] at h2 ⊢
        omega
  have := key (hd57 l :: lns R ns R.length) fun w hw => by
    rcases List.mem_cons.mp hw with rfl | hw
    · have := h.l5; simp [hd57]; omega
    · exact ln_len h hw
  have hll : (lns R ns R.length).length = R.length := by simp [lns]
  rw [List.length_cons, hll] at this
  have := h.r40
  unfold pt
  omega
theorem atI0c {α : Type} {x : α} {xs : List α} : atI (x :: xs) 0 = some x := atI_lt (xs := x :: xs) (f := 0) (by simp)
theorem read2_R (h : Ok57 l R ns) : Ret (F_read_machine [.str (tx (pt l R ns))]) (.fz (Mc l R ns)) := by
  have h40 := h.r40
  have hl5 := h.l5
  have k1 : Ret (F_is_letters [.str (tx l)]) (.fz (.bool true)) := goodL_tx (l := l) (by omega) h.tx h.l0 h.asc
  have k2 := begins_R (m := R.length) h.rok.lt h.r40 (fun row hr => by rw [h.rok.len row hr]; exact h.l5)
  have hnl := nodup_le57 h.nnd h.nlt
  have k3 := mach2_R (l := l) (R := R) (ns := ns) h.l5 h.tx h.asc h.l0 h.rok h.r1 h.r40 h.npw h.nnd (by omega) h.nlt
  have e1 := pt_sp h
  have e2 := pt_len h
  have e3 : cutL (hd57 l) (some 8) none = l := cut_fr (hd57 l) 8
  have e4 : preN (hd57 l) [108, 101, 116, 116, 101, 114, 115, 32] = true := by unfold preN hd57; rw [List.take_left' rfl]; simp
  have hrl : (rowsD R).length = R.length := List.length_map ..
  have key := fun (j : Nat) (row : List Nat) (Rj : List (List Nat)) (nj : List Nat) (B : D) (W : List D) (x7 : Option SV) a b c d e f g i => @read_b l j row Rj nj B W x7 a b c d e f g i
  generalize pt l R ns = B at e1 e2
  refine Ret.go ?_
  unfold B_read_machine
  generalize F_is_letters = G1 at k1 ⊢
  generalize F_begins = G2 at k2 ⊢
  generalize mkO F_Machine_init_v2 = G3 at k3 ⊢
  generalize read_machine_b1 = BB at key ⊢
  repeat' decreasing_trivial_pre_omega
  refine ⟨szb' (by omega), ?_⟩
  rw [e1]
  repeat' decreasing_trivial_pre_omega
  refine wAt_r atI0c ?_
  repeat' decreasing_trivial_pre_omega
  refine ⟨szb' (by simp [hd57]; omega), ?_⟩
  rw [show (([108, 101, 116, 116, 101, 114, 115, 32] : List Nat).length : Int) = 8 from rfl, e3]
  repeat' decreasing_trivial_pre_omega
  refine wAt_r atI0c ?_
  repeat' decreasing_trivial_pre_omega
  refine wF_ret k1 ?_
  repeat' decreasing_trivial_pre_omega
  refine ⟨_, _, rfl, .inl rfl, ?_⟩
  rw [show cutL (List.map (fun w => PyData.str (tx w)) (hd57 l :: lns R ns R.length)) (some 1) none = sD (lns R ns R.length) from cut_tail _ _]
  refine wFor_inv (fun j r => j ≤ R.length ∧ ∃ (x5 x6 x7 : Option SV), r = ⟨[some (.fz (.str (tx B))), some (.ol (sD (hd57 l :: lns R ns R.length))), some (.fz (.str (tx l))), some (.ol (rowsD (R.take j))), some (.ol (natsD (nsJ ns j))), x5, x6, x7], none⟩) ⟨by omega, none, none, none, rfl⟩ ?_ ?_
  · rintro j d r hd ⟨hj, x5, x6, x7, rfl⟩
    obtain ⟨d', hd', rfl⟩ := enumL_get hd
    rw [List.getElem?_map] at hd'
    obtain ⟨w, hr, rfl⟩ := Option.map_eq_some_iff.mp hd'
    unfold lns at hr
    rw [List.getElem?_map] at hr
    obtain ⟨i, hi, rfl⟩ := Option.map_eq_some_iff.mp hr
    have hjm := (List.getElem?_eq_some_iff.mp hi).1
    rw [List.length_range] at hjm
    rw [List.getElem?_range hjm] at hi
    obtain rfl := Option.some.inj hi
    have hm : R[j]? = some (R.getD j []) := by rw [List.getD_eq_getElem?_getD, List.getElem?_eq_getElem hjm]; rfl
    have hmem := List.mem_of_getElem? hm
    have hlt : ∀ n ∈ R.getD j [], n < 64 := fun n hn => by have := h.rok.lt _ hmem n hn; omega
    have hlen := h.rok.len _ hmem
    have h0 : R.getD j [] ≠ [] := fun z => by rw [z] at hlen; exact h.l0 (List.length_eq_zero_iff.mp hlen.symm)
    have ht : R.take (j + 1) = R.take j ++ [R.getD j []] := by rw [List.take_add_one, hm]; rfl
    have hns : (nsJ ns j).length ≤ j := by
      unfold nsJ
      have := List.length_filter_le (fun n => decide (n ∈ ns)) (List.range j)
      rwa [List.length_range] at this
    unfold ln
    repeat' decreasing_trivial_pre_omega
    refine cutP (key j (R.getD j []) (R.take j) (nsJ ns j) _ _ _ hlt h0 hlen (by omega) (decide (j ∈ ns)) (by omega) (by rw [List.length_take]; omega) (by omega)) fun r h => ?_
    obtain ⟨x7, rfl⟩ := h
    have e5 : (if decide (j ∈ ns) = true then nsJ ns j ++ [j] else nsJ ns j) = nsJ ns (j + 1) := by rw [nsJ_succ]; simp only [decide_eq_true_eq]
    refine ⟨by omega, some (.fz (.int ((j : Nat) : Int))), some (.fz (.str (tx (rt (R.getD j []) ++ tl (decide (j ∈ ns)))))), x7, ?_⟩
    rw [ht, e5]
  · rintro r ⟨hj, x5, x6, x7, rfl⟩
    rw [enumL_len, List.length_map, show (lns R ns R.length).length = R.length by simp [lns], List.take_length, nsJ_all h.npw h.nnd h.nlt]
    have hne : (rowsD R).isEmpty = false := by
      have := h.r1
      cases R with
      | nil => simp at this
      | cons => rfl
    repeat' decreasing_trivial_pre_omega
    refine wB_f hne ?_
    repeat' decreasing_trivial_pre_omega
    refine w_callVb k2 ?_
    repeat' decreasing_trivial_pre_omega
    rw [hrl]
    refine ⟨rfl, ?_⟩
    repeat' decreasing_trivial_pre_omega
    refine wF_ret k3 ?_
    repeat' decreasing_trivial_pre_omega
    all_goals rfl
end
end QM
namespace QM
open PySem PySem.Spec L2 QL QP
local macro_rules | `(tactic| decreasing_trivial_pre_omega) => `(tactic| first
  | apply QM.Step.go
  | refine ⟨rfl, ?_⟩
  | refine ⟨⟨rfl, rfl⟩, ?_⟩
  | refine ⟨_, rfl, ?_⟩
  | refine ⟨_, _, rfl, ?_⟩
  | refine ⟨_, _, _, rfl, ?_⟩
  | refine ⟨Nat.le_of_ble_eq_true rfl, ?_⟩
  | refine wAt_r rfl ?_
  | refine wB_t rfl ?_
  | refine wB_f rfl ?_)
section
variable {l : List Nat} {most m : Nat} {t : Int × Int}
theorem dm_lets2 {R : List (List Nat)} (ok : TapeOk t = true) (hR : R.length = m) (hm : m ≤ 1000) : Hid (wS (sRet (eLst (aCons (fV 1) (aCons (fV 4) (aCons (fD (fCB dSortA (aCons (fD (fLc [6] (fRng1 (aCons (fV 3) (aNil))) (gNm 6) (_law_drawn_machine_t5) (_law_drawn_machine_e6))) (aNil)))) (aNil))))) (Sm l most m (some (.ol (rowsD R))) none none t)) ⟨fun _ => False, fun v r => ∃ ns t', v = .ol [.str (tx l), .list (rowsD R), .list (natsD ns)] ∧ TapeOk t' = true ∧ (ns.Nodup ∧ ns.Pairwise (· ≤ ·)) ∧ (∀ n ∈ ns, n < m) ∧ r.tp = some t', fun _ => False, fun _ => False, XN⟩) := by
  refine ⟨?_⟩
  repeat' decreasing_trivial_pre_omega
  refine ⟨by omega, ?_⟩
  rw [show ((m : Nat) : Int).toNat = m by omega]
  refine wLc_inv (fun j acc r => ∃ ns t', acc = natsD ns ∧ ns.length ≤ j ∧ (∀ n ∈ ns, n < j ∧ n < m) ∧ ns.Nodup ∧ TapeOk t' = true ∧ r = Sm l most m (some (.fz (.list (rowsD R)))) none none t') ?_ ?_ ?_
  · exact ⟨[], t, rfl, Nat.zero_le _, fun _ h => (nomatch h), .nil, ok, rfl⟩
  · rintro j d acc r hd ⟨ns, t1, rfl, hj, hn, hnd, o1, rfl⟩
    obtain ⟨rfl, hjm⟩ := rngL_get hd
    refine ⟨_, rfl, ?_⟩
    unfold _law_drawn_machine_t5 _law_drawn_machine_e6
    repeat' decreasing_trivial_pre_omega
    refine wFT_use (pick_sp o1 (by omega) (by omega)) (fun v t2 ⟨o2, f, e, hf⟩ => ?_)
    subst e
    repeat' decreasing_trivial_pre_omega
    refine wB_d (fun h => ?_) (fun h => ?_)
    · repeat' decreasing_trivial_pre_omega
      refine ⟨szl' (by simp; omega), ns ++ [j], t2, by simp [natsD], by simp; omega, fun n hn2 => ?_, ?_, o2, rfl⟩
      · rcases List.mem_append.mp hn2 with z | z
        · exact ⟨by have := (hn n z).1; omega, (hn n z).2⟩
        · rw [List.mem_singleton.mp z]; omega
      · rw [List.nodup_append]
        refine ⟨hnd, by simp, fun a ha b hb => ?_⟩
        rw [List.mem_singleton.mp hb]
        have := (hn a ha).1
        omega
    · exact ⟨ns, t2, rfl, by omega, fun n h => ⟨by have := (hn n h).1; omega, (hn n h).2⟩, hnd, o2, rfl⟩
  · rintro acc r ⟨ns, t1, rfl, hj, hn, hnd, o1, rfl⟩
    repeat' decreasing_trivial_pre_omega
    refine wSrM_i fun ms hp hs => ?_
    repeat' decreasing_trivial_pre_omega
    exact ⟨ms, t1, rfl, o1, ⟨hp.nodup_iff.mpr hnd, hs⟩, fun n h => (hn n (hp.mem_iff.mp h)).2, rfl⟩
theorem drawn3_sp (ok : TapeOk t = true) (h1 : 1 ≤ most) (h2 : most ≤ 40) (hl5 : l.length ≤ 5) (hx : Tx l) (ha : asc l = true) (h0 : l ≠ []) : wFT (F__law_drawn_machine t [.str (tx l), .int (most : Nat)]) (fun v t' => TapeOk t' = true ∧ ∃ R ns, v = .ol [.str (tx l), .list (rowsD R), .list (natsD ns)] ∧ Ok57 l R ns) (fun _ _ _ => False) := by
  have k1 := fun (m : Nat) (t : Int × Int) ok h h2 => (@dm_rows l most m t ok h h2 (by omega)).out
  have k2 := fun (m : Nat) (t : Int × Int) R hR h h2 => (@dm_max l most m t R hR h h2 (by omega)).out
  have k3 := fun (m : Nat) (t : Int × Int) R ok hR h2 => (@dm_lets2 l most m t R ok hR h2).out
  refine wFT_go ?_
  unfold B__law_drawn_machine
  generalize sAsg 4 (fLc [6] (fRng1 (aCons (fV 3) (aNil))) (gNm 6) (tYesF) (_law_drawn_machine_e2)) = S1 at k1 ⊢
  generalize sAsg 4 (fLc [6, 8] (fEnum (aCons (fV 4) (aNil))) (gTupF 2 (gConsF (gNm 6) (gConsF (gNm 8) (gNilF)))) (tYesF) (_law_drawn_machine_e4)) = S2 at k2 ⊢
  generalize sRet (eLst (aCons (fV 1) (aCons (fV 4) (aCons (fD (fCB dSortA (aCons (fD (fLc [6] (fRng1 (aCons (fV 3) (aNil))) (gNm 6) (_law_drawn_machine_t5) (_law_drawn_machine_e6))) (aNil)))) (aNil))))) = S3 at k3 ⊢
  repeat' decreasing_trivial_pre_omega
  refine wFT_use (pick_sp ok (by omega) (by omega)) (fun v t1 ⟨o1, f, e, hf⟩ => ?_)
  subst e
  repeat' decreasing_trivial_pre_omega
  rw [show (1 : Int) + (f : Nat) = ((1 + f : Nat) : Int) by omega]
  generalize hm : 1 + f = m
  have hm1 : 1 ≤ m := by omega
  have hm4 : m ≤ 40 := by omega
  refine wS_mono (k1 m t1 o1 hm1 (by omega)) (fun s h => ?_) (fun _ _ z => z.elim) (fun _ z => z.elim) (fun _ z => z.elim) (fun _ _ _ z => z.elim)
  obtain ⟨R, t2, o2, hR, hok, rfl⟩ := h
  have fin : ∀ (R : List (List Nat)) (t : Int × Int), TapeOk t = true → R.length = m → RowsOk l.length m R → wS (S3 (Sm l most m (some (.ol (rowsD R))) none none t)) ⟨fun _ => False, fun v r => v.out = true ∧ ∃ t, r.tp = some t ∧ TapeOk t = true ∧ ∃ R ns, v = .ol [.str (tx l), .list (rowsD R), .list (natsD ns)] ∧ Ok57 l R ns, fun _ => False, fun _ => False, XN⟩ := fun R t o hR hok => wS_mono (k3 m t R o hR (by omega)) (fun _ z => z.elim) (fun v r h => by
    obtain ⟨ns, t', e, o', ⟨h1, h1b⟩, h2, h3⟩ := h
    subst e
    exact ⟨rfl, t', h3, o', R, ns, rfl, ⟨h0, hl5, hx, ha, by rw [hR]; exact hok, by omega, by omega, by rw [hR]; exact h2, h1b, h1⟩⟩) (fun _ z => z.elim) (fun _ z => z.elim) (fun _ _ _ z => z.elim)
  repeat' decreasing_trivial_pre_omega
  refine wFT_use (pick_sp o2 (by omega) (by omega)) (fun v t3 ⟨o3, g, e, hg⟩ => ?_)
  subst e
  repeat' decreasing_trivial_pre_omega
  refine wB_d (fun h => ?_) (fun h => ?_)
  · refine wS_mono (k2 m t3 R hR hok (by omega)) (fun s h => ?_) (fun _ _ z => z.elim) (fun _ z => z.elim) (fun _ z => z.elim) (fun _ _ _ z => z.elim)
    obtain ⟨R', hR', hok', rfl⟩ := h
    exact wS_mono (fin R' t3 o3 hR' hok') (fun _ z => z.elim) (fun _ _ z => z) (fun _ z => z.elim) (fun _ z => z.elim) (fun _ _ _ z => z.elim)
  · repeat' decreasing_trivial_pre_omega
    exact wS_mono (fin R t3 o3 hR hok) (fun _ z => z.elim) (fun _ _ z => z) (fun _ z => z.elim) (fun _ z => z.elim) (fun _ _ _ z => z.elim)
end
end QM
namespace K57
open PySem PySem.Spec L2 QL QP QM
local macro_rules | `(tactic| decreasing_trivial_pre_omega) => `(tactic| first
  | apply QM.Step.go
  | refine ⟨rfl, ?_⟩
  | refine ⟨⟨rfl, rfl⟩, ?_⟩
  | refine ⟨_, rfl, ?_⟩
  | refine ⟨_, _, rfl, ?_⟩
  | refine ⟨_, _, _, rfl, ?_⟩
  | refine ⟨Nat.le_of_ble_eq_true rfl, ?_⟩
  | refine wAt_r rfl ?_
  | refine wB_t rfl ?_
  | refine wB_f rfl ?_)
def law_b1_1 : S → RS := sAsg 4 (fMt dJoin (fC (.str "")) (aCons (fD (fCB dSortA (aCons (fD (fSl (fD (fCallT 2 1 F__law_shuffled (aCons (fD (fCB dListA (aCons (fC (.str "aelrstxz")) (aNil)))) (aNil)))) (oNon) (oSom (fD (fOp dAdd (fC (.int 1)) (fD (fCallT 2 1 F__law_pick (aCons (fC (.int 4)) (aNil))))))))) (aNil)))) (aNil)))
def law_b1_2 : S → RS := sAsg 5 (fCallT 2 2 F__law_drawn_machine (aCons (fV 4) (aCons (fD (fCallT 2 1 F__law_one_of (aCons (fD (eLst (aCons (fC (.int 3)) (aCons (fC (.int 12)) (aCons (fC (.int 40)) (aNil)))))) (aNil)))) (aNil))))
def law_b1_3 : S → RS := sPar2 6 7 (oCons (fCall 3 (mkO F_Machine_init_v2) (aCons (fD (fOp dIx (gV 5) (fC (.int 0)))) (aCons (fD (fOp dIx (gV 5) (fC (.int 1)))) (aCons (fD (fOp dIx (gV 5) (fC (.int 2)))) (aNil))))) (oCons (fCall 1 F__law_plan_text (aCons (fV 5) (aNil))) (oNil)))
def law_b1_4 : S → RS := sIf (tOrF (tV (fD (fOp dNe (fD (eLst (aCons (fD (fCall 1 F_format_machine (aCons (fV 6) (aNil)))) (aCons (fD (fCall 1 (fun ds => F_format_machine (pickL [0] ds)) (aCons (fV 6) (aNil)))) (aNil))))) (fD (eLst (aCons (fV 7) (aCons (fV 7) (aNil)))))))) (tOrF (tNotF (tV (fD (fCall 2 F_Machine_eq (aOwn "Machine" (qOb "Machine") (fD (fCall 1 F_read_machine (aCons (fV 7) (aNil)))) (fV 6)))))) (tNotF (tV (fD (fCall 2 F_Machine_eq (aOwn "Machine" (qOb "Machine") (fD (fCall 1 (fun ds => F_read_machine (pickL [0] ds)) (aCons (fV 7) (aNil)))) (fV 6)))))))) (sRet (eD (fC (.bool false)))) (sNext)
def law_b1_5 : S → RS := sAsg 8 (fCall 1 F_read_machine (aCons (fV 7) (aNil)))
def law_b1_6 : S → RS := sIf (tOrF (tV (fD (fOp dNe (fD (eLst (aCons (fD (fProp "Machine" F_Machine_letters (fV 8))) (aCons (fD (fProp "Machine" F_Machine_rows (fV 8))) (aCons (fD (fProp "Machine" F_Machine_lets (fV 8))) (aNil)))))) (gV 5)))) (tV (fD (fOp dNe (fD (fCall 1 F_format_machine (aCons (fV 8) (aNil)))) (gV 7))))) (sRet (eD (fC (.bool false)))) (sNext)
theorem law_b1_eq : law_b1 = sSeq (law_b1_1) (sSeq (law_b1_2) (sSeq (law_b1_3) (sSeq (law_b1_4) (sSeq (law_b1_5) (law_b1_6))))) := rfl
instance : OfS "aelrstxz" [97, 101, 108, 114, 115, 116, 120, 122] := ⟨by decide +kernel⟩
abbrev St (i : Int) (x3 x4 x5 x6 x7 x8 : Option SV) (t : Int × Int) : S := ⟨[some (.scr []), some (.fz (.int i)), some .tape, x3, x4, x5, x6, x7, x8], some t⟩
abbrev plD (l : List Nat) (R : List (List Nat)) (ns : List Nat) : D := .list [.str (tx l), .list (rowsD R), .list (natsD ns)]
theorem eqv_refl_str {x : Str} : PyData.eqv (.str x) (.str x) = true := by rw [eqv_str]; simp
theorem eqv_lR {ds : List D} (h : ∀ d ∈ ds, PyData.eqv d d = true) : PyData.eqv (.list ds) (.list ds) = true := by
  simp only [PyData.eqv]; exact eqv_allR h
theorem eqv_l2 {a : D} (ha : PyData.eqv a a = true) : PyData.eqv (.list [a, a]) (.list [a, a]) = true := eqv_lR fun d hd => by
  simp only [List.mem_cons, List.not_mem_nil, or_false, or_self] at hd
  rw [hd]; exact ha
section
variable {i : Int} {x3 x4 x5 x6 x7 x8 : Option SV} {t : Int × Int} {l ns : List Nat} {R : List (List Nat)}
theorem pl_eqv : PyData.eqv (plD l R ns) (plD l R ns) = true := eqv_lR fun d hd => by
  simp only [List.mem_cons, List.not_mem_nil, or_false] at hd
  rcases hd with rfl | rfl | rfl
  · exact eqv_refl_str
  · exact eqv_lR (rowsD_eqv R)
  · exact eqv_lR (natsD_eqv ns)
theorem pl_ok : okD (plD l R ns) = true := (okN_list (n := 5) fun d hd => by
  simp only [List.mem_cons, List.not_mem_nil, or_false] at hd
  rcases hd with rfl | rfl | rfl
  · exact okN_str
  · exact ⟨(okN_rowsL R).1, Nat.le_trans (okN_rowsL R).2 (by decide)⟩
  · have h : okN 1 (.list (natsD ns)) := okN_list (n := 0) fun d hd => by
      obtain ⟨n, _, rfl⟩ := List.mem_map.mp hd
      exact okN_int
    exact ⟨h.1, Nat.le_trans h.2 (by decide)⟩).ok
theorem s1 (ok : TapeOk t = true) : wS (law_b1_1 (St i x3 x4 x5 x6 x7 x8 t)) (Pn fun r => ∃ l t', TapeOk t' = true ∧ (l ≠ [] ∧ l.length ≤ 5 ∧ Tx l ∧ asc l = true) ∧ r = St i x3 (some (.fz (.str (tx l)))) x5 x6 x7 x8 t') := by
  unfold law_b1_1
  repeat' decreasing_trivial_pre_omega
  refine wFT_use (shuffled_sp ok (by decide) (fun d hd => ?_)) (fun v t1 ⟨o1, es, e, hp⟩ => ?_)
  · obtain ⟨c, _, rfl⟩ := List.mem_map.mp hd
    exact okN_str
  subst e
  obtain ⟨m, em, hm⟩ := ltrs_inv hp
  subst em
  repeat' decreasing_trivial_pre_omega
  refine wFT_use (pick_sp o1 (by omega) (by omega)) (fun v t2 ⟨o2, f, e, hf⟩ => ?_)
  subst e
  repeat' decreasing_trivial_pre_omega
  rw [show (1 : Int) + (f : Nat) = ((1 + f : Nat) : Int) by omega, cut_up, ltrs_take]
  refine ⟨_, strs_ltrs _, ?_⟩
  obtain ⟨s, e, p, h⟩ := sort_ones (m.take (1 + f))
  rw [e, ltrs_strs]
  have hmn : m.Nodup := hm.nodup_iff.mpr (by decide)
  have hml : m.length = 8 := hm.length_eq
  have hsl := p.length_eq
  rw [List.length_take, hml] at hsl
  have hsl : s.length ≤ 4 := by omega
  repeat' decreasing_trivial_pre_omega
  refine ⟨_, strs_ltrs s, by rw [sum_ones]; simp; omega, ?_⟩
  rw [join0]
  repeat' decreasing_trivial_pre_omega
  refine ⟨s, t2, o2, ⟨fun z => ?_, by omega, fun c hc => ?_, asc_of h (p.nodup_iff.mpr (hmn.sublist (List.take_sublist _ _)))⟩, rfl⟩
  · have := p.length_eq
    rw [z, List.length_take, hml] at this
    simp at this
    omega
  · have := hm.mem_iff.mp (List.mem_of_mem_take (p.mem_iff.mp hc))
    simp only [List.mem_cons, List.not_mem_nil, or_false] at this
    omega
theorem s2 (ok : TapeOk t = true) (h : l ≠ [] ∧ l.length ≤ 5 ∧ Tx l ∧ asc l = true) : wS (law_b1_2 (St i x3 (some (.fz (.str (tx l)))) x5 x6 x7 x8 t)) (Pn fun r => ∃ R ns t', TapeOk t' = true ∧ Ok57 l R ns ∧ ∃ x5, (x5 = .ol [.str (tx l), .list (rowsD R), .list (natsD ns)]) ∧ r = St i x3 (some (.fz (.str (tx l)))) (some x5) x6 x7 x8 t') := by
  unfold law_b1_2
  repeat' decreasing_trivial_pre_omega
  refine wFT_use (one_of_sp ok (by simp) (by simp)) (fun v t1 ⟨o1, d, hd, e⟩ => ?_)
  subst e
  have hd : ∃ most : Nat, d = .int (most : Nat) ∧ 1 ≤ most ∧ most ≤ 40 := by
    simp only [List.mem_cons, List.not_mem_nil, or_false] at hd
    rcases hd with h | h | h
    · exact ⟨3, h, by decide, by decide⟩
    · exact ⟨12, h, by decide, by decide⟩
    · exact ⟨40, h, by decide, by decide⟩
  obtain ⟨most, rfl, a1, a2⟩ := hd
  repeat' decreasing_trivial_pre_omega
  refine wFT_use (drawn3_sp o1 a1 a2 h.2.1 h.2.2.1 h.2.2.2 h.1) (fun v t2 ⟨o2, R, ns, e, ho⟩ => ?_)
  subst e
  repeat' decreasing_trivial_pre_omega
  exact ⟨R, ns, t2, o2, ho, _, rfl, rfl⟩
theorem s3 (h : Ok57 l R ns) : wS (law_b1_3 (St i x3 x4 (some (.ol [.str (tx l), .list (rowsD R), .list (natsD ns)])) x6 x7 x8 t)) (Pn fun r => r = St i x3 x4 (some (.fz (plD l R ns))) (some (.fz (Mc l R ns))) (some (.fz (.str (tx (pt l R ns))))) x8 t) := by
  have k1 := mach2_R h.l5 h.tx h.asc h.l0 h.rok h.r1 h.r40 h.npw h.nnd (by have := nodup_le57 h.nnd h.nlt; have := h.r40; omega) h.nlt
  have k2 := plan_R h
  unfold law_b1_3
  generalize mkO F_Machine_init_v2 = F at k1 ⊢
  generalize F__law_plan_text = G at k2 ⊢
  repeat' decreasing_trivial_pre_omega
  refine wF_ret k1 ?_
  repeat' decreasing_trivial_pre_omega
  refine wF_ret k2 ?_
  repeat' decreasing_trivial_pre_omega
  rfl
theorem s4 (h : Ok57 l R ns) : wS (law_b1_4 (St i x3 x4 (some (.fz (plD l R ns))) (some (.fz (Mc l R ns))) (some (.fz (.str (tx (pt l R ns))))) x8 t)) (Pn fun r => r = St i x3 x4 (some (.fz (plD l R ns))) (some (.fz (Mc l R ns))) (some (.fz (.str (tx (pt l R ns))))) x8 t) := by
  have k1 := format2_R h
  have k2 := read2_R h
  have k3 := mc_eq_R (l := l) (R := R) (ns := ns)
  have o1 : okD (.list [.str (tx (pt l R ns)), .str (tx (pt l R ns))]) = true := (okN_list (n := 0) fun d hd => by
    simp only [List.mem_cons, List.not_mem_nil, or_false, or_self] at hd
    rw [hd]; exact okN_str).ok
  unfold law_b1_4
  generalize F_format_machine = F at k1 ⊢
  generalize F_read_machine = G at k2 ⊢
  generalize F_Machine_eq = H at k3 ⊢
  generalize pt l R ns = p at k1 k2 o1 ⊢
  repeat' decreasing_trivial_pre_omega
  refine wF_ret k1 ?_
  repeat' decreasing_trivial_pre_omega
  refine wF_ret k1 ?_
  repeat' decreasing_trivial_pre_omega
  refine wB_t (eqv_l2 eqv_refl_str) ?_
  repeat' decreasing_trivial_pre_omega
  refine wF_ret k2 ?_
  repeat' decreasing_trivial_pre_omega
  refine wF_ret k3 ?_
  repeat' decreasing_trivial_pre_omega
  refine wF_ret k2 ?_
  repeat' decreasing_trivial_pre_omega
  refine wF_ret k3 ?_
  repeat' decreasing_trivial_pre_omega
  rfl
theorem s5 (h : Ok57 l R ns) : wS (law_b1_5 (St i x3 x4 (some (.fz (plD l R ns))) (some (.fz (Mc l R ns))) (some (.fz (.str (tx (pt l R ns))))) x8 t)) (Pn fun r => r = St i x3 x4 (some (.fz (plD l R ns))) (some (.fz (Mc l R ns))) (some (.fz (.str (tx (pt l R ns))))) (some (.fz (Mc l R ns))) t) := by
  have k2 := read2_R h
  unfold law_b1_5
  generalize F_read_machine = G at k2 ⊢
  generalize pt l R ns = p at k2 ⊢
  repeat' decreasing_trivial_pre_omega
  refine wF_ret k2 ?_
  repeat' decreasing_trivial_pre_omega
  rfl
theorem s6 (h : Ok57 l R ns) : wS (law_b1_6 (St i x3 x4 (some (.fz (plD l R ns))) x6 (some (.fz (.str (tx (pt l R ns))))) (some (.fz (Mc l R ns))) t)) (Pn fun r => r = St i x3 x4 (some (.fz (plD l R ns))) x6 (some (.fz (.str (tx (pt l R ns))))) (some (.fz (Mc l R ns))) t) := by
  have k1 := format2_R h
  have k3 := letters_R (l := l) (R := R) (ns := ns)
  have k4 := rows_R (l := l) (R := R) (ns := ns)
  have k5 := lets_R (l := l) (R := R) (ns := ns)
  unfold law_b1_6
  generalize F_format_machine = F at k1 ⊢
  generalize F_Machine_letters = G1 at k3 ⊢
  generalize F_Machine_rows = G2 at k4 ⊢
  generalize F_Machine_lets = G3 at k5 ⊢
  generalize pt l R ns = p at k1 ⊢
  repeat' decreasing_trivial_pre_omega
  refine wF_ret k3 ?_
  repeat' decreasing_trivial_pre_omega
  refine wF_ret k4 ?_
  repeat' decreasing_trivial_pre_omega
  refine wF_ret k5 ?_
  repeat' decreasing_trivial_pre_omega
  refine ⟨⟨pl_ok, pl_ok⟩, ?_⟩
  repeat' decreasing_trivial_pre_omega
  refine wB_t pl_eqv ?_
  repeat' decreasing_trivial_pre_omega
  refine wF_ret k1 ?_
  repeat' decreasing_trivial_pre_omega
  refine wB_t (by simp) ?_
  repeat' decreasing_trivial_pre_omega
  rfl
theorem s_all (ok : TapeOk t = true) : wS (law_b1 (St i x3 x4 x5 x6 x7 x8 t)) (Pn fun r => ∃ y4 y5 y6 y7 y8 t', TapeOk t' = true ∧ r = St i x3 y4 y5 y6 y7 y8 t') := by
  rw [law_b1_eq]
  refine seqP (s1 ok) fun r h => ?_
  obtain ⟨l, t1, o1, hl, rfl⟩ := h
  refine seqP (s2 o1 hl) fun r h => ?_
  obtain ⟨R, ns, t2, o2, ho, _, rfl, rfl⟩ := h
  refine seqP (s3 ho) fun r h => ?_
  subst h
  refine seqP (s4 ho) fun r h => ?_
  subst h
  refine seqP (s5 ho) fun r h => ?_
  subst h
  refine cutP (s6 ho) fun r h => ?_
  subst h
  exact ⟨_, _, _, _, _, t2, o2, rfl⟩
end
theorem law_ok : LawOk 6 [] B_law G_law where
  turn := fun i t _ _ ok => by
    have key : wS (B_law (lawS 6 [] i t)) ⟨fun r => r.sl[0]? = some (some (.scr [])) ∧ r.sl.length = 9, fun _ _ => False, fun _ => False, fun _ => False, XN⟩ := by
      show wS (B_law (St i none none none none none none t)) _
      unfold B_law
      have key := fun (i : Int) (x3 x4 x5 x6 x7 x8 : Option SV) (t : Int × Int) (o : TapeOk t = true) => @s_all i x3 x4 x5 x6 x7 x8 t o
      generalize law_b1 = BB at key ⊢
      repeat' decreasing_trivial_pre_omega
      refine wFor_inv (fun j r => ∃ x3 x4 x5 x6 x7 x8 t', TapeOk t' = true ∧ r = St i x3 x4 x5 x6 x7 x8 t') ⟨none, none, none, none, none, none, t, ok, rfl⟩ ?_ ?_
      · rintro j d r hd ⟨x3, x4, x5, x6, x7, x8, t1, o1, rfl⟩
        repeat' decreasing_trivial_pre_omega
        refine cutP (key _ _ _ _ _ _ _ _ o1) fun r h => ?_
        obtain ⟨y4, y5, y6, y7, y8, t2, o2, rfl⟩ := h
        exact ⟨_, _, _, _, _, _, t2, o2, rfl⟩
      · rintro r ⟨x3, x4, x5, x6, x7, x8, t1, o1, rfl⟩
        exact ⟨rfl, rfl⟩
    cases e : B_law (lawS 6 [] i t) with
    | nx r => rw [e] at key; exact ⟨r, rfl, key⟩
    | bk r => rw [e] at key; exact key.elim
    | ct r => rw [e] at key; exact key.elim
    | rt v r => rw [e] at key; exact key.elim
    | exc c f r => rw [e] at key; exact key.elim
    | bad => rw [e] at key; exact key.elim
  last := by
    have h : Ok57 [120] [[0]] [0] := ⟨by decide, by decide, by unfold Tx; decide, by decide, ⟨by decide, by decide⟩, by decide, by decide, by decide, by decide, by decide⟩
    have k1 : Ret (mkO F_Machine_init_v2 [.str (tx [120]), .list (rowsD [[0]]), .list (natsD [0])]) _ := mach2_R h.l5 h.tx h.asc h.l0 h.rok h.r1 h.r40 h.npw h.nnd (by decide) h.nlt
    have k2 := format2_R h
    have key : QM.wE (G_law (lawE 6 [])) (fun v r => v = .fz (.bool true)) XN := by
      unfold G_law lawE
      simp only [List.replicate]
      generalize mkO F_Machine_init_v2 = F at k1 ⊢
      generalize F_format_machine = G at k2 ⊢
      repeat' decreasing_trivial_pre_omega
      refine wF_ret k1 ?_
      repeat' decreasing_trivial_pre_omega
      refine wF_ret k2 ?_
      repeat' decreasing_trivial_pre_omega
      rfl
    cases e : G_law (lawE 6 []) with
    | ok v r => rw [e] at key; have key : v = _ := key; subst key; exact ⟨r, rfl⟩
    | exc c f r => rw [e] at key; exact key.elim
    | bad => rw [e] at key; exact key.elim
end K57
open PySem PySem.W PyProof.Rows
set_option maxHeartbeats 0 in
theorem PySem.Challenge.cw_scatteredpieces_k57_machines_written_holds : PySem.Challenge.rw_scatteredpieces_k57_machines_written.Holds := by
  w_on; o_law; k_head; (case hw => w_witness2)
  k_fill
  refine QL.walk_G (l := PySem.Challenge.rw_scatteredpieces_k57_machines_written) (n := 63) (k := 7) (x := "script") (sp := fun w => QL.spLaw _ []) rfl (by decide) rfl ⟨rfl, by decide, by decide⟩ (fun w h Y => PySem.W.kIn_of Y) ?F (fun _ _ a ns hl hb hO hS => QL.spLaw_of hl hb hO hS)
  case F =>
    intro w mg fa h KX G hmg
    refine' K57.all_mk KX G hmg K57.law_ok ?u0_Machine ?u1_Machine ?u2_Machine ?u3_Machine ?u4_Machine ?u5_Machine ?u6_Machine ?u7_Machine ?u8_Machine ?ua_Machine ?ub_Machine ?uc_Machine ?ud_Machine ?ue_Machine ?uf_Machine ?ug_Machine ?uh_Machine ?us_Machine ?uj_Machine_ends ?uj_Machine_lines ?uj_Machine_signs ?a0 ?l0 ?c0 ?k0 ?a1 ?g1 ?t1 ?r1 ?l1 ?c1 ?k1 ?a2 ?g2 ?t2 ?r2 ?l2 ?c2 ?k2 ?a3 ?g3 ?t3 ?r3 ?l3 ?c3 ?k3 ?a4 ?l4 ?c4 ?k4 ?a5 ?l5 ?c5 ?k5 ?a6 ?l6 ?c6 ?k6 ?a7 ?l7 ?c7 ?k7 ?a8 ?l8 ?c8 ?k8 ?a9 ?l9 ?c9 ?k9 ?a10 ?l10 ?c10 ?k10 ?a11 ?l11 ?c11 ?k11 ?a12 ?l12 ?c12 ?k12 ?a13 ?l13 ?c13 ?k13 ?i13 ?a14 ?l14 ?c14 ?k14 ?a15 ?l15 ?c15 ?k15 ?a16 ?l16 ?c16 ?k16 ?a17 ?l17 ?c17 ?k17 ?a18 ?l18 ?c18 ?k18 ?a19 ?l19 ?c19 ?k19 ?a20 ?l20 ?c20 ?k20 ?i20 ?a21 ?l21 ?c21 ?k21 ?a22 ?l22 ?c22 ?k22 ?z0 ?z1 ?z2 ?z3 ?z4 ?z5 ?z6 ?z7 ?z8 ?z9 ?z10 ?z11 ?z12 ?z13 ?v0 ?v1 ?v2 ?v3
    (case u0_Machine => k_is); (case u1_Machine => k_is); (case u2_Machine => k_is); (case u3_Machine => k_is); (case u4_Machine => k_is); (case u5_Machine => k_is); (case u6_Machine => k_is); (case u7_Machine => k_is); (case u8_Machine => k_is); (case ua_Machine => k_is); (case ub_Machine => k_is); (case uc_Machine => k_is); (case ud_Machine => k_is); (case ue_Machine => k_is); (case uf_Machine => k_is); (case ug_Machine => k_is); (case uh_Machine => k_is); (case us_Machine => k_is); (case uj_Machine_ends => k_is); (case uj_Machine_lines => k_is); (case uj_Machine_signs => k_is); (case a0 => k_is); (case l0 => k_is); (case c0 => k_is); (case k0 => k_is); (case a1 => k_is); (case g1 => k_is); (case t1 => k_is); (case r1 => k_is); (case l1 => k_is); (case c1 => k_is); (case k1 => k_is); (case a2 => k_is); (case g2 => k_is); (case t2 => k_is); (case r2 => k_is); (case l2 => k_is); (case c2 => k_is); (case k2 => k_is); (case a3 => k_is); (case g3 => k_is); (case t3 => k_is); (case r3 => k_is); (case l3 => k_is); (case c3 => k_is); (case k3 => k_is); (case a4 => k_is); (case l4 => k_is); (case c4 => k_is); (case k4 => k_is); (case a5 => k_is); (case l5 => k_is); (case c5 => k_is); (case k5 => k_is); (case a6 => k_is); (case l6 => k_is); (case c6 => k_is); (case k6 => k_is); (case a7 => k_is); (case l7 => k_is); (case c7 => k_is); (case k7 => k_is); (case a8 => k_is); (case l8 => k_is); (case c8 => k_is); (case k8 => k_is); (case a9 => k_is); (case l9 => k_is); (case c9 => k_is); (case k9 => k_is); (case a10 => k_is); (case l10 => k_is); (case c10 => k_is); (case k10 => k_is); (case a11 => k_is); (case l11 => k_is); (case c11 => k_is); (case k11 => k_is); (case a12 => k_is); (case l12 => k_is); (case c12 => k_is); (case k12 => k_is); (case a13 => k_is); (case l13 => k_is); (case c13 => k_is); (case k13 => k_is); (case i13 => k_is); (case a14 => k_is); (case l14 => k_is); (case c14 => k_is); (case k14 => k_is); (case a15 => k_is); (case l15 => k_is); (case c15 => k_is); (case k15 => k_is); (case a16 => k_is); (case l16 => k_is); (case c16 => k_is); (case k16 => k_is); (case a17 => k_is); (case l17 => k_is); (case c17 => k_is); (case k17 => k_is); (case a18 => k_is); (case l18 => k_is); (case c18 => k_is); (case k18 => k_is); (case a19 => k_is); (case l19 => k_is); (case c19 => k_is); (case k19 => k_is); (case a20 => k_is); (case l20 => k_is); (case c20 => k_is); (case k20 => k_is); (case i20 => k_is); (case a21 => k_is); (case l21 => k_is); (case c21 => k_is); (case k21 => k_is); (case a22 => k_is); (case l22 => k_is); (case c22 => k_is); (case k22 => k_is); (case z0 => k_is); (case z1 => k_is); (case z2 => k_is); (case z3 => k_is); (case z4 => k_is); (case z5 => k_is); (case z6 => k_is); (case z7 => k_is); (case z8 => k_is); (case z9 => k_is); (case z10 => k_is); (case z11 => k_is); (case z12 => k_is); (case z13 => k_is); (case v0 => k_is); (case v1 => k_is); (case v2 => k_is); (case v3 => k_is)
