import PyProof.Rows.All
import Wide.All
import OpenK.AllK
import Wide.FinOn
import HandS.ForMost
import HandS.Exc
import HandS.ExcOwn
import HandS.EndBits
import HandS.Lambda
import HandS.Codes
import HandS.IsInst
import HandS.StrMore
import HandS.Wide
import HandS.TupLe
import KE.DataEq
import HandS.TupAny
import PyProof.StrLawsIn
import PyProof.EqKinds
import PyProof.NeKinds
import HandS.Conv
import HandS.Style
import KE.KRevSl
import HandS.Flow
import HandS.WordsExc
import KE.GoesNew
import HandS.Zip
import PyProof.Rows.Range3
import KE.IntBitsLaws
import HandS.TupSets
import HandS.SetTxtIn
import PyProof.StrWalks
import PyProof.Rows.SortShellAny
import KE.KDictZip
import HandS.OwnIter
import HandS.Deep
import PyProof.ReprRoads
import PyProof.CallFns
import PyProof.ListStr
import HandS.More
import HandS.SortInts
import KE.KDictDisplayH
import PyProof.TupleOfStr
import KE.KExcSuper
import HandS.ExcInit
import HandS.ExcSuper
import HandS.Nested
import HandS.TryMany
import HandS.ExcField
import HandS.ExcIs
import KE.KNestM
import HandS.EndTab
import HandS.Dict
import KE.SortData
import HandS.Property
import HandS.Star
import KE.KOpsOwn
import HandS.OwnEq
import PyProof.InstNe
import HandS.TupMul
import KE.KDictPairs
import KE.KDictKeyed
import PySem.Challenge.RW_scatteredpieces_k19_likeness_by_hand
import PyProof.ReprLen
set_option Elab.async false
set_option linter.all false
set_option maxRecDepth 100000
set_option maxHeartbeats 1000000
namespace QL
/-- the name that every code object of the table at P bears (the lambdas of a law's text lie in one def) -/
def lamName (P : PySem.Addr) : PySem.Str := "law.<locals>.<lambda>"
end QL
namespace QL
open PySem PySem.Spec L2
/-- data of the program: PyData -/
abbrev D := PyData
def kD : Key → D
  | .inl i => .int i
  | .inr x => .str x
/-- the script: known to the object, or of the written part -/
def Scr (K : PySem.W.Frag) (H : Hp) (a : Addr) (xs : List V) : Prop := (∃ o, H a = some (.frz o (.lst xs))) ∨
  ∃ (o : Obj) (its : Array Value) (n : Nat), K.lookup a = some o ∧ o.cls = .type "list" ∧ o.dict = none ∧ o.data = .seq its n ∧ its.size ≤ sizeLine ∧ Vals xs its.toList
theorem Scr.seq {K : PySem.W.Frag} {H : Hp} {a : Addr} {xs : List V} (h : Scr K H a xs) : SqL K H a xs := by
  rcases h with ⟨o, h⟩ | h
  · exact .inl (.inr ⟨o, h⟩)
  · exact .inr h
/-- the table at P, each of its code objects with the table's name -/
def TabL (H : Hp) (P : Addr) : Prop := LamX.TabS H P (lamName P)
def TabsL (T : List Addr) (H : Hp) : Prop := ∀ P ∈ T, TabL H P
theorem TabL.ext {H H' : Hp} {P : Addr} (t : TabL H P) (e : ∀ b o, H b = some o → H' b = some o) : TabL H' P := LamX.TabS.ext t e
/-- the ghosts: where the tape stands, where the script stands, its numbers -/
structure Gh where
  T : Option Addr
  sc : Addr
  ns : List Int
  tb : List Addr
/-- a tuple, just so -/
def TupAt (_ : PySem.W.Frag) (H : Hp) (a : Addr) (vs : List V) : Prop := H a = some (.tup vs)
theorem TupAt.sq {K : PySem.W.Frag} {H : Hp} {a : Addr} {vs : List V} (h : TupAt K H a vs) : SqT K H a vs := .inl (.inl h)
/-- a number that cannot be shown: it marks an object's data -/
def bigI : D := .int (2 ^ 2000)
/-- an own class whose instances are data -/
structure ObC (K : PySem.W.Frag) (c : Str) (C : Addr) : Prop where
  ns : PySem.W.nsIn K mainGlobals c = some (some (.ref C))
  ic : C8.InsC K C
  no : ∀ T ∈ ["str", "int", "bool", "list", "tuple", "dict"], PySem.W.kitOne K (.ref C) (.type T) = some false
variable (K : PySem.W.Frag)
mutual
/-- frozen data: the value v stands for d in H; no list or dict of it is one of O -/
def R (O : List Addr) (H : Hp) : D → V → Prop
  | .none, v => v = .non
  | .bool b, v => v = .bl b
  | .int i, v => v = .int i
  | .str x, v => v = .str x
  | .list ds, v => ∃ a vs, v = .ref a ∧ a ∉ O ∧ H a = some (.lst vs) ∧ Rs O H ds vs
  | .tuple ds, v => ∃ a vs, v = .ref a ∧ TupAt K H a vs ∧ Rs O H ds vs
  | .dict kvs, v => ∃ a, v = .ref a ∧ a ∉ O ∧ ((∃ ws, Rd H a (.dK ws) ∧ RK O H kvs ws) ∨ (∃ ws, Rd H a (.dT ws) ∧ RT O H kvs ws) ∨ (∃ C dx ws, H a = some (.ins C dx ws) ∧ RO' O H C kvs ws))
def Rs (O : List Addr) (H : Hp) : List D → List V → Prop
  | [], vs => vs = []
  | d :: ds, vs => ∃ v ws, vs = v :: ws ∧ R O H d v ∧ Rs O H ds ws
def RK (O : List Addr) (H : Hp) : List (D × D) → List (Key × V) → Prop
  | [], ws => ws = []
  | (k, d) :: r, ws => ∃ c v ws', ws = (c, v) :: ws' ∧ k = kD c ∧ R O H d v ∧ RK O H r ws'
def RT (O : List Addr) (H : Hp) : List (D × D) → List (List Key × V) → Prop
  | [], ws => ws = []
  | (k, d) :: r, ws => ∃ c v ws', ws = (c, v) :: ws' ∧ k = .tuple (c.map kD) ∧ R O H d v ∧ RT O H r ws'
/-- the fields of an object -/
def RF (O : List Addr) (H : Hp) : List (D × D) → List (Str × V) → Prop
  | [], ws => ws = []
  | (k, d) :: r, ws => ∃ x v ws', ws = (x, v) :: ws' ∧ k = .str x ∧ R O H d v ∧ RF O H r ws'
/-- an object of the class at C: marked by a key that no dict has -/
def RO' (O : List Addr) (H : Hp) (C : Addr) : List (D × D) → List (Str × V) → Prop
  | [], _ => False
  | (k, d) :: r, ws => k = .list [bigI] ∧ (∃ c, d = .str c ∧ ObC K c C) ∧ RF O H r ws
end
/-- what a slot may own: a list, a dict -/
def LD : HO → Prop
  | .lst _ => True
  | .dK _ => True
  | .dT _ => True
  | .ins _ _ _ => True
  | _ => False
def NoFrz : HO → Prop
  | .frz _ _ => False
  | .tbl _ => False
  | _ => True
/-- no dict: a dict may be locked while it is walked -/
def Fixd : HO → Prop
  | .tbl _ => False
  | .dK _ => False
  | .dT _ => False
  | .frz _ (.dK _) => False
  | .frz _ (.dT _) => False
  | _ => True
def Own (O : List Addr) (H : Hp) : Prop := ∀ a ∈ O, ∃ o, H a = some o ∧ LD o
def Stab (O : List Addr) (H : Hp) (O' : List Addr) (H' : Hp) : Prop :=
  ∀ a, a ∉ O → H a ≠ none → a ∉ O' ∧ (∀ u, NoFrz u → Rd H a u → Rd H' a u) ∧ ∀ u, Fixd u → H a = some u → H' a = some u
theorem Rd.ne {H : Hp} {a : Addr} {u : HO} (h : Rd H a u) : H a ≠ none := by
  rcases h with h | ⟨o, h⟩ <;> rw [h] <;> simp
theorem Own.ntup {O : List Addr} {H : Hp} (ow : Own O H) {a : Addr} {xs : List V} (h : Rd H a (.tup xs)) : a ∉ O := fun ha => by
  obtain ⟨o, ho, l⟩ := ow a ha
  rcases h with h | ⟨q, h⟩ <;> rw [h] at ho <;> cases ho <;> exact l
section
variable {K : PySem.W.Frag} {O O' : List Addr} {H H' : Hp}
mutual
theorem R.stab (ow : Own O H) (st : Stab O H O' H') : ∀ (d : D) (v : V), R K O H d v → R K O' H' d v
  | .none, v, h => by simpa [R] using h
  | .bool b, v, h => by simpa [R] using h
  | .int i, v, h => by simpa [R] using h
  | .str x, v, h => by simpa [R] using h
  | .list ds, v, h => by
    simp only [R] at h ⊢
    obtain ⟨a, vs, e, n, r, h2⟩ := h
    obtain ⟨n', _, k⟩ := st a n (by rw [r]; simp)
    exact ⟨a, vs, e, n', k _ trivial r, Rs.stab ow st ds vs h2⟩
  | .tuple ds, v, h => by
    simp only [R] at h ⊢
    obtain ⟨a, vs, e, h1, h2⟩ := h
    refine ⟨a, vs, e, ?_, Rs.stab ow st ds vs h2⟩
    obtain ⟨n', _, k⟩ := st a (ow.ntup (.inl h1)) (by rw [show H a = _ from h1]; simp)
    exact k _ trivial h1
  | .dict kvs, v, h => by
    simp only [R] at h ⊢
    obtain ⟨a, e, n, h⟩ := h
    rcases h with ⟨ws, r, h⟩ | ⟨ws, r, h⟩ | ⟨C, dx, ws, r, h⟩
    · obtain ⟨n', k, _⟩ := st a n (Rd.ne r)
      exact ⟨a, e, n', .inl ⟨ws, k _ trivial r, RK.stab ow st kvs ws h⟩⟩
    · obtain ⟨n', k, _⟩ := st a n (Rd.ne r)
      exact ⟨a, e, n', .inr (.inl ⟨ws, k _ trivial r, RT.stab ow st kvs ws h⟩)⟩
    · obtain ⟨n', _, k⟩ := st a n (by rw [r]; simp)
      exact ⟨a, e, n', .inr (.inr ⟨C, dx, ws, k _ trivial r, RO'.stab ow st C kvs ws h⟩)⟩
theorem Rs.stab (ow : Own O H) (st : Stab O H O' H') : ∀ (ds : List D) (vs : List V), Rs K O H ds vs → Rs K O' H' ds vs
  | [], vs, h => by simpa [Rs] using h
  | d :: ds, vs, h => by
    simp only [Rs] at h ⊢
    obtain ⟨v, ws, e, h1, h2⟩ := h
    exact ⟨v, ws, e, R.stab ow st d v h1, Rs.stab ow st ds ws h2⟩
theorem RK.stab (ow : Own O H) (st : Stab O H O' H') : ∀ (ds : List (D × D)) (vs : List (Key × V)), RK K O H ds vs → RK K O' H' ds vs
  | [], vs, h => by simpa [RK] using h
  | (k, d) :: ds, vs, h => by
    simp only [RK] at h ⊢
    obtain ⟨c, v, ws, e, h0, h1, h2⟩ := h
    exact ⟨c, v, ws, e, h0, R.stab ow st d v h1, RK.stab ow st ds ws h2⟩
theorem RT.stab (ow : Own O H) (st : Stab O H O' H') : ∀ (ds : List (D × D)) (vs : List (List Key × V)), RT K O H ds vs → RT K O' H' ds vs
  | [], vs, h => by simpa [RT] using h
  | (k, d) :: ds, vs, h => by
    simp only [RT] at h ⊢
    obtain ⟨c, v, ws, e, h0, h1, h2⟩ := h
    exact ⟨c, v, ws, e, h0, R.stab ow st d v h1, RT.stab ow st ds ws h2⟩
theorem RF.stab (ow : Own O H) (st : Stab O H O' H') : ∀ (ds : List (D × D)) (vs : List (Str × V)), RF K O H ds vs → RF K O' H' ds vs
  | [], vs, h => by simpa [RF] using h
  | (k, d) :: ds, vs, h => by
    simp only [RF] at h ⊢
    obtain ⟨c, v, ws, e, h0, h1, h2⟩ := h
    exact ⟨c, v, ws, e, h0, R.stab ow st d v h1, RF.stab ow st ds ws h2⟩
theorem RO'.stab (ow : Own O H) (st : Stab O H O' H') (C : Addr) : ∀ (ds : List (D × D)) (vs : List (Str × V)), RO' K O H C ds vs → RO' K O' H' C ds vs
  | [], vs, h => by simp only [RO'] at h
  | (k, d) :: ds, vs, h => by
    simp only [RO'] at h ⊢
    exact ⟨h.1, h.2.1, RF.stab ow st ds vs h.2.2⟩
end
theorem Stab.weak (h : ∀ a ∈ O', a ∈ O) (hk : ∀ a o, H a = some o → H' a = some o) : Stab O H O' H' := fun a n e =>
  ⟨fun z => n (h a z), fun u _ r => by
    rcases r with r | ⟨o, r⟩
    · exact .inl (hk _ _ r)
    · exact .inr ⟨o, hk _ _ r⟩, fun u _ q => hk _ _ q⟩
/-- the view: whatever is owned -/
theorem R.view (ow : Own O H) {d : D} {v : V} (h : R K O H d v) : R K [] H d v := R.stab ow (Stab.weak (by intro a z; cases z) (fun _ _ e => e)) d v h
end
/-- what a slot, an expression holds: frozen data, or an own list or dict, or the tape -/
inductive SV where
  | fz (d : D) | ol (xs : List D) | od (kvs : List (D × D)) | ot (kvs : List (D × D)) | tape | scr (tb : List Addr) | ob (c : Str) (fs : List (D × D))
/-- an object as data -/
abbrev obD (c : Str) (fs : List (D × D)) : D := .dict ((.list [bigI], .str c) :: fs)
def SV.view : SV → Option D
  | .fz d => some d
  | .ol xs => some (.list xs)
  | .od kvs => some (.dict kvs)
  | .ot kvs => some (.dict kvs)
  | .tape => none
  | .scr _ => none
  | .ob c fs => some (obD c fs)
/-- .. seen by others, too: frozen -/
def SV.frz : SV → SV
  | .fz d => .fz d
  | .ol xs => .fz (.list xs)
  | .od kvs => .fz (.dict kvs)
  | .ot kvs => .fz (.dict kvs)
  | .tape => .tape
  | .scr t => .scr t
  | .ob c fs => .fz (obD c fs)
def SVR (γ : Gh) (O : List Addr) (H : Hp) : SV → V → List Addr → Prop
  | .fz d, v, fp => R K O H d v ∧ fp = []
  | .ol xs, v, fp => ∃ a vs, v = .ref a ∧ H a = some (.lst vs) ∧ Rs K O H xs vs ∧ fp = [a]
  | .od kvs, v, fp => ∃ a ws, v = .ref a ∧ H a = some (.dK ws) ∧ RK K O H kvs ws ∧ fp = [a]
  | .ot kvs, v, fp => ∃ a ws, v = .ref a ∧ H a = some (.dT ws) ∧ RT K O H kvs ws ∧ fp = [a]
  | .tape, v, fp => (∃ a, γ.T = some a ∧ v = .ref a) ∧ fp = []
  | .scr t, v, fp => (v = .ref γ.sc ∧ t = γ.tb ∧ Scr K H γ.sc (γ.ns.map V.int)) ∧ fp = []
  | .ob c kvs, v, fp => ∃ C dx ws, v = .ref γ.sc ∧ H γ.sc = some (.ins C dx ws) ∧ RF K O H kvs ws ∧ fp = [γ.sc] ∧ ObC K c C
def Slots (γ : Gh) (O : List Addr) (H : Hp) : List (Option SV) → St → List Addr → Prop
  | [], σ, fp => σ = [] ∧ fp = []
  | none :: r, σ, fp => ∃ x σ', σ = x :: σ' ∧ Slots γ O H r σ' fp
  | some s :: r, σ, fp => ∃ v σ' f1 f2, σ = some v :: σ' ∧ fp = f1 ++ f2 ∧ SVR K γ O H s v f1 ∧ Slots γ O H r σ' f2
/-- the tape's dict -/
def tapeO (t : Int × Int) : HO := .dK [(.inr (Str.ofString "digits"), .int t.1), (.inr (Str.ofString "mixed"), .int t.2)]
def TapeR (γ : Gh) (H : Hp) : Option (Int × Int) → List Addr → Prop
  | none, fp => fp = []
  | some t, fp => ∃ a, γ.T = some a ∧ H a = some (tapeO t) ∧ fp = [a]
/-- the state of the mirror: the slots, the tape -/
structure S where
  sl : List (Option SV)
  tp : Option (Int × Int)
structure Good (γ : Gh) (Oc : List Addr) (r : S) (σ : St) (H : Hp) (fs : List Addr) : Prop where
  sp : ∃ f1 f2, fs = f1 ++ f2 ∧ Slots K γ (fs ++ Oc) H r.sl σ f1 ∧ TapeR γ H r.tp f2
  nd : (fs ++ Oc).Nodup
  ow : Own (fs ++ Oc) H
  tt : (γ.T ≠ none → r.tp ≠ none) ∧ TabsL γ.tb H
/-- the view: the top may be one's own, what stands in it is frozen -/
def RE (γ : Gh) (O : List Addr) (H : Hp) (d : D) (v : V) : Prop := match d with
  | .list ds => ∃ a vs, v = .ref a ∧ γ.T ≠ some a ∧ H a = some (.lst vs) ∧ Rs K O H ds vs
  | .dict kvs => ∃ a, v = .ref a ∧ γ.T ≠ some a ∧ ((∃ ws, Rd H a (.dK ws) ∧ RK K O H kvs ws) ∨ (∃ ws, Rd H a (.dT ws) ∧ RT K O H kvs ws) ∨ (∃ C dx ws, H a = some (.ins C dx ws) ∧ RO' K O H C kvs ws))
  | d => R K O H d v
section
variable {K : PySem.W.Frag} {γ : Gh} {O O' : List Addr} {H H' : Hp}
theorem SVR.stab (ow : Own O H) (st : Stab O H O' H') {x : SV} {v : V} {fp : List Addr} (hfp : ∀ a ∈ fp, H' a = H a) (h : SVR K γ O H x v fp) : SVR K γ O' H' x v fp := by
  cases x with
  | fz d => exact ⟨R.stab ow st _ _ h.1, h.2⟩
  | ol xs => obtain ⟨a, vs, e, h1, h2, h3⟩ := h; exact ⟨a, vs, e, (hfp a (by rw [h3]; simp)).trans h1, Rs.stab ow st _ _ h2, h3⟩
  | od xs => obtain ⟨a, vs, e, h1, h2, h3⟩ := h; exact ⟨a, vs, e, (hfp a (by rw [h3]; simp)).trans h1, RK.stab ow st _ _ h2, h3⟩
  | ot xs => obtain ⟨a, vs, e, h1, h2, h3⟩ := h; exact ⟨a, vs, e, (hfp a (by rw [h3]; simp)).trans h1, RT.stab ow st _ _ h2, h3⟩
  | ob c xs => obtain ⟨C, dx, vs, e, h1, h2, h3, h4⟩ := h; exact ⟨C, dx, vs, e, (hfp γ.sc (by rw [h3]; simp)).trans h1, RF.stab ow st _ _ h2, h3, h4⟩
  | tape => exact h
  | scr =>
    obtain ⟨⟨e, et, q⟩, z⟩ := h
    refine ⟨⟨e, et, ?_⟩, z⟩
    rcases q with ⟨u, q⟩ | q
    · have n : γ.sc ∉ O := fun hm => by
        obtain ⟨o, ho, l⟩ := ow _ hm
        rw [q] at ho; cases ho; exact l
      exact .inl ⟨u, (st _ n (by rw [q]; simp)).2.2 _ trivial q⟩
    · exact .inr q
theorem Slots.stab (ow : Own O H) (st : Stab O H O' H') : ∀ {sl : List (Option SV)} {σ : St} {fp : List Addr}, (∀ a ∈ fp, H' a = H a) → Slots K γ O H sl σ fp → Slots K γ O' H' sl σ fp
  | [], σ, fp, _, h => h
  | none :: r, σ, fp, hf, h => by
    obtain ⟨x, σ', e, h⟩ := h
    exact ⟨x, σ', e, Slots.stab ow st hf h⟩
  | some s :: r, σ, fp, hf, h => by
    obtain ⟨v, σ', f1, f2, e, e2, h1, h2⟩ := h
    subst e2
    exact ⟨v, σ', f1, f2, e, rfl, h1.stab ow st fun a ha => hf a (List.mem_append_left _ ha), Slots.stab ow st (fun a ha => hf a (List.mem_append_right _ ha)) h2⟩
theorem Slots.len : ∀ {sl : List (Option SV)} {σ : St} {fp : List Addr}, Slots K γ O H sl σ fp → σ.length = sl.length
  | [], σ, fp, h => by rw [h.1]; rfl
  | none :: r, σ, fp, h => by
    obtain ⟨x, σ', e, h⟩ := h
    rw [e, List.length_cons, List.length_cons, h.len]
  | some s :: r, σ, fp, h => by
    obtain ⟨v, σ', f1, f2, e, e2, h1, h2⟩ := h
    rw [e, List.length_cons, List.length_cons, h2.len]
/-- the value's footprint lies in the slots' -/
theorem Slots.at : ∀ {sl : List (Option SV)} {σ : St} {fp : List Addr} {i : Nat} {x : SV}, Slots K γ O H sl σ fp → sl[i]? = some (some x) →
    ∃ v f1 f2 f3, σ[i]? = some (some v) ∧ fp = f1 ++ (f2 ++ f3) ∧ SVR K γ O H x v f2
  | [], σ, fp, i, x, h, e => by simp at e
  | none :: r, σ, fp, 0, x, h, e => by simp at e
  | none :: r, σ, fp, i + 1, x, h, e => by
    obtain ⟨y, σ', e1, h⟩ := h
    obtain ⟨v, f1, f2, f3, a, b, c⟩ := h.at (i := i) (by simpa using e)
    exact ⟨v, f1, f2, f3, by rw [e1]; simpa using a, b, c⟩
  | some s :: r, σ, fp, 0, x, h, e => by
    obtain ⟨v, σ', f1, f2, e1, e2, h1, h2⟩ := h
    simp at e; subst e
    exact ⟨v, [], f1, f2, by rw [e1]; rfl, by rw [e2]; rfl, h1⟩
  | some s :: r, σ, fp, i + 1, x, h, e => by
    obtain ⟨v, σ', f1, f2, e1, e2, h1, h2⟩ := h
    obtain ⟨v', g1, g2, g3, a, b, c⟩ := h2.at (i := i) (by simpa using e)
    exact ⟨v', f1 ++ g1, g2, g3, by rw [e1]; simpa using a, by rw [e2, b, List.append_assoc], c⟩
/-- a slot's value is exchanged, or let go -/
theorem Slots.upd : ∀ {sl : List (Option SV)} {σ : St} {fp : List Addr} {i : Nat}, Slots K γ O H sl σ fp → i < sl.length →
    ∃ f1 f2 f3, fp = f1 ++ (f2 ++ f3) ∧ (∀ y, sl[i]? = some (some y) → ∃ u, σ[i]? = some (some u) ∧ SVR K γ O H y u f2) ∧
      (∀ {O' : List Addr} {H' : Hp} {x : SV} {v : V} {f : List Addr}, Own O H → Stab O H O' H' → (∀ a ∈ f1 ++ f3, H' a = H a) → SVR K γ O' H' x v f → Slots K γ O' H' (sl.set i (some x)) (σ.set i (some v)) (f1 ++ (f ++ f3))) ∧
      (∀ {O' : List Addr} {H' : Hp}, Own O H → Stab O H O' H' → (∀ a ∈ f1 ++ f3, H' a = H a) → Slots K γ O' H' (sl.set i none) σ (f1 ++ f3))
  | [], σ, fp, i, h, l => by simp at l
  | none :: r, σ, fp, 0, h, l => by
    obtain ⟨y, σ', e1, h⟩ := h
    exact ⟨[], [], fp, rfl, fun y e => by simp at e, fun {O' H' x v f} ow st k hx => ⟨v, σ', f, fp, by rw [e1]; rfl, rfl, hx, h.stab ow st (by simpa using k)⟩, fun ow st k => ⟨y, σ', e1, h.stab ow st (by simpa using k)⟩⟩
  | none :: r, σ, fp, i + 1, h, l => by
    obtain ⟨y, σ', e1, h⟩ := h
    obtain ⟨g1, g2, g3, a, b, c, d⟩ := h.upd (i := i) (by simpa using l)
    exact ⟨g1, g2, g3, a, by rw [e1]; simpa using b, fun {O' H' x v f} ow st k hx => ⟨y, σ'.set i (some v), by rw [e1]; rfl, c ow st k hx⟩, fun ow st k => ⟨y, σ', e1, d ow st k⟩⟩
  | some s :: r, σ, fp, 0, h, l => by
    obtain ⟨u, σ', f1, f2, e1, e2, h1, h2⟩ := h
    exact ⟨[], f1, f2, e2, fun y z => by simp at z; subst z; exact ⟨u, by rw [e1]; rfl, h1⟩, fun {O' H' x v f} ow st k hx => ⟨v, σ', f, f2, by rw [e1]; rfl, rfl, hx, h2.stab ow st (by simpa using k)⟩,
      fun ow st k => ⟨some u, σ', e1, h2.stab ow st (by simpa using k)⟩⟩
  | some s :: r, σ, fp, i + 1, h, l => by
    obtain ⟨u, σ', f1, f2, e1, e2, h1, h2⟩ := h
    obtain ⟨g1, g2, g3, a, b, c, d⟩ := h2.upd (i := i) (by simpa using l)
    refine ⟨f1 ++ g1, g2, g3, by rw [e2, a, List.append_assoc], by rw [e1]; simpa using b, fun {O' H' x v f} ow st k hx => ?_, fun {O' H'} ow st k => ?_⟩
    · exact ⟨u, σ'.set i (some v), f1, g1 ++ (f ++ g3), by rw [e1]; rfl, by rw [List.append_assoc], h1.stab ow st fun a ha => k a (by simp [ha]), c ow st (fun a ha => k a (by simp only [List.mem_append] at ha ⊢; rcases ha with ha | ha <;> simp [ha])) hx⟩
    · exact ⟨u, σ', f1, g1 ++ g3, e1, by rw [List.append_assoc], h1.stab ow st fun a ha => k a (by simp [ha]), d ow st (fun a ha => k a (by simp only [List.mem_append] at ha ⊢; rcases ha with ha | ha <;> simp [ha]))⟩
end
end QL
namespace QL
open PySem PySem.Spec L2
inductive Res (α : Type) where
  | ok (a : α) (s : S)
  | exc (c : Str) (f : List (Str × D)) (s : S)
  | bad
def Res.bind {α β : Type} (r : Res α) (k : α → S → Res β) : Res β :=
  match r with
  | .ok a s => k a s
  | .exc c f s => .exc c f s
  | .bad => .bad
def isTbl : HO → Bool
  | .tbl _ => true
  | _ => false
theorem Fixd.nt {u : HO} (h : Fixd u) : isTbl u = false := by cases u <;> first | rfl | exact h.elim
theorem NoFrz.nt {u : HO} (h : NoFrz u) : isTbl u = false := by cases u <;> first | rfl | exact h.elim
theorem LD.nt {u : HO} (h : LD u) : isTbl u = false := by cases u <;> first | rfl | exact h.elim
/-- known: some object, or a table of code -/
def NN (H : Hp) (x : Addr × Bool) : Prop := match x.2 with
  | false => H x.1 ≠ none
  | true => ∃ ps, H x.1 = some (.tbl ps)
theorem NN.kept {H H' : Hp} (k : ∀ a o, H a = some o → H' a = some o) {x : Addr × Bool} (h : NN H x) : NN H' x := by
  obtain ⟨a, b⟩ := x
  cases b with
  | false =>
    show H' a ≠ none
    have h : H a ≠ none := h
    cases e : H a with
    | none => exact absurd e h
    | some o => rw [k a o e]; simp
  | true =>
    obtain ⟨ps, e⟩ := h
    exact ⟨ps, k _ _ e⟩
theorem NN.of {H : Hp} {a : Addr} {o : HO} (h : H a = some o) : NN H (a, false) := show H a ≠ none by rw [h]; simp
theorem nn_upd {H : Hp} {p : Addr} {o o' : HO} (h : H p = some o) (ht : isTbl o = false) {x : Addr × Bool} (n : NN H x) : NN (upd H p o') x := by
  obtain ⟨a, b⟩ := x
  by_cases e : a = p
  · subst e
    cases b with
    | false => exact NN.of upd_same
    | true =>
      obtain ⟨ps, q⟩ := n
      have q : H a = some (.tbl ps) := q
      rw [h] at q
      cases q
      cases ht
  · cases b with
    | false => show upd H p o' a ≠ none; rw [upd_ne e]; exact n
    | true =>
      obtain ⟨ps, q⟩ := n
      exact ⟨ps, by show upd H p o' a = _; rw [upd_ne e]; exact q⟩
/-- all but tables of code is as before -/
structure SameT (H H' : Hp) : Prop where
  kp : ∀ a o, H a = some o → (ht : isTbl o = false := by rfl) → H' a = some o
  th : ∀ x, NN H x → NN H' x
  tb : ∀ P, TabL H P → TabL H' P
theorem SameT.of {H H' : Hp} (k : ∀ a o, H a = some o → H' a = some o) : SameT H H' := ⟨fun a o e _ => k a o e, fun x h => NN.kept k h, fun P h => h.ext k⟩
theorem SameT.refl (H : Hp) : SameT H H := .of fun _ _ e => e
theorem SameT.trans {H H1 H2 : Hp} (a : SameT H H1) (b : SameT H1 H2) : SameT H H2 := ⟨fun x o e ht => b.kp x o (a.kp x o e ht) ht, fun x h => b.th x (a.th x h), fun P h => b.tb P (a.tb P h)⟩
theorem tabs_upd {H : Hp} {p : Addr} {o o' : HO} (h : H p = some o) (ld : LD o) {P : Addr} (t : TabL H P) : TabL (upd H p o') P := by
  obtain ⟨ps, h1, h2, h3⟩ := t
  have n1 : P ≠ p := fun z => by
    rw [z, h] at h1
    cases h1
    exact ld
  refine ⟨ps, by rw [upd_ne n1]; exact h1, h2, fun pos cv hc => ?_⟩
  obtain ⟨c, e1, e2⟩ := h3 pos cv hc
  have n2 : c ≠ p := fun z => by
    rw [z, h] at e2
    cases e2
    exact ld
  exact ⟨c, e1, by rw [upd_ne n2]; exact e2⟩
instance {H H' : Hp} : Coe (∀ a o, H a = some o → H' a = some o) (SameT H H') := ⟨SameT.of⟩
/-- behind an expression: the slots own no more, all but the tape and tables of code is kept -/
structure Stp (T : Option Addr) (fs : List Addr) (H : Hp) (fs' : List Addr) (H' : Hp) : Prop where
  sub : ∀ a ∈ fs', a ∈ fs
  keep : ∀ a o, H a = some o → (T = some a → a ∉ fs) → (ht : isTbl o = false := by rfl) → H' a = some o
  there : ∀ x, NN H x → NN H' x
  tb : ∀ P, TabL H P → TabL H' P
/-- behind a statement -/
structure Evo (fs : List Addr) (H : Hp) (fs' : List Addr) (H' : Hp) : Prop where
  sub : ∀ a ∈ fs', a ∈ fs ∨ H a = none
  keep : ∀ a o, H a = some o → a ∉ fs → (ht : isTbl o = false := by rfl) → H' a = some o
  there : ∀ x, NN H x → NN H' x
  tb : ∀ P, TabL H P → TabL H' P
section
variable {T : Option Addr} {f0 f1 f2 f3 : List Addr} {H0 H1 H2 H3 : Hp}
theorem Stp.refl (T : Option Addr) (fs : List Addr) (H : Hp) : Stp T fs H fs H := ⟨fun _ h => h, fun _ _ h _ _ => h, fun _ h => h, fun _ h => h⟩
theorem Stp.trans (a : Stp T f0 H0 f1 H1) (b : Stp T f1 H1 f2 H2) : Stp T f0 H0 f2 H2 :=
  ⟨fun x h => a.sub x (b.sub x h), fun x o e n ht => b.keep x o (a.keep x o e n ht) (fun t z => n t (a.sub x z)) ht, fun x h => b.there x (a.there x h), fun P h => b.tb P (a.tb P h)⟩
theorem Stp.evo (a : Stp T f0 H0 f1 H1) : Evo f0 H0 f1 H1 := ⟨fun x h => .inl (a.sub x h), fun x o e n ht => a.keep x o e (fun _ => n) ht, a.there, a.tb⟩
theorem Evo.refl (fs : List Addr) (H : Hp) : Evo fs H fs H := ⟨fun _ h => .inl h, fun _ _ h _ _ => h, fun _ h => h, fun _ h => h⟩
theorem Evo.trans (a : Evo f0 H0 f1 H1) (b : Evo f1 H1 f2 H2) : Evo f0 H0 f2 H2 := by
  refine ⟨fun x h => ?_, fun x o e n ht => b.keep x o (a.keep x o e n ht) (fun z => ?_) ht, fun x h => b.there x (a.there x h), fun P h => b.tb P (a.tb P h)⟩
  · rcases b.sub x h with h | h
    · exact a.sub x h
    · cases e : H0 x with
      | none => exact .inr rfl
      | some o => exact absurd h (a.there (x, false) (NN.of e))
  · rcases a.sub x z with h | h
    · exact n h
    · rw [h] at e; cases e
end
variable (K : PySem.W.Frag) (mg : Str → Option Value)
/-- the fields of an exception, its own dict at d -/
def XR (O : List Addr) (H : Hp) (f : List (Str × D)) (d : Option Addr) : Prop :=
  f = [] ∨ ∃ dd ws, d = some dd ∧ H dd = some (.xd ws) ∧ ws.map (·.1) = f.map (·.1) ∧ Rs K O H (f.map (·.2)) (ws.map (·.2))
/-- an exception of the class c -/
structure XP (γ : Gh) (Oc : List Addr) (r' : S) (σ : St) (H : Hp) (fs : List Addr) (H' : Hp) (c : Str) (f : List (Str × D)) (C : Addr) (d : Option Addr) : Prop where
  ex : ∃ fs', Good K γ Oc r' σ H' fs' ∧ Stp γ.T fs H fs' H' ∧ mg c = some (.ref C) ∧ XR K (fs' ++ Oc) H' f d
abbrev Pst (α β : Type) := Gh → List Addr → S → St → Hp → List Addr → Hp → α → β → Prop
/-- posts: a value; a view; arguments; a test; nothing -/
def PV : Pst SV V := fun γ Oc r' σ H fs H' x v => ∃ fs' fp, Good K γ (fp ++ Oc) r' σ H' fs' ∧ SVR K γ (fs' ++ (fp ++ Oc)) H' x v fp ∧ Stp γ.T fs H fs' H' ∧ ∀ a ∈ fp, H a = none
def PB : Pst D V := fun γ Oc r' σ H fs H' d v => ∃ fs', Good K γ Oc r' σ H' fs' ∧ RE K γ (fs' ++ Oc) H' d v ∧ Stp γ.T fs H fs' H'
def PF : Pst D V := fun γ Oc r' σ H fs H' d v => ∃ fs', Good K γ Oc r' σ H' fs' ∧ R K (fs' ++ Oc) H' d v ∧ Stp γ.T fs H fs' H'
def PL : Pst (List D) (List V) := fun γ Oc r' σ H fs H' ds vs => ∃ fs', Good K γ Oc r' σ H' fs' ∧ Rs K (fs' ++ Oc) H' ds vs ∧ Stp γ.T fs H fs' H'
def PTt : Pst Bool Bool := fun γ Oc r' σ H fs H' b c => ∃ fs', Good K γ Oc r' σ H' fs' ∧ c = b ∧ Stp γ.T fs H fs' H'
def SimAt {α β : Type} (W : WX) (P : Pst α β) (γ : Gh) (Oc : List Addr) (σ : St) (H : Hp) (fs : List Addr) (t : (β → Hp → Prop) → Prop) (r : Res α) : Prop :=
  ∀ Q, match r with
    | .ok x r' => (∀ y H', P γ Oc r' σ H fs H' x y → Q y H') → t Q
    | .exc c f r' => (∀ C d H', XP K mg γ Oc r' σ H fs H' c f C d → W (.ref C) d σ H') → t Q
    | .bad => True
def Sim {α β : Type} (W : WX) (P : Pst α β) (t : St → Hp → (β → Hp → Prop) → Prop) (F : S → Res α) : Prop :=
  ∀ γ Oc r σ H fs, Good K γ Oc r σ H fs → SimAt K mg W P γ Oc σ H fs (t σ H) (F r)
section
variable {K : PySem.W.Frag} {mg : Str → Option Value} {W : WX} {γ : Gh} {Oc : List Addr} {r r1 r2 : S} {σ : St} {H H1 H2 : Hp} {fs fs1 : List Addr}
theorem SimAt.bind {α β α2 δ : Type} {P1 : Pst α β} {P2 : Pst α2 δ} {t1 : (β → Hp → Prop) → Prop} {t2 : β → Hp → (δ → Hp → Prop) → Prop} {x : Res α} {F2 : α → S → Res α2}
    (h1 : SimAt K mg W P1 γ Oc σ H fs t1 x) (h2 : ∀ a r1 y H1, P1 γ Oc r1 σ H fs H1 a y → SimAt K mg W P2 γ Oc σ H fs (t2 y H1) (F2 a r1)) :
    SimAt K mg W P2 γ Oc σ H fs (fun Q => t1 fun y H1 => t2 y H1 Q) (x.bind F2) := by
  intro Q
  cases x with
  | bad => trivial
  | exc c f r' => exact h1 _
  | ok a r1 =>
    have eb : (Res.ok a r1).bind F2 = F2 a r1 := rfl
    rw [eb]
    have k := fun y H1 p => h2 a r1 y H1 p Q
    generalize F2 a r1 = z at k ⊢
    cases z with
    | bad => trivial
    | exc c f r' => exact fun hw => h1 _ fun y H1 p => k y H1 p hw
    | ok b r2 => exact fun hq => h1 _ fun y H1 p => k y H1 p hq
/-- the end of a chain: a value made at once -/
theorem SimAt.ret {α β : Type} {P : Pst α β} {a : α} {t : (β → Hp → Prop) → Prop} (h : ∀ Q, (∀ y H', P γ Oc r σ H fs H' a y → Q y H') → t Q) : SimAt K mg W P γ Oc σ H fs t (.ok a r) := h
/-- what is shown from a later state -/
class PstT {α β : Type} (P : Pst α β) : Prop where
  tr : ∀ {γ Oc r' σ H fs fs1 H1 H' x y}, Stp γ.T fs H fs1 H1 → P γ Oc r' σ H1 fs1 H' x y → P γ Oc r' σ H fs H' x y
theorem Stp.none (s : Stp γ.T fs H fs1 H1) {a : Addr} (h : H1 a = none) : H a = none := by
  cases e : H a with
  | none => rfl
  | some o => exact absurd h (s.there (a, false) (NN.of e))
instance : PstT (PV K) := ⟨fun s ⟨f, p, a, b, c, d⟩ => ⟨f, p, a, b, s.trans c, fun x hx => s.none (d x hx)⟩⟩
instance : PstT (PB K) := ⟨fun s ⟨f, a, b, c⟩ => ⟨f, a, b, s.trans c⟩⟩
instance : PstT (PF K) := ⟨fun s ⟨f, a, b, c⟩ => ⟨f, a, b, s.trans c⟩⟩
instance : PstT (PL K) := ⟨fun s ⟨f, a, b, c⟩ => ⟨f, a, b, s.trans c⟩⟩
instance : PstT (PTt K) := ⟨fun s ⟨f, a, b, c⟩ => ⟨f, a, b, s.trans c⟩⟩
theorem XP.tr {r' : S} {H' : Hp} {c : Str} {f : List (Str × D)} {C : Addr} {d : Option Addr} (s : Stp γ.T fs H fs1 H1) (h : XP K mg γ Oc r' σ H1 fs1 H' c f C d) : XP K mg γ Oc r' σ H fs H' c f C d := by
  obtain ⟨f', a, b, m, x⟩ := h
  exact ⟨f', a, s.trans b, m, x⟩
theorem SimAt.tr {α β : Type} {P : Pst α β} [PstT P] {t : (β → Hp → Prop) → Prop} {x : Res α} (s : Stp γ.T fs H fs1 H1) (h : SimAt K mg W P γ Oc σ H1 fs1 t x) : SimAt K mg W P γ Oc σ H fs t x := by
  intro Q
  have z := h Q
  cases x with
  | bad => trivial
  | exc c f r' => exact fun hw => z fun C d H' p => hw C d H' (p.tr s)
  | ok a r1 => exact fun hq => z fun y H' p => hq y H' (PstT.tr s p)
theorem SimAt.imp {α β : Type} {P : Pst α β} {t t' : (β → Hp → Prop) → Prop} {x : Res α} (h : SimAt K mg W P γ Oc σ H fs t x) (hi : ∀ Q, t Q → t' Q) : SimAt K mg W P γ Oc σ H fs t' x := by
  intro Q
  have z := h Q
  cases x with
  | bad => trivial
  | exc c f r' => exact fun hw => hi _ (z hw)
  | ok a r1 => exact fun hq => hi _ (z hq)
/-- a post is weakened -/
theorem SimAt.post {α β : Type} {P P' : Pst α β} {t : (β → Hp → Prop) → Prop} {x : Res α} (h : SimAt K mg W P γ Oc σ H fs t x) (hp : ∀ r' H' a y, P γ Oc r' σ H fs H' a y → P' γ Oc r' σ H fs H' a y) : SimAt K mg W P' γ Oc σ H fs t x := by
  intro Q
  have z := h Q
  cases x with
  | bad => trivial
  | exc c f r' => exact z
  | ok a r1 => exact fun hq => z fun y H' p => hq y H' (hp _ _ _ _ p)
theorem Good.stabSub {fs' : List Addr} (g : Good K γ Oc r σ H fs) (s : Stp γ.T fs H fs' H1) : Stab (fs ++ Oc) H (fs' ++ Oc) H1 := fun a n e => by
  have nf : a ∉ fs := fun z => n (List.mem_append_left _ z)
  refine ⟨fun z => ?_, fun u hu q => ?_, fun u hu q => s.keep a _ q (fun _ => nf) hu.nt⟩
  · rcases List.mem_append.mp z with z | z
    · exact nf (s.sub a z)
    · exact n (List.mem_append_right _ z)
  · rcases q with q | ⟨o, q⟩
    · exact .inl (s.keep a _ q (fun _ => nf) hu.nt)
    · exact .inr ⟨o, s.keep a _ q fun _ => nf⟩
theorem Evo.stab {fs' : List Addr} (s : Evo fs H fs' H1) : Stab (fs ++ Oc) H (fs' ++ Oc) H1 := fun a n e => by
  have nf : a ∉ fs := fun z => n (List.mem_append_left _ z)
  refine ⟨fun z => ?_, fun u hu q => ?_, fun u hu q => s.keep a _ q nf hu.nt⟩
  · rcases List.mem_append.mp z with z | z
    · rcases s.sub a z with z | z
      · exact nf z
      · exact e z
    · exact n (List.mem_append_right _ z)
  · rcases q with q | ⟨o, q⟩
    · exact .inl (s.keep a _ q nf hu.nt)
    · exact .inr ⟨o, s.keep a _ q nf⟩
/-- the tape is one's own -/
theorem Good.tape (g : Good K γ Oc r σ H fs) {a : Addr} (h : γ.T = some a) : a ∈ fs ∧ ∃ t, r.tp = some t ∧ H a = some (tapeO t) := by
  obtain ⟨⟨f1, f2, e, sl, tp⟩, nd, ow, tt⟩ := g
  cases q : r.tp with
  | none => exact absurd q (tt.1 (by rw [h]; simp))
  | some t =>
    rw [q] at tp
    obtain ⟨b, e1, e2, e3⟩ := tp
    rw [h] at e1; cases e1
    exact ⟨by rw [e, e3]; simp, t, rfl, e2⟩
theorem R.toE (g : Good K γ Oc r σ H fs) {d : D} {v : V} (h : R K (fs ++ Oc) H d v) : RE K γ (fs ++ Oc) H d v := by
  have nt : ∀ a, a ∉ fs ++ Oc → γ.T ≠ some a := fun a n e => n (List.mem_append_left _ (g.tape e).1)
  cases d with
  | list ds =>
    simp only [R] at h
    obtain ⟨a, vs, e, n, q, h2⟩ := h
    exact ⟨a, vs, e, nt a n, q, h2⟩
  | dict kvs =>
    simp only [R] at h
    obtain ⟨a, e, n, h⟩ := h
    exact ⟨a, e, nt a n, h⟩
  | none => exact h
  | bool _ => exact h
  | int _ => exact h
  | str _ => exact h
  | tuple _ => exact h
theorem RE.keep {fs' : List Addr} (g : Good K γ Oc r σ H fs) (s : Stp γ.T fs H fs' H1) {d : D} {v : V} (h : RE K γ (fs ++ Oc) H d v) : RE K γ (fs' ++ Oc) H1 d v := by
  have st := g.stabSub s
  have kp : ∀ {a u}, γ.T ≠ some a → Rd H a u → (ht : isTbl u = false := by rfl) → Rd H1 a u := fun {a u} n q ht => by
    rcases q with q | ⟨o, q⟩
    · exact .inl (s.keep a _ q (fun z => absurd z n) ht)
    · exact .inr ⟨o, s.keep a _ q fun z => absurd z n⟩
  cases d with
  | list ds =>
    obtain ⟨a, vs, e, n, q, h2⟩ := h
    exact ⟨a, vs, e, n, s.keep a _ q fun z => absurd z n, Rs.stab g.ow st _ _ h2⟩
  | dict kvs =>
    obtain ⟨a, e, n, h⟩ := h
    refine ⟨a, e, n, ?_⟩
    rcases h with ⟨ws, q, h⟩ | ⟨ws, q, h⟩ | ⟨C, dx, ws, q, h⟩
    · exact .inl ⟨ws, kp n q, RK.stab g.ow st _ _ h⟩
    · exact .inr (.inl ⟨ws, kp n q, RT.stab g.ow st _ _ h⟩)
    · exact .inr (.inr ⟨C, dx, ws, s.keep a _ q fun z => absurd z n, RO'.stab g.ow st C _ _ h⟩)
  | none => exact R.stab g.ow st _ _ h
  | bool _ => exact R.stab g.ow st _ _ h
  | int _ => exact R.stab g.ow st _ _ h
  | str _ => exact R.stab g.ow st _ _ h
  | tuple _ => exact R.stab g.ow st _ _ h
/-- to be read whole -/
theorem RE.all {O : List Addr} (ow : Own O H) {d : D} {v : V} (h : RE K γ O H d v) : R K [] H d v := by
  have st : Stab O H [] H := Stab.weak (by intro a z; cases z) (fun _ _ e => e)
  cases d with
  | list ds =>
    obtain ⟨a, vs, e, n, q, h2⟩ := h
    simp only [R]
    exact ⟨a, vs, e, by simp, q, Rs.stab ow st _ _ h2⟩
  | dict kvs =>
    obtain ⟨a, e, n, h⟩ := h
    simp only [R]
    refine ⟨a, e, by simp, ?_⟩
    rcases h with ⟨ws, q, h⟩ | ⟨ws, q, h⟩ | ⟨C, dx, ws, q, h⟩
    · exact .inl ⟨ws, q, RK.stab ow st _ _ h⟩
    · exact .inr (.inl ⟨ws, q, RT.stab ow st _ _ h⟩)
    · exact .inr (.inr ⟨C, dx, ws, q, RO'.stab ow st C _ _ h⟩)
  | none => exact R.stab ow st _ _ h
  | bool _ => exact R.stab ow st _ _ h
  | int _ => exact R.stab ow st _ _ h
  | str _ => exact R.stab ow st _ _ h
  | tuple _ => exact R.stab ow st _ _ h
theorem Good.slotE (g : Good K γ Oc r σ H fs) {i : Nat} {x : SV} {d : D} (h : r.sl[i]? = some (some x)) (hd : x.view = some d) : ∃ v, σ[i]? = some (some v) ∧ RE K γ (fs ++ Oc) H d v := by
  obtain ⟨⟨f1, f2, e, sl, tp⟩, nd, ow, tt⟩ := id g
  obtain ⟨v, a1, a2, a3, e1, e2, e3⟩ := sl.at h
  refine ⟨v, e1, ?_⟩
  have own : ∀ a, a2 = [a] → γ.T ≠ some a := fun a ea hT => by
    obtain ⟨hm, t, q1, q2⟩ := g.tape hT
    rw [q1] at tp
    obtain ⟨b, b1, b2, b3⟩ := tp
    rw [hT] at b1; cases b1
    have n1 := (List.nodup_append.mp nd).1
    rw [e] at n1
    have n2 := (List.nodup_append.mp n1).2.2
    exact n2 a (by rw [e2, ea]; simp) a (by rw [b3]; simp) rfl
  cases x with
  | fz d' =>
    simp only [SV.view, Option.some.injEq] at hd
    subst hd
    exact R.toE g e3.1
  | ol xs =>
    simp only [SV.view, Option.some.injEq] at hd
    subst hd
    obtain ⟨a, vs, q1, q2, q3, q4⟩ := e3
    exact ⟨a, vs, q1, own a q4, q2, q3⟩
  | od xs =>
    simp only [SV.view, Option.some.injEq] at hd
    subst hd
    obtain ⟨a, vs, q1, q2, q3, q4⟩ := e3
    exact ⟨a, q1, own a q4, .inl ⟨vs, .inl q2, q3⟩⟩
  | ot xs =>
    simp only [SV.view, Option.some.injEq] at hd
    subst hd
    obtain ⟨a, vs, q1, q2, q3, q4⟩ := e3
    exact ⟨a, q1, own a q4, .inr (.inl ⟨vs, .inl q2, q3⟩)⟩
  | tape => simp [SV.view] at hd
  | scr => simp [SV.view] at hd
  | ob c xs =>
    simp only [SV.view, Option.some.injEq] at hd
    subst hd
    obtain ⟨C, dx, vs, q1, q2, q3, q4, q5⟩ := e3
    exact ⟨_, q1, own _ q4, .inr (.inr ⟨C, dx, vs, q2, by simp only [RO']; exact ⟨trivial, ⟨c, rfl, q5⟩, q3⟩⟩)⟩
theorem Own.mono {O O' : List Addr} (h : Own O H) (s : ∀ a ∈ O', a ∈ O) : Own O' H := fun a z => h a (s a z)
/-- a temporary is let go -/
theorem Good.drop {fp : List Addr} (g : Good K γ (fp ++ Oc) r σ H fs) : Good K γ Oc r σ H fs := by
  obtain ⟨⟨f1, f2, e, sl, tp⟩, nd, ow, tt⟩ := g
  have sub : ∀ a ∈ fs ++ Oc, a ∈ fs ++ (fp ++ Oc) := fun a z => by
    rcases List.mem_append.mp z with z | z
    · exact List.mem_append_left _ z
    · exact List.mem_append_right _ (List.mem_append_right _ z)
  refine ⟨⟨f1, f2, e, sl.stab ow (Stab.weak sub fun _ _ z => z) (fun _ _ => rfl), tp⟩, ?_, ow.mono sub, tt⟩
  exact nd.sublist (List.Sublist.append (List.Sublist.refl _) (List.sublist_append_right _ _))
/-- a value, frozen -/
theorem SVR.frz {fp : List Addr} {x : SV} {v : V} (nd : (fs ++ (fp ++ Oc)).Nodup) (ow : Own (fs ++ (fp ++ Oc)) H) (h : SVR K γ (fs ++ (fp ++ Oc)) H x v fp) :
    match x.view with | some d => R K (fs ++ Oc) H d v | none => True := by
  have sub : ∀ a ∈ fs ++ Oc, a ∈ fs ++ (fp ++ Oc) := fun a z => by
    rcases List.mem_append.mp z with z | z
    · exact List.mem_append_left _ z
    · exact List.mem_append_right _ (List.mem_append_right _ z)
  have st : Stab (fs ++ (fp ++ Oc)) H (fs ++ Oc) H := Stab.weak sub fun _ _ z => z
  have out : ∀ a, fp = [a] → a ∉ fs ++ Oc := fun a e z => by
    subst e
    obtain ⟨n1, n2, n3⟩ := List.nodup_append.mp nd
    obtain ⟨m1, m2, m3⟩ := List.nodup_append.mp n2
    rcases List.mem_append.mp z with z | z
    · exact n3 a z a (by simp) rfl
    · exact m3 a (by simp) a z rfl
  cases x with
  | fz d => exact R.stab ow st _ _ h.1
  | ol xs =>
    obtain ⟨a, vs, e, h1, h2, h3⟩ := h
    show R K (fs ++ Oc) H (.list xs) v
    simp only [R]
    exact ⟨a, vs, e, out a h3, h1, Rs.stab ow st _ _ h2⟩
  | od xs =>
    obtain ⟨a, vs, e, h1, h2, h3⟩ := h
    show R K (fs ++ Oc) H (.dict xs) v
    simp only [R]
    exact ⟨a, e, out a h3, .inl ⟨vs, .inl h1, RK.stab ow st _ _ h2⟩⟩
  | ot xs =>
    obtain ⟨a, vs, e, h1, h2, h3⟩ := h
    show R K (fs ++ Oc) H (.dict xs) v
    simp only [R]
    exact ⟨a, e, out a h3, .inr (.inl ⟨vs, .inl h1, RT.stab ow st _ _ h2⟩)⟩
  | tape => trivial
  | scr => trivial
  | ob c xs =>
    obtain ⟨C, dx, vs, e, h1, h2, h3, h4⟩ := h
    show R K (fs ++ Oc) H (obD c xs) v
    simp only [R]
    exact ⟨_, e, out _ h3, .inr (.inr ⟨C, dx, vs, h1, by simp only [RO']; exact ⟨trivial, ⟨c, rfl, h4⟩, RF.stab ow st _ _ h2⟩⟩)⟩
/-- a value's data -/
def asD {α : Type} (x : SV) (r : S) (k : D → S → Res α) : Res α := match x.view with
  | some d => k d r
  | none => .bad
/-- F, frozen; F, seen -/
def fD (F : S → Res SV) : S → Res D := fun r => (F r).bind fun x r => asD x r fun d r => .ok d r
theorem Sim.fz {t : TE} {F : S → Res SV} (h : Sim K mg W (PV K) t F) : Sim K mg W (PF K) t (fD F) := by
  intro γ Oc r σ H fs g
  refine SimAt.bind (t2 := fun y H1 Q => Q y H1) (h γ Oc r σ H fs g) fun x r1 y H1 p => ?_
  obtain ⟨fs', fp, g', v', s, n⟩ := p
  have z := v'.frz g'.nd g'.ow
  unfold asD
  cases e : x.view with
  | none => exact fun Q => trivial
  | some d =>
    rw [e] at z
    exact fun Q hq => hq y H1 ⟨fs', g'.drop, z, s⟩
theorem Sim.vw {t : TE} {F : S → Res D} (h : Sim K mg W (PF K) t F) : Sim K mg W (PB K) t F := fun γ Oc r σ H fs g =>
  (h γ Oc r σ H fs g).post fun r' H' a y ⟨fs', g', v', s⟩ => ⟨fs', g', R.toE g' v', s⟩
end
end QL
namespace QL
open PySem PySem.Spec L2
section
variable {K : PySem.W.Frag} {mg : Str → Option Value} {W : WX} {γ : Gh} {Oc : List Addr} {r r1 r2 : S} {σ : St} {H H' H1 H2 : Hp} {fs fs1 fp : List Addr}
theorem Stp.same (T : Option Addr) (fs : List Addr) (k : SameT H H') : Stp T fs H fs H' := ⟨fun _ h => h, fun a o e _ ht => k.kp a o e ht, k.th, k.tb⟩
theorem Good.grow (g : Good K γ Oc r σ H fs) (k : SameT H H') (n : ∀ a ∈ fp, H a = none) (nd : fp.Nodup) (ow : Own fp H') : Good K γ (fp ++ Oc) r σ H' fs := by
  obtain ⟨⟨f1, f2, e, sl, tp⟩, nd0, ow0, tt⟩ := id g
  have kk : ∀ a ∈ fs ++ Oc, H' a = H a := fun a h => by
    obtain ⟨o, ho, ld⟩ := ow0 a h
    rw [k.kp a o ho ld.nt, ho]
  have out : ∀ a ∈ fp, a ∉ fs ++ Oc := fun a h z => by
    obtain ⟨o, ho, _⟩ := ow0 a z
    rw [n a h] at ho; cases ho
  have mem : ∀ a, a ∈ fs ++ (fp ++ Oc) → a ∈ fp ∨ a ∈ fs ++ Oc := fun a h => by
    simp only [List.mem_append] at h ⊢
    rcases h with h | h | h
    · exact .inr (.inl h)
    · exact .inl h
    · exact .inr (.inr h)
  have st : Stab (fs ++ Oc) H (fs ++ (fp ++ Oc)) H' := fun a h e => by
    refine ⟨fun z => ?_, fun u hu q => ?_, fun u hu q => k.kp _ _ q hu.nt⟩
    · rcases mem a z with z | z
      · exact e (n a z)
      · exact h z
    · rcases q with q | ⟨o, q⟩
      · exact .inl (k.kp _ _ q hu.nt)
      · exact .inr ⟨o, k.kp _ _ q⟩
  refine ⟨⟨f1, f2, e, sl.stab ow0 st fun a h => kk a (by rw [e]; simp [h]), ?_⟩, ?_, fun a h => ?_, tt.1, fun p hp => k.tb _ (tt.2 p hp)⟩
  · cases q : r.tp with
    | none => rw [q] at tp; exact tp
    | some t =>
      rw [q] at tp
      obtain ⟨a, e1, e2, e3⟩ := tp
      exact ⟨a, e1, k.kp _ _ e2, e3⟩
  · obtain ⟨n1, n2, n3⟩ := List.nodup_append.mp nd0
    refine List.nodup_append.mpr ⟨n1, List.nodup_append.mpr ⟨nd, n2, fun a h b h' q => ?_⟩, fun a h b h' q => ?_⟩
    · subst q; exact out a h (List.mem_append_right _ h')
    · subst q
      rcases List.mem_append.mp h' with z | z
      · exact out a z (List.mem_append_left _ h)
      · exact n3 a h a z rfl
  · rcases mem a h with h | h
    · exact ow a h
    · obtain ⟨o, ho, l⟩ := ow0 a h
      exact ⟨o, k.kp a o ho l.nt, l⟩
theorem upd_kept {p : Addr} {o : HO} (h : H p = none) : ∀ a u, H a = some u → upd H p o a = some u := fun a u e => by
  rw [upd_ne (ne_of_none e h)]; exact e
theorem Rs.sameStab (g : Good K γ Oc r σ H fs) (k : SameT H H') (n : ∀ a ∈ fp, H a = none) : Stab (fs ++ Oc) H (fs ++ (fp ++ Oc)) H' := fun a h e => by
  refine ⟨fun z => ?_, fun u hu q => ?_, fun u hu q => k.kp _ _ q hu.nt⟩
  · simp only [List.mem_append] at z h
    rcases z with z | z | z
    · exact h (.inl z)
    · exact e (n a z)
    · exact h (.inr z)
  · rcases q with q | ⟨o, q⟩
    · exact .inl (k.kp _ _ q hu.nt)
    · exact .inr ⟨o, k.kp _ _ q⟩
inductive OV where
  | fz (d : D) | nl (ds : List D) | nt (ds : List D) | nd (kvs : List (D × D))
def OVQ (K : PySem.W.Frag) (O : List Addr) (H : Hp) (z : OV) (Q : VK) : Prop := match z with
  | .fz d => ∀ v, R K O H d v → Q v H
  | .nl ds => ∀ p vs, H p = none → Rs K O H ds vs → Q (.ref p) (upd H p (.lst vs))
  | .nt ds => ∀ p vs, H p = none → Rs K O H ds vs → Q (.ref p) (upd H p (.tup vs))
  | .nd kvs => ∀ p ws, H p = none → RK K O H kvs ws → Q (.ref p) (upd H p (.dK ws))
def ovS : OV → SV
  | .fz d => .fz d
  | .nl ds => .ol ds
  | .nt ds => .fz (.tuple ds)
  | .nd kvs => .od kvs
theorem ovq_of (g : Good K γ Oc r σ H fs) {z : OV} {Q : VK} (hq : ∀ y H', PV K γ Oc r σ H fs H' (ovS z) y → Q y H') : OVQ K (fs ++ Oc) H z Q := by
  cases z with
  | fz d => exact fun v h => hq v H ⟨fs, [], g, ⟨h, rfl⟩, Stp.refl _ _ _, by simp⟩
  | nl ds =>
    intro p vs hp h
    have k := upd_kept (o := .lst vs) hp
    have n : ∀ a ∈ [p], H a = none := by simpa using hp
    refine hq _ _ ⟨fs, [p], g.grow k n (by simp) (by simp [Own, upd_same, LD]), ⟨p, vs, rfl, upd_same, Rs.stab g.ow (Rs.sameStab g k n) _ _ h, rfl⟩, Stp.same _ _ k, n⟩
  | nt ds =>
    intro p vs hp h
    have k := upd_kept (o := .tup vs) hp
    have n : ∀ a ∈ ([] : List Addr), H a = none := by simp
    refine hq _ _ ⟨fs, [], g.grow k n (by simp) (by simp [Own]), ⟨?_, rfl⟩, Stp.same _ _ k, n⟩
    simp only [R]
    exact ⟨p, vs, rfl, upd_same, Rs.stab g.ow (Rs.sameStab g k n) _ _ h⟩
  | nd ds =>
    intro p vs hp h
    have k := upd_kept (o := .dK vs) hp
    have n : ∀ a ∈ [p], H a = none := by simpa using hp
    refine hq _ _ ⟨fs, [p], g.grow k n (by simp) (by simp [Own, upd_same, LD]), ⟨p, vs, rfl, upd_same, RK.stab g.ow (Rs.sameStab g k n) _ _ h, rfl⟩, Stp.same _ _ k, n⟩
theorem Rs.len {O : List Addr} : ∀ {ds : List D} {vs : List V}, Rs K O H ds vs → vs.length = ds.length
  | [], vs, h => by simp only [Rs] at h; rw [h]; rfl
  | d :: ds, vs, h => by
    simp only [Rs] at h
    obtain ⟨v, ws, e, _, h⟩ := h
    rw [e, List.length_cons, List.length_cons, h.len]
theorem Rs.get {O : List Addr} : ∀ {ds : List D} {vs : List V} {i : Nat} {d : D}, Rs K O H ds vs → ds[i]? = some d → ∃ v, vs[i]? = some v ∧ R K O H d v
  | [], vs, i, d, h, e => by simp at e
  | d :: ds, vs, 0, d', h, e => by
    simp only [Rs] at h
    obtain ⟨v, ws, q, h1, h⟩ := h
    simp at e; subst e
    exact ⟨v, by rw [q]; rfl, h1⟩
  | d :: ds, vs, i + 1, d', h, e => by
    simp only [Rs] at h
    obtain ⟨v, ws, q, h1, h⟩ := h
    obtain ⟨u, a, b⟩ := h.get (i := i) (by simpa using e)
    exact ⟨u, by rw [q]; simpa using a, b⟩
theorem Rs.app {O : List Addr} : ∀ {ds es : List D} {vs ws : List V}, Rs K O H ds vs → Rs K O H es ws → Rs K O H (ds ++ es) (vs ++ ws)
  | [], es, vs, ws, h, h' => by simp only [Rs] at h; rw [h]; simpa using h'
  | d :: ds, es, vs, ws, h, h' => by
    simp only [Rs, List.cons_append] at h ⊢
    obtain ⟨v, us, q, h1, h⟩ := h
    exact ⟨v, us ++ ws, by rw [q]; rfl, h1, h.app h'⟩
theorem Rs.take {O : List Addr} : ∀ {ds : List D} {vs : List V} (n : Nat), Rs K O H ds vs → Rs K O H (ds.take n) (vs.take n)
  | [], vs, n, h => by simp only [Rs] at h; rw [h]; simp [Rs]
  | d :: ds, vs, 0, h => by simp [Rs]
  | d :: ds, vs, n + 1, h => by
    simp only [Rs, List.take_succ_cons] at h ⊢
    obtain ⟨v, us, q, h1, h⟩ := h
    exact ⟨v, us.take n, by rw [q]; rfl, h1, h.take n⟩
theorem Rs.drop {O : List Addr} : ∀ {ds : List D} {vs : List V} (n : Nat), Rs K O H ds vs → Rs K O H (ds.drop n) (vs.drop n)
  | [], vs, n, h => by simp only [Rs] at h; rw [h]; simp [Rs]
  | d :: ds, vs, 0, h => by simpa using h
  | d :: ds, vs, n + 1, h => by
    simp only [Rs, List.drop_succ_cons] at h ⊢
    obtain ⟨v, us, q, h1, h⟩ := h
    rw [q]
    exact h.drop n
theorem Rs.rev {O : List Addr} : ∀ {ds : List D} {vs : List V}, Rs K O H ds vs → Rs K O H ds.reverse vs.reverse
  | [], vs, h => by simp only [Rs] at h; rw [h]; simp [Rs]
  | d :: ds, vs, h => by
    simp only [Rs, List.reverse_cons] at h ⊢
    obtain ⟨v, us, q, h1, h⟩ := h
    rw [q, List.reverse_cons]
    refine h.rev.app ?_
    simp only [Rs]
    exact ⟨v, [], rfl, h1, rfl⟩
theorem Rs.rep {O : List Addr} {ds : List D} {vs : List V} (h : Rs K O H ds vs) : ∀ n, Rs K O H (List.replicate n ds).flatten (List.replicate n vs).flatten
  | 0 => by simp [Rs]
  | n + 1 => by
    rw [List.replicate_succ, List.replicate_succ, List.flatten_cons, List.flatten_cons]
    exact h.app (Rs.rep h n)
theorem Rs.at {O : List Addr} {ds : List D} {vs : List V} {i : Int} {d : D} (h : Rs K O H ds vs) (e : atI ds i = some d) : ∃ v, atI vs i = some v ∧ R K O H d v := by
  unfold atI at e ⊢
  rw [h.len]
  cases q : ixN ds.length i with
  | none => rw [q] at e; cases e
  | some j =>
    rw [q] at e
    exact h.get e
/-- ints, texts -/
def intsD : List D → Option (List Int)
  | [] => some []
  | .int i :: r => (intsD r).map (i :: ·)
  | _ => none
def strsD : List D → Option (List Str)
  | [] => some []
  | .str i :: r => (strsD r).map (i :: ·)
  | _ => none
theorem Rs.ints {O : List Addr} : ∀ {ds : List D} {vs : List V} {ns : List Int}, Rs K O H ds vs → intsD ds = some ns → vs = ns.map V.int
  | [], vs, ns, h, e => by
    simp only [Rs] at h
    simp only [intsD, Option.some.injEq] at e
    rw [h, ← e]; rfl
  | .int i :: ds, vs, ns, h, e => by
    simp only [Rs] at h
    obtain ⟨v, us, q, h1, h⟩ := h
    simp only [intsD, Option.map_eq_some_iff] at e
    obtain ⟨ms, e1, e2⟩ := e
    simp only [R] at h1
    rw [q, ← e2, h1, h.ints e1]; rfl
  | .none :: ds, vs, ns, h, e => by simp [intsD] at e
  | .bool _ :: ds, vs, ns, h, e => by simp [intsD] at e
  | .str _ :: ds, vs, ns, h, e => by simp [intsD] at e
  | .list _ :: ds, vs, ns, h, e => by simp [intsD] at e
  | .tuple _ :: ds, vs, ns, h, e => by simp [intsD] at e
  | .dict _ :: ds, vs, ns, h, e => by simp [intsD] at e
theorem Rs.ofStrs {O : List Addr} : ∀ ns : List Str, Rs K O H (ns.map PyData.str) (ns.map V.str)
  | [] => by simp [Rs]
  | i :: r => by
    simp only [Rs, List.map_cons]
    exact ⟨_, _, rfl, by simp [R], Rs.ofStrs r⟩
end
/-- a value: its rule and its mirror -/
structure EX (X : Cx) (W : WX) (e : Expr) (t : TE) (F : S → Res SV) : Prop where
  pe : PE X e t
  sim : Sim X.K X.mg W (PV X.K) t F
/-- .. to be read -/
structure BX (X : Cx) (W : WX) (e : Expr) (t : TE) (F : S → Res D) : Prop where
  pe : PE X e t
  sim : Sim X.K X.mg W (PB X.K) t F
/-- .. frozen -/
structure FX (X : Cx) (W : WX) (e : Expr) (t : TE) (F : S → Res D) : Prop where
  pe : PE X e t
  sim : Sim X.K X.mg W (PF X.K) t F
/-- a test -/
structure TX (X : Cx) (W : WX) (e : Expr) (t : TT) (F : S → Res Bool) : Prop where
  pe : PT X e t
  sim : Sim X.K X.mg W (PTt X.K) t F
/-- arguments, frozen -/
structure AX (X : Cx) (W : WX) (es : List Expr) (t : TA) (F : S → Res (List D)) : Prop where
  pe : PA X es t
  sim : Sim X.K X.mg W (PL X.K) t F
section
variable {X : Cx} {W : WX} {e a b c : Expr} {ta tb tc : TE} {fa fb : S → Res D} {F : S → Res SV} {pos : Pos}
theorem EX.toF (h : EX X W e ta F) : FX X W e ta (fD F) := ⟨h.pe, h.sim.fz⟩
theorem FX.toB (h : FX X W e ta fa) : BX X W e ta fa := ⟨h.pe, h.sim.vw⟩
theorem EX.toB (h : EX X W e ta F) : BX X W e ta (fD F) := h.toF.toB
/-- frozen data as a value -/
def eD (G : S → Res D) : S → Res SV := fun r => (G r).bind fun d r => .ok (.fz d) r
theorem FX.toE (h : FX X W e ta fa) : EX X W e ta (eD fa) := by
  refine ⟨h.pe, fun γ Oc r σ H fs g => ?_⟩
  refine SimAt.bind (t2 := fun y H1 Q => Q y H1) (h.sim γ Oc r σ H fs g) fun d r1 y H1 p => ?_
  obtain ⟨fs', g', v', s⟩ := p
  exact fun Q hq => hq y H1 ⟨fs', [], g', ⟨v', rfl⟩, s, by simp⟩
def fC (d : D) : S → Res D := fun r => .ok d r
theorem simC {K : PySem.W.Frag} {mg : Str → Option Value} {v : V} {d : D} (h : ∀ O H, R K O H d v) : Sim K mg W (PF K) (tC v) (fC d) := fun γ Oc r σ H fs g Q hq =>
  hq v H ⟨fs, g, h _ _, Stp.refl _ _ _⟩
theorem fx_int {i : Int} {j} : FX X W (.Constant (.int i) j pos) (tC (.int i)) (fC (.int i)) := ⟨pe_int, simC fun _ _ => by simp [R]⟩
theorem fx_bl {i : Bool} {j} : FX X W (.Constant (.bool i) j pos) (tC (.bl i)) (fC (.bool i)) := ⟨pe_bl, simC fun _ _ => by simp [R]⟩
theorem fx_non {j} : FX X W (.Constant .none j pos) (tC .non) (fC .none) := ⟨pe_non, simC fun _ _ => by simp [R]⟩
theorem fx_str {i : Str} {j} : FX X W (.Constant (.str i) j pos) (tC (.str i)) (fC (.str i)) := ⟨pe_str, simC fun _ _ => by simp [R]⟩
/-- a module's constant -/
theorem fx_glob {x : Str} {v : V} {u : Value} {d : D} (hg : Gl X x) (hm : X.mg x = some u) (r : RelV v u) (h : ∀ K O H, R K O H d v) (hd : (x == ("__debug__" : Str)) = false := by decide) : FX X W (.Name x pos) (tC v) (fC d) :=
  ⟨pe_glob hg hm r hd, simC fun _ _ => h _ _ _⟩
/-- read -/
def gV (i : Nat) : S → Res D := fun r => match r.sl[i]? with
  | some (some x) => asD x r fun d r => .ok d r
  | _ => .bad
/-- taken: frozen from now on -/
def fV (i : Nat) : S → Res D := fun r => match r.sl[i]? with
  | some (some x) => asD x r fun d r => .ok d { r with sl := r.sl.set i (some (.fz d)) }
  | _ => .bad
theorem bx_var {i : Nat} (h : PE X e (tVar i)) : BX X W e (tVar i) (gV i) := by
  refine ⟨h, fun γ Oc r σ H fs g Q => ?_⟩
  unfold gV
  cases q : r.sl[i]? with
  | none => trivial
  | some o =>
    cases o with
    | none => trivial
    | some x =>
      unfold asD
      dsimp only
      cases e : x.view with
      | none => trivial
      | some d =>
        intro hq
        obtain ⟨v, h1, h2⟩ := g.slotE q e
        exact ⟨v, h1, hq v H ⟨fs, g, h2, Stp.refl _ _ _⟩⟩
/-- a slot is frozen -/
theorem Good.freeze {K : PySem.W.Frag} {γ : Gh} {Oc : List Addr} {r : S} {σ : St} {H : Hp} {fs : List Addr} (g : Good K γ Oc r σ H fs) {i : Nat} {x : SV} {d : D} (h : r.sl[i]? = some (some x)) (hd : x.view = some d) :
    ∃ v fs', σ[i]? = some (some v) ∧ (∀ a ∈ fs', a ∈ fs) ∧ Good K γ Oc { r with sl := r.sl.set i (some (.fz d)) } σ H fs' ∧ R K (fs' ++ Oc) H d v := by
  obtain ⟨⟨f1, f2, e, sl, tp⟩, nd, ow, tt⟩ := id g
  have hi : i < r.sl.length := (List.getElem?_eq_some_iff.mp h).1
  obtain ⟨a1, a2, a3, e2, e3, hset, _⟩ := sl.upd hi
  obtain ⟨v, e1, e3⟩ := e3 _ h
  have sub : ∀ a ∈ ((a1 ++ a3) ++ f2) ++ Oc, a ∈ fs ++ Oc := fun a z => by
    rw [e, e2]; simp only [List.mem_append] at z ⊢
    rcases z with ((z | z) | z) | z <;> simp [z]
  have ndp : (((a1 ++ a3) ++ f2) ++ Oc).Nodup := by
    refine nd.sublist ?_
    rw [e, e2]
    exact (((List.Sublist.refl a1).append (List.sublist_append_right a2 a3)).append (List.Sublist.refl f2)).append (List.Sublist.refl Oc)
  have st : Stab (fs ++ Oc) H (((a1 ++ a3) ++ f2) ++ Oc) H := Stab.weak sub fun _ _ z => z
  have out : ∀ a, a2 = [a] → a ∉ ((a1 ++ a3) ++ f2) ++ Oc := fun a q z => by
    have n := nd
    rw [e, e2, q] at n
    simp only [List.append_assoc] at n z
    have n2 := List.nodup_append.mp n
    rcases List.mem_append.mp z with z | z
    · exact n2.2.2 a z a (by simp) rfl
    · have n3 := n2.2.1
      rw [List.singleton_append] at n3
      exact (List.nodup_cons.mp n3).1 z
  have rv : R K (((a1 ++ a3) ++ f2) ++ Oc) H d v := by
    cases x with
    | fz d' => simp only [SV.view, Option.some.injEq] at hd; subst hd; exact R.stab ow st _ _ e3.1
    | ol xs =>
      simp only [SV.view, Option.some.injEq] at hd; subst hd
      obtain ⟨a, vs, q1, q2, q3, q4⟩ := e3
      simp only [R]
      exact ⟨a, vs, q1, out a q4, q2, Rs.stab ow st _ _ q3⟩
    | od xs =>
      simp only [SV.view, Option.some.injEq] at hd; subst hd
      obtain ⟨a, vs, q1, q2, q3, q4⟩ := e3
      simp only [R]
      exact ⟨a, q1, out a q4, .inl ⟨vs, .inl q2, RK.stab ow st _ _ q3⟩⟩
    | ot xs =>
      simp only [SV.view, Option.some.injEq] at hd; subst hd
      obtain ⟨a, vs, q1, q2, q3, q4⟩ := e3
      simp only [R]
      exact ⟨a, q1, out a q4, .inr (.inl ⟨vs, .inl q2, RT.stab ow st _ _ q3⟩)⟩
    | tape => simp [SV.view] at hd
    | scr => simp [SV.view] at hd
    | ob c xs =>
      simp only [SV.view, Option.some.injEq] at hd; subst hd
      obtain ⟨C, dx, vs, q1, q2, q3, q4, q5⟩ := e3
      simp only [R]
      exact ⟨_, q1, out _ q4, .inr (.inr ⟨C, dx, vs, q2, by simp only [RO']; exact ⟨trivial, ⟨c, rfl, q5⟩, RF.stab ow st _ _ q3⟩⟩)⟩
  have sl2 := hset (x := .fz d) (v := v) (f := []) ow st (fun _ _ => rfl) ⟨rv, rfl⟩
  have eσ : σ.set i (some v) = σ := by
    obtain ⟨hj, e4⟩ := List.getElem?_eq_some_iff.mp e1
    rw [← e4, List.set_getElem_self]
  rw [eσ] at sl2
  exact ⟨v, (a1 ++ a3) ++ f2, e1, fun a z => by rw [e, e2]; simp only [List.mem_append] at z ⊢; rcases z with (z | z) | z <;> simp [z], ⟨⟨a1 ++ a3, f2, rfl, sl2, tp⟩, ndp, ow.mono sub, tt⟩, rv⟩
theorem fx_var {i : Nat} (h : PE X e (tVar i)) : FX X W e (tVar i) (fV i) := by
  refine ⟨h, fun γ Oc r σ H fs g Q => ?_⟩
  unfold fV
  cases q : r.sl[i]? with
  | none => trivial
  | some o =>
    cases o with
    | none => trivial
    | some x =>
      unfold asD
      dsimp only
      cases e : x.view with
      | none => trivial
      | some d =>
        intro hq
        obtain ⟨v, fs', h1, h2, h3, h4⟩ := g.freeze q e
        exact ⟨v, h1, hq v H ⟨fs', h3, h4, h2, fun _ _ z _ _ => z, fun _ z => z, fun _ z => z⟩⟩
end
end QL
namespace QL
open PySem PySem.Spec L2
section
variable {X : Cx} {W : WX} {e a b c : Expr} {ta tb tc : TE} {fa fb fc : S → Res D} {F : S → Res SV} {pos : Pos}
def ovR (z : Option OV) (r : S) : Res SV := match z with
  | some z => .ok (ovS z) r
  | none => .bad
/-- an operation's rule answers as op says -/
def OpS (K : PySem.W.Frag) (rr : R2) (op : D → D → Option OV) : Prop :=
  ∀ (γ : Gh) (O : List Addr) (H : Hp) (x y : D) (v w : V) (z : OV) (Q : VK), Own O H → RE K γ O H x v → RE K γ O H y w → op x y = some z → OVQ K O H z Q → rr v w H Q
def fOp (op : D → D → Option OV) (fa fb : S → Res D) : S → Res SV := fun r => (fa r).bind fun x r => (fb r).bind fun y r => ovR (op x y) r
theorem sim_op {K : PySem.W.Frag} {mg : Str → Option Value} {rr : R2} {op : D → D → Option OV} (ho : OpS K rr op) (ha : Sim K mg W (PB K) ta fa) (hb : Sim K mg W (PB K) tb fb) : Sim K mg W (PV K) (tOp rr ta tb) (fOp op fa fb) := by
  intro γ Oc r σ H fs g
  refine SimAt.bind (t2 := fun x H1 Q => tb σ H1 fun y H2 => rr x y H2 Q) (ha γ Oc r σ H fs g) fun d r1 v H1 ⟨fs1, g1, v1, s1⟩ => ?_
  refine SimAt.tr s1 (SimAt.bind (t2 := fun y H2 Q => rr v y H2 Q) (hb γ Oc r1 σ H1 fs1 g1) fun d2 r2 w H2 ⟨fs2, g2, v2, s2⟩ => ?_)
  refine SimAt.tr s2 fun Q => ?_
  unfold ovR
  cases q : op d d2 with
  | none => trivial
  | some z => exact fun hq => ho γ (fs2 ++ Oc) H2 d d2 v w z Q g2.ow (v1.keep g1 s2) v2 q (ovq_of g2 hq)
theorem ex_op {op : D → D → Option OV} {o : Operator} {rr : R2} (ho : OpR X (binaryOp o) rr) (hs : OpS X.K rr op) (ha : BX X W a ta fa) (hb : BX X W b tb fb) : EX X W (.BinOp a o b pos) (tOp rr ta tb) (fOp op fa fb) :=
  ⟨pe_op ho ha.pe hb.pe, sim_op hs ha.sim hb.sim⟩
theorem ex_cmp {op : D → D → Option OV} {o : CmpOp} {rr : R2} (ho : OpR X (compareOp o) rr) (hs : OpS X.K rr op) (ha : BX X W a ta fa) (hb : BX X W b tb fb) (hm : behindInMarks o b = false) : EX X W (.Compare a [o] [b] pos) (tOp rr ta tb) (fOp op fa fb) :=
  ⟨pe_cmpR ho ha.pe hb.pe hm, sim_op hs ha.sim hb.sim⟩
theorem OpR.or {f : Value → Value → Sem Value} {r1 r2 : R2} (h1 : OpR X f r1) (h2 : OpR X f r2) : OpR X f (fun x y H Q => r1 x y H Q ∨ r2 x y H Q) := fun pins s σ H x y v u Q I rx ry h => by
  rcases h with h | h
  · exact h1 pins s σ H x y v u Q I rx ry h
  · exact h2 pins s σ H x y v u Q I rx ry h
end
def tx (l : List Nat) : Str := ⟨l.toArray⟩
theorem tx_len (l : List Nat) : (tx l).length = l.length := by simp [tx, Str.length]
theorem Str.tx (x : Str) : x = tx x.cps.toList := by cases x; rfl
def dAdd : D → D → Option OV
  | .int i, .int j => some (.fz (.int (i + j)))
  | .str x, .str y => if x.length + y.length ≤ sizeLine then some (.fz (.str (x ++ y))) else none
  | .list x, .list y => if x.length + y.length ≤ sizeLine then some (.nl (x ++ y)) else none
  | .tuple x, .tuple y => if x.length + y.length ≤ sizeLine then (if x.length = 0 then some (.fz (.tuple y)) else if y.length = 0 then some (.fz (.tuple x)) else some (.nt (x ++ y))) else none
  | _, _ => none
def rAdd (K : PySem.W.Frag) : R2 := fun x y H Q => (rI0 (fun i j => .int (i + j))) x y H Q ∨ (∃ i j, x = .str i ∧ y = .str j ∧ i.length + j.length ≤ sizeLine ∧ Q (.str (i ++ j)) H) ∨ rCat x y H Q ∨ rCatA K x y H Q
theorem op_addA {X : Cx} : OpR X (binaryOp .Add) (rAdd X.K) := OpR.or op_add (OpR.or op_add_str (OpR.or op_cat op_catA))
theorem ops_add {K : PySem.W.Frag} : OpS K (rAdd K) dAdd := by
  intro γ O H x y v w z Q ow hx hy e hq
  unfold dAdd at e
  split at e
  · rename_i i j
    cases e
    simp only [RE, R] at hx hy
    exact .inl ⟨i, j, hx, hy, hq _ (by simp [R])⟩
  · rename_i i j
    split at e
    · rename_i hl
      cases e
      simp only [RE, R] at hx hy
      exact .inr (.inl ⟨i, j, hx, hy, hl, hq _ (by simp [R])⟩)
    · cases e
  · rename_i i j
    split at e
    · rename_i hl
      cases e
      obtain ⟨a, vs, q1, n1, q2, q3⟩ := hx
      obtain ⟨a', vs', q1', n1', q2', q3'⟩ := hy
      exact .inr (.inr (.inl ⟨a, a', vs, vs', q1, q1', q2, q2', by rw [q3.len, q3'.len]; exact hl, fun p hp => hq p _ hp (q3.app q3')⟩))
    · cases e
  · rename_i i j
    split at e
    · rename_i hl
      simp only [RE, R] at hx hy
      obtain ⟨a, vs, q1, q2, q3⟩ := id hx
      obtain ⟨a', vs', q1', q2', q3'⟩ := id hy
      have l1 := q3.len
      have l2 := q3'.len
      refine .inr (.inr (.inr ⟨a, a', vs, vs', q1, q1', TupAt.sq q2, TupAt.sq q2', by rw [l1, l2]; exact hl, fun h => ?_, fun h h' => ?_, fun h h' p hp => ?_⟩))
      · subst h
        rw [if_pos (by rw [← l1]; rfl)] at e
        cases e
        rw [← q1']
        exact hq _ (by simp only [R]; exact hy)
      · subst h'
        rw [if_neg (by rw [← l1]; exact fun z => h (List.length_eq_zero_iff.mp z)), if_pos (by rw [← l2]; rfl)] at e
        cases e
        rw [← q1]
        exact hq _ (by simp only [R]; exact hx)
      · rw [if_neg (by rw [← l1]; exact fun z => h (List.length_eq_zero_iff.mp z)), if_neg (by rw [← l2]; exact fun z => h' (List.length_eq_zero_iff.mp z))] at e
        cases e
        exact hq p _ hp (q3.app q3')
    · cases e
  · cases e
def dSub : D → D → Option OV
  | .int i, .int j => some (.fz (.int (i - j)))
  | _, _ => none
theorem ops_sub {K : PySem.W.Frag} : OpS K (rI0 fun i j => .int (i - j)) dSub := by
  intro γ O H x y v w z Q ow hx hy e hq
  unfold dSub at e
  split at e
  · rename_i i j
    cases e
    simp only [RE, R] at hx hy
    exact ⟨i, j, hx, hy, hq _ (by simp [R])⟩
  · cases e
/-- bits of an int -/
abbrev bitsI (i : Int) : Nat := Builtin.Int.intBits i
def dMul : D → D → Option OV
  | .int i, .int j => if bitsI i + bitsI j ≤ 134217728 then some (.fz (.int (i * j))) else none
  | .str x, .int n => if x.length * n.toNat ≤ sizeLine ∧ -(2 ^ 40) < n ∧ n < 2 ^ 40 then some (.fz (.str (tx (List.replicate n.toNat x.cps.toList).flatten))) else none
  | .list x, .int n => if x.length * n.toNat ≤ sizeLine ∧ -(2 ^ 40) < n ∧ n < 2 ^ 40 then some (.nl (List.replicate n.toNat x).flatten) else none
  | _, _ => none
def CMulB (i j : Int) : Prop := bitsI i + bitsI j ≤ 134217728
theorem CMulB.ok {i j : Int} (h : CMulB i j) : IntMulOk i j := PyProof.Rows.mulOk_of_bits (Nat.le_refl _) (Nat.le_refl _) h
theorem op_mulB {X : Cx} : OpR X (binaryOp .Mult) (rI CMulB fun i j => .int (i * j)) := opI fun _ _ _ _ _ _ _ hc q => PyProof.Rows.mul_int q hc.ok
def rMulS : R2 := fun x y H Q => ∃ z n, x = .str z ∧ y = .int n ∧ (z.length * n.toNat ≤ sizeLine ∧ -(2 ^ 40) < n ∧ n < 2 ^ 40) ∧ Q (.str (tx (List.replicate n.toNat z.cps.toList).flatten)) H
theorem foldl_app (x : Array Nat) : ∀ (n : Nat) (acc : Array Nat), ((List.replicate n x).foldl (· ++ ·) acc).toList = acc.toList ++ (List.replicate n x.toList).flatten
  | 0, acc => by simp
  | n + 1, acc => by
    rw [List.replicate_succ, List.foldl_cons, foldl_app x n, List.replicate_succ, List.flatten_cons, Array.toList_append, List.append_assoc]
theorem mul_tx (x : Str) (n : Int) : Txt.mul x n = tx (List.replicate n.toNat x.cps.toList).flatten := by
  unfold Txt.mul
  split
  · rename_i h
    have : n.toNat = 0 := by omega
    rw [this]; rfl
  · rename_i h
    split
    · rename_i h2
      simp only [Bool.or_eq_true, beq_iff_eq] at h2
      rcases h2 with h2 | h2
      · rw [h2]
        simp only [Int.toNat_one, List.replicate_one, List.flatten_cons, List.flatten_nil, List.append_nil]
        exact Str.tx x
      · have e : x.cps.toList = [] := by
          have : x.cps.size = 0 := h2
          simpa using this
        rw [e]
        have e3 : ∀ k : Nat, (List.replicate k ([] : List Nat)).flatten = [] := fun k => by induction k with
          | zero => rfl
          | succ k ih => rw [List.replicate_succ, List.flatten_cons, ih]; rfl
        rw [e3, ← e]
        exact Str.tx x
    · have e := foldl_app x.cps n.toNat #[]
      simp only [List.nil_append] at e
      unfold tx
      rw [← e]
theorem op_mulS {X : Cx} : OpR X (binaryOp .Mult) rMulS := by
  intro pins s σ H x y v u Q I rx ry h
  obtain ⟨z, n, rfl, rfl, ⟨h1, h2, h3⟩, q⟩ := h
  obtain ⟨t, rfl⟩ := rx
  obtain ⟨t', rfl⟩ := ry
  have hz : sizeLine = 16777216 := by decide
  refine PySem.SB.mul ⟨?_, fun a b => ?_, fun a b => ?_⟩ fun tk k => ⟨.str _, H, I.tok _, ⟨_, rfl⟩, by rw [mul_tx]; exact q⟩
  · simp only [Bool.or_eq_false_iff, decide_eq_false_iff_not]
    have e : (2 : Int) ^ 63 = 9223372036854775808 := by decide
    have e2 : (2 : Int) ^ 40 = 1099511627776 := by decide
    rw [e2] at h2 h3
    rw [e]
    omega
  · intro hh
    have n1 : 1 ≤ n := by omega
    have e : ((2 : Int) ^ 63 - 1) = 9223372036854775807 := by decide
    rw [e] at hh
    have h4 : (z.length : Int) * n ≤ 16777216 := by
      have : (z.length * n.toNat : Nat) ≤ 16777216 := by rw [← hz]; exact h1
      have e5 : ((z.length * n.toNat : Nat) : Int) = (z.length : Int) * n := by
        rw [Int.natCast_mul, Int.toNat_of_nonneg (by omega)]
      omega
    have h6 : (z.length : Int) ≤ 9223372036854775807 / n := by
      refine (Int.le_ediv_iff_mul_le (by omega)).mpr ?_
      omega
    omega
  · unfold Builtin.Str.tooLong
    have : z.length * n.toNat ≤ 16777216 := by rw [← hz]; exact h1
    first
      | (simp only [decide_eq_false_iff_not]; omega)
      | (simp only [decide_eq_false_iff_not]; rw [hz]; omega)
      | simp [hz]; omega
def rMul : R2 := fun x y H Q => (rI CMulB fun i j => .int (i * j)) x y H Q ∨ rMulS x y H Q ∨ rRep x y H Q
theorem op_mulA {X : Cx} : OpR X (binaryOp .Mult) rMul := OpR.or op_mulB (OpR.or op_mulS op_rep)
theorem RE.tracked {K : PySem.W.Frag} {γ : Gh} {O : List Addr} {H : Hp} {ds : List D} {v : V} (h : RE K γ O H (.list ds) v) : ∃ a vs, v = .ref a ∧ H a = some (.lst vs) ∧ Rs K O H ds vs := by
  obtain ⟨a, vs, e, n, q, h⟩ := h
  exact ⟨a, vs, e, q, h⟩
end QL
namespace QM
open PySem PySem.Spec L2 QL
theorem txl {l : List Nat} : (tx l).length = l.length := tx_len l
theorem txc {l : List Nat} : (tx l).cps = l.toArray := rfl
theorem subAt_tx (l m : List Nat) (i : Nat) : Builtin.Str.subAt (tx l) (tx m) i = decide ((l.drop i).take m.length = m) := by
  unfold Builtin.Str.subAt
  rw [Bool.eq_iff_iff, beq_iff_eq, decide_eq_true_eq]
  have e1 : (tx l).cps.extract i (i + (tx m).length) = ((l.drop i).take m.length).toArray := by
    rw [txl, txc, List.extract_toArray, List.extract_eq_take_drop]
    congr 2
    omega
  rw [e1, txc]
  constructor
  · intro h
    have := congrArg Array.toList h
    simpa using this
  · intro h; rw [h]
theorem take1 {l : List Nat} {i c : Nat} : (l.drop i).take 1 = [c] ↔ l[i]? = some c := by
  rw [← List.head?_drop]
  cases l.drop i with
  | nil => simp
  | cons a r => simp
def occP (s sub : Str) (hi : Nat) (i : Nat) : Bool := decide (i + sub.length ≤ hi) && Builtin.Str.subAt s sub i
theorem occ_full (s sub : Str) (hi x f : Nat) : ∀ l : List Nat, (forIn l ((#[x] : Array Nat), f) (StrLaws.occBody s sub hi 1)).run.fst = #[x]
  | [] => rfl
  | a :: l => by
    rw [List.forIn_cons]
    unfold StrLaws.occBody
    have c : ¬ (((((#[x] : Array Nat), f).fst.size < 1 ∧ ((#[x] : Array Nat), f).snd ≤ a) ∧ a + sub.length ≤ hi) ∧ Builtin.Str.subAt s sub a = true) := fun h => by
      have := h.1.1.1
      simp at this
    rw [if_neg c]
    exact occ_full s sub hi x f l
theorem occ_first (s sub : Str) (hi : Nat) : ∀ (l : List Nat) (free : Nat), (∀ i ∈ l, free ≤ i) → (forIn l ((#[] : Array Nat), free) (StrLaws.occBody s sub hi 1)).run.fst.toList = (l.find? (occP s sub hi)).toList
  | [], free, _ => rfl
  | a :: l, free, h => by
    rw [List.forIn_cons, List.find?_cons]
    have ha := h a List.mem_cons_self
    by_cases hp : occP s sub hi a = true
    · rw [hp]
      unfold occP at hp
      simp only [Bool.and_eq_true, decide_eq_true_eq] at hp
      unfold StrLaws.occBody
      rw [if_pos ⟨⟨⟨by simp, ha⟩, hp.1⟩, hp.2⟩]
      show (forIn l ((#[].push a : Array Nat), a + sub.length) (StrLaws.occBody s sub hi 1)).run.fst.toList = _
      rw [show (#[].push a : Array Nat) = #[a] from rfl, occ_full]
      rfl
    · rw [Bool.not_eq_true] at hp
      rw [hp]
      have c : ¬ (((((#[] : Array Nat), free).fst.size < 1 ∧ ((#[] : Array Nat), free).snd ≤ a) ∧ a + sub.length ≤ hi) ∧ Builtin.Str.subAt s sub a = true) := fun h => by
        unfold occP at hp
        rw [decide_eq_true h.1.2, h.2] at hp
        cases hp
      unfold StrLaws.occBody
      rw [if_neg c]
      exact occ_first s sub hi l free fun i hi' => h i (List.mem_cons_of_mem _ hi')
theorem occ1 (s sub : Str) (lo hi : Nat) : Builtin.Str.occurrences s sub lo hi 1 = ((List.range' lo (hi + 1 - lo)).find? (occP s sub hi)).toList := by
  rw [StrLaws.occ_eq]
  exact occ_first s sub hi _ lo fun i h => (List.mem_range'_1.mp h).1
theorem last_eq (s sub : Str) (lo hi : Nat) : Builtin.Str.lastOccurrence s sub lo hi = (List.range' lo (hi + 1 - lo)).foldl (fun acc i => if occP s sub hi i = true then some i else acc) none := by
  unfold Builtin.Str.lastOccurrence
  simp only [Std.Legacy.Range.forIn_eq_forIn_range', Std.Legacy.Range.size]
  have e : (hi + 1 - lo + 1 - 1) / 1 = hi + 1 - lo := by omega
  rw [e]
  have gen : ∀ (l : List Nat) (acc : Option Nat), (forIn (m := Id) l acc fun i r => do
      if i + sub.length ≤ hi ∧ Builtin.Str.subAt s sub i = true then pure (ForInStep.yield (some i)) else pure (ForInStep.yield r)).run = l.foldl (fun acc i => if occP s sub hi i = true then some i else acc) acc := by
    intro l
    induction l with
    | nil => intro acc; rfl
    | cons a l ih =>
      intro acc
      rw [List.forIn_cons, List.foldl_cons]
      unfold occP
      by_cases h : a + sub.length ≤ hi ∧ Builtin.Str.subAt s sub a = true
      · rw [if_pos h, if_pos (by simp [h])]
        exact ih (some a)
      · rw [if_neg h, if_neg (by simpa using h)]
        exact ih acc
  have := gen (List.range' lo (hi + 1 - lo)) none
  simp at this ⊢
  exact this
/-- the first c from s on -/
def nxt (l : List Nat) (c s : Nat) : Option Nat := (List.range' s (l.length + 1 - s)).find? fun i => decide (l[i]? = some c)
/-- the last c ahead of n -/
def prv (l : List Nat) (c : Nat) : Nat → Option Nat
  | 0 => none
  | n + 1 => if l[n]? = some c then some n else prv l c n
def optI : Option Nat → Int
  | some k => (k : Int)
  | none => -1
theorem occP_one (l : List Nat) (c hi i : Nat) : occP (tx l) (tx [c]) hi i = (decide (i + 1 ≤ hi) && decide (l[i]? = some c)) := by
  unfold occP
  rw [subAt_tx]
  have : ((l.drop i).take [c].length = [c]) = (l[i]? = some c) := propext take1
  simp only [this]
  rfl
theorem find3_one (l : List Nat) (c : Nat) (i : Int) (h : 0 ≤ i) : Txt.find3 (tx l) (tx [c]) i = optI (nxt l c i.toNat) := by
  have ef : fromIndex (tx l).length i = i.toNat := by
    unfold fromIndex
    rw [if_neg (by omega)]
    omega
  have eo : Builtin.Str.occurrences (tx l) (tx [c]) i.toNat (tx l).length 1 = (nxt l c i.toNat).toList := by
    rw [occ1, txl]
    unfold nxt
    congr 2
    funext k
    rw [occP_one]
    by_cases hk : l[k]? = some c
    · have := (List.getElem?_eq_some_iff.mp hk).1
      simp [hk]; omega
    · simp [hk]
  unfold Txt.find3
  rw [ef, eo]
  cases nxt l c i.toNat <;> rfl
theorem nxt_some {l : List Nat} {c s k : Nat} (h : nxt l c s = some k) : s ≤ k ∧ l[k]? = some c ∧ ∀ j, s ≤ j → j < k → l[j]? ≠ some c := by
  unfold nxt at h
  have hm := List.mem_of_find?_eq_some h
  have hp := List.find?_some h
  simp only [decide_eq_true_eq] at hp
  refine ⟨(List.mem_range'_1.mp hm).1, hp, fun j h1 h2 e => ?_⟩
  obtain ⟨_, as, bs, e1, e2⟩ := List.find?_eq_some_iff_append.mp h
  have hk := (List.mem_range'_1.mp hm).2
  have hj : j ∈ as := by
    have hlen : as.length = k - s := by
      have g1 : (List.range' s (l.length + 1 - s))[as.length]? = some k := by rw [e1]; simp
      rw [List.getElem?_range'] at g1
      · simp at g1; omega
      · have := congrArg List.length e1
        simp at this
        omega
    have g2 : (List.range' s (l.length + 1 - s))[j - s]? = some j := by
      rw [List.getElem?_range' (by omega)]
      simp; omega
    rw [e1, List.getElem?_append_left (by omega)] at g2
    exact List.mem_of_getElem? g2
  have := e2 j hj
  simp [e] at this
theorem nxt_none {l : List Nat} {c s : Nat} (h : nxt l c s = none) : ∀ j, s ≤ j → l[j]? ≠ some c := fun j hj e => by
  unfold nxt at h
  have := List.find?_eq_none.mp h j (List.mem_range'_1.mpr ⟨hj, by have := (List.getElem?_eq_some_iff.mp e).1; omega⟩)
  simp [e] at this
theorem nxt_is {l : List Nat} {c s k : Nat} (h1 : s ≤ k) (h2 : l[k]? = some c) (h3 : ∀ j, s ≤ j → j < k → l[j]? ≠ some c) : nxt l c s = some k := by
  cases e : nxt l c s with
  | none => exact absurd h2 (nxt_none e k h1)
  | some q =>
    obtain ⟨a, b, d⟩ := nxt_some e
    rcases Nat.lt_trichotomy q k with z | z | z
    · exact absurd b (h3 q a z)
    · rw [z]
    · exact absurd h2 (d k h1 z)
theorem prv_some {l : List Nat} {c : Nat} : ∀ {n k : Nat}, prv l c n = some k → k < n ∧ l[k]? = some c ∧ ∀ j, k < j → j < n → l[j]? ≠ some c
  | 0, k, h => by simp [prv] at h
  | n + 1, k, h => by
    unfold prv at h
    split at h
    · rename_i e
      cases h
      exact ⟨Nat.lt_succ_self _, e, fun j a b => by omega⟩
    · rename_i e
      obtain ⟨a, b, d⟩ := prv_some h
      refine ⟨by omega, b, fun j h1 h2 => ?_⟩
      by_cases hj : j = n
      · rw [hj]; exact e
      · exact d j h1 (by omega)
theorem prv_none {l : List Nat} {c : Nat} : ∀ {n : Nat}, prv l c n = none → ∀ j, j < n → l[j]? ≠ some c
  | 0, h, j, hj => by omega
  | n + 1, h, j, hj => by
    unfold prv at h
    split at h
    · cases h
    · rename_i e
      by_cases hjn : j = n
      · rw [hjn]; exact e
      · exact prv_none h j (by omega)
theorem rfind_one (l : List Nat) (c : Nat) (j : Int) (h : 0 ≤ j) (hj : j ≤ l.length) : Txt.rfindIn (tx l) (tx [c]) 0 j = optI (prv l c j.toNat) := by
  have e1 : fromIndex (tx l).length 0 = 0 := by simp [fromIndex]
  have e2 : toIndexW (tx l).length j = j.toNat := by
    unfold toIndexW
    rw [if_neg (by omega), txl]
    omega
  have gen : ∀ n m : Nat, m ≤ n + 1 → (List.range' 0 m).foldl (fun acc i => if occP (tx l) (tx [c]) n i = true then some i else acc) none = prv l c (min m n) := by
    intro n m
    induction m with
    | zero => intro _; simp [prv]
    | succ m ih =>
      intro hm
      rw [List.range'_concat, List.foldl_append, ih (by omega)]
      simp only [List.foldl_cons, List.foldl_nil, occP_one, Nat.one_mul, Nat.zero_add]
      by_cases hmn : m + 1 ≤ n
      · rw [Nat.min_eq_left hmn, Nat.min_eq_left (by omega)]
        simp [prv, hmn]
      · rw [Nat.min_eq_right (by omega), Nat.min_eq_right (by omega)]
        simp [hmn]
  have eo : Builtin.Str.lastOccurrence (tx l) (tx [c]) 0 j.toNat = prv l c j.toNat := by
    rw [last_eq, Nat.sub_zero, gen _ _ (Nat.le_refl _), Nat.min_eq_right (Nat.le_succ _)]
  unfold Txt.rfindIn
  rw [e1, e2, eo]
  cases prv l c j.toNat <;> rfl
def nxtF : List Nat → Nat → Nat → Option Nat
  | [], _, _ => none
  | a :: r, c, k => if a = c then some k else nxtF r c (k + 1)
theorem nxtF_some : ∀ {l : List Nat} {c k j : Nat}, nxtF l c k = some j → k ≤ j ∧ l[j - k]? = some c ∧ ∀ i, i < j - k → l[i]? ≠ some c
  | [], c, k, j, h => by simp [nxtF] at h
  | a :: r, c, k, j, h => by
    unfold nxtF at h
    split at h
    · rename_i e
      cases h
      refine ⟨Nat.le_refl _, by simp [e], fun i hi => by omega⟩
    · rename_i e
      obtain ⟨h1, h2, h3⟩ := nxtF_some h
      refine ⟨by omega, ?_, fun i hi => ?_⟩
      · rw [show j - k = j - (k + 1) + 1 by omega]; simpa using h2
      · cases i with
        | zero => simpa using e
        | succ i => simpa using h3 i (by omega)
theorem nxtF_none : ∀ {l : List Nat} {c k : Nat}, nxtF l c k = none → ∀ i : Nat, l[i]? ≠ some c
  | [], c, k, h, i => by simp
  | a :: r, c, k, h, i => by
    unfold nxtF at h
    split at h
    · cases h
    · rename_i e
      cases i with
      | zero => simpa using e
      | succ i => simpa using nxtF_none h i
theorem nxt_fast (l : List Nat) (c s : Nat) : nxt l c s = nxtF (l.drop s) c s := by
  cases e : nxtF (l.drop s) c s with
  | none =>
    cases q : nxt l c s with
    | none => rfl
    | some k =>
      obtain ⟨h1, h2, _⟩ := nxt_some q
      have := nxtF_none e (k - s)
      rw [List.getElem?_drop, show s + (k - s) = k by omega] at this
      exact absurd h2 this
  | some k =>
    obtain ⟨h1, h2, h3⟩ := nxtF_some e
    rw [List.getElem?_drop, show s + (k - s) = k by omega] at h2
    refine nxt_is h1 h2 fun j a b => ?_
    have := h3 (j - s) (by omega)
    rw [List.getElem?_drop, show s + (j - s) = j by omega] at this
    exact this
def lastF : List Nat → Nat → Nat → Nat → Option Nat → Option Nat
  | _, _, _, 0, acc => acc
  | [], _, _, _, acc => acc
  | a :: r, c, k, n + 1, acc => lastF r c (k + 1) n (if a = c then some k else acc)
theorem lastF_eq (l : List Nat) (c : Nat) : ∀ (r : List Nat) (k n : Nat), l.drop k = r → n ≤ r.length → lastF r c k n (prv l c k) = prv l c (k + n)
  | r, k, 0, _, _ => by cases r <;> rfl
  | [], k, n + 1, _, h => by simp at h
  | a :: r, k, n + 1, e, h => by
    have ek : l[k]? = some a := by
      have := congrArg List.head? e
      rw [List.head?_drop] at this
      simpa using this
    have er : l.drop (k + 1) = r := by
      have := congrArg (List.drop 1) e
      rw [List.drop_drop] at this
      simpa using this
    have ep : (if a = c then some k else prv l c k) = prv l c (k + 1) := by
      conv => rhs; unfold prv
      rw [ek]
      by_cases q : a = c
      · rw [if_pos q, if_pos (by rw [q])]
      · rw [if_neg q, if_neg (by simpa using q)]
    show lastF r c (k + 1) n (if a = c then some k else prv l c k) = _
    rw [ep, lastF_eq l c r (k + 1) n er (by simpa using h)]
    congr 1
    omega
theorem prv_fast (l : List Nat) (c n : Nat) (h : n ≤ l.length) : prv l c n = lastF l c 0 n none := by
  have := lastF_eq l c l 0 n (by simp) h
  rw [show prv l c 0 = none from rfl, Nat.zero_add] at this
  exact this.symm
def find3f (a b : Str) (i : Int) : Int := match b.cps.toList with
  | [c] => if 0 ≤ i then optI (nxtF (a.cps.toList.drop i.toNat) c i.toNat) else Txt.find3 a b i
  | _ => Txt.find3 a b i
theorem find3f_eq (a b : Str) (i : Int) : find3f a b i = Txt.find3 a b i := by
  unfold find3f
  split
  · rename_i c e
    split
    · rename_i h
      have ea := Str.tx a
      have eb := Str.tx b
      rw [e] at eb
      rw [← nxt_fast, ← find3_one _ _ _ h, ← ea, ← eb]
    · rfl
  · rfl
def rfind4f (a b : Str) (i j : Int) : Int := match b.cps.toList with
  | [c] => if i = 0 ∧ 0 ≤ j ∧ j ≤ a.cps.toList.length then optI (lastF a.cps.toList c 0 j.toNat none) else Txt.rfindIn a b i j
  | _ => Txt.rfindIn a b i j
theorem rfind4f_eq (a b : Str) (i j : Int) : rfind4f a b i j = Txt.rfindIn a b i j := by
  unfold rfind4f
  split
  · rename_i c e
    split
    · rename_i h
      obtain ⟨h1, h2, h3⟩ := h
      have ea := Str.tx a
      have eb := Str.tx b
      rw [e] at eb
      subst h1
      rw [← prv_fast _ _ _ (by omega), ← rfind_one _ _ _ h2 h3, ← ea, ← eb]
    · rfl
  · rfl
def inF (x z : Str) : Bool := match x.cps.toList with
  | [c] => z.cps.toList.any fun d => decide (d = c)
  | _ => !(Builtin.Str.occurrences z x 0 z.length 1).isEmpty
theorem inF_eq (x z : Str) : inF x z = !(Builtin.Str.occurrences z x 0 z.length 1).isEmpty := by
  unfold inF
  split
  · rename_i c e
    have eb := Str.tx x
    rw [e] at eb
    rw [eb]
    refine Eq.trans ?_ (StrLaws.found_one z c).symm
    rw [Bool.eq_iff_iff, List.any_eq_true, decide_eq_true_eq]
    constructor
    · rintro ⟨d, hd, q⟩
      have q := of_decide_eq_true q
      rw [← q]; exact hd
    · intro h
      exact ⟨c, h, decide_eq_true rfl⟩
  · rfl
end QM
namespace QE
open PySem PySem.SeqAt
theorem dict_eq_declines_str (l : Addr) (es : Array DictEntry) (n : Nat) (dd : Option Addr) (sl : Array (Option Value)) (b : Str) (u : Tok) :
    Meets (Builtin.«dict.__eq__» ⟨[.ref l, .str b u], []⟩) (fun _ R s => s.heap.get? l = some { cls := .type "dict", dict := dd, data := .dict es n, slots := sl } ∧ R (.ok (.ret .notImplemented)) s) :=
  .of_wp fun prog w A R s h => by obtain ⟨hp, g, d, tk, os⟩ := s; obtain ⟨hl, h⟩ := h; have f1 := F.sub_str_dict; wp_walk using wpAny_loadPart' hl; exact ⟨_, rfl, h⟩
theorem str_eq_declines_dict (b : Str) (u : Tok) (l : Addr) (c : Value) (es : Array DictEntry) (n : Nat) (dd : Option Addr) (sl : Array (Option Value)) :
    Meets (Builtin.«str.__eq__» ⟨[.str b u, .ref l], []⟩) (fun _ R s => s.heap.get? l = some { cls := c, dict := dd, data := .dict es n, slots := sl } ∧ R (.ok (.ret .notImplemented)) s) :=
  .of_wp fun prog w A R s h => by obtain ⟨hp, g, d, tk, os⟩ := s; obtain ⟨hl, h⟩ := h; wp_walk using wpAny_loadPart' hl, wpAny_load hl; exact ⟨_, rfl, h⟩
theorem dict_ne_declines_str (l : Addr) (es : Array DictEntry) (n : Nat) (dd : Option Addr) (sl : Array (Option Value)) (b : Str) (u : Tok) :
    Meets (Builtin.«dict.__ne__» ⟨[.ref l, .str b u], []⟩) (fun _ R s => s.heap.get? l = some { cls := .type "dict", dict := dd, data := .dict es n, slots := sl } ∧ R (.ok (.ret .notImplemented)) s) :=
  .of_wp fun prog w A R s h => by obtain ⟨hp, g, d, tk, os⟩ := s; obtain ⟨hl, h⟩ := h; have f1 := F.sub_str_dict; wp_walk using wpAny_loadPart' hl; exact ⟨_, rfl, h⟩
theorem str_ne_declines_dict (b : Str) (u : Tok) (l : Addr) (c : Value) (es : Array DictEntry) (n : Nat) (dd : Option Addr) (sl : Array (Option Value)) :
    Meets (Builtin.«str.__ne__» ⟨[.str b u, .ref l], []⟩) (fun _ R s => s.heap.get? l = some { cls := c, dict := dd, data := .dict es n, slots := sl } ∧ R (.ok (.ret .notImplemented)) s) :=
  .of_wp fun prog w A R s h => by obtain ⟨hp, g, d, tk, os⟩ := s; obtain ⟨hl, h⟩ := h; wp_walk using wpAny_loadPart' hl, wpAny_load hl; exact ⟨_, rfl, h⟩
variable {A : Around} {s : Shared} {l : Addr} {es : Array DictEntry} {n : Nat} {dd : Option Addr} {sl : Array (Option Value)}
theorem rc_dict_str (b : Str) (u : Tok) (ho : s.heap.get? l = some { cls := .type "dict", dict := dd, data := .dict es n, slots := sl }) (hu : A.units < cLine) : RcAt A s (.ref l) (.str b u) false := fun prog w E Q h =>
  rc_eq_decline_or (k := false) ⟨_, ho, rfl⟩ (typeIs_str s b u) (by decide) F.sub_str_dict F.slot_dict_eq F.slot_str_eq_refl
    (fun _ hq => call_meets F.slot_dict_eq ⟨_, ho, rfl⟩ F.entry_dict_eq (F.args_dict_eq_2 _ _) (dict_eq_declines_str l es n dd sl b u) ⟨ho, hq⟩)
    (fun _ hq => call_meets F.slot_str_eq_refl (typeIs_str s b u) F.entry_str_eq (F.args_str_eq_2 _ _) (str_eq_declines_dict b u l (.type "dict") es n dd sl) ⟨ho, hq⟩)
    (fun _ hq => wpAny_of_eq (rfl : isSame (.ref l) (.str b u) = pure false) hq) (.inr hu) h
theorem rc_str_dict (b : Str) (u : Tok) (ho : s.heap.get? l = some { cls := .type "dict", dict := dd, data := .dict es n, slots := sl }) (hu : A.units < cLine) : RcAt A s (.str b u) (.ref l) false := fun prog w E Q h =>
  rc_eq_decline_or (k := false) (typeIs_str s b u) ⟨_, ho, rfl⟩ (by decide) F.sub_dict_str F.slot_str_eq F.slot_dict_eq_refl
    (fun _ hq => call_meets F.slot_str_eq (typeIs_str s b u) F.entry_str_eq (F.args_str_eq_2 _ _) (str_eq_declines_dict b u l (.type "dict") es n dd sl) ⟨ho, hq⟩)
    (fun _ hq => call_meets F.slot_dict_eq_refl ⟨_, ho, rfl⟩ F.entry_dict_eq (F.args_dict_eq_2 _ _) (dict_eq_declines_str l es n dd sl b u) ⟨ho, hq⟩)
    (fun _ hq => wpAny_of_eq (rfl : isSame (.str b u) (.ref l) = pure false) hq) (.inr hu) h
theorem rn_dict_str (b : Str) (u : Tok) (ho : s.heap.get? l = some { cls := .type "dict", dict := dd, data := .dict es n, slots := sl }) (hu : A.units < cLine) : RcNeAt A s (.ref l) (.str b u) true := fun prog w E Q h =>
  rc_ne_decline_or (k := false) ⟨_, ho, rfl⟩ (typeIs_str s b u) (by decide) F.sub_str_dict F.slot_dict_ne F.slot_str_ne_refl
    (fun _ hq => call_meets F.slot_dict_ne ⟨_, ho, rfl⟩ F.entry_dict_ne (F.args_dict_ne_2 _ _) (dict_ne_declines_str l es n dd sl b u) ⟨ho, hq⟩)
    (fun _ hq => call_meets F.slot_str_ne_refl (typeIs_str s b u) F.entry_str_ne (F.args_str_ne_2 _ _) (str_ne_declines_dict b u l (.type "dict") es n dd sl) ⟨ho, hq⟩)
    (fun _ hq => wpAny_of_eq (rfl : isSame (.ref l) (.str b u) = pure false) hq) (.inr hu) h
theorem rn_str_dict (b : Str) (u : Tok) (ho : s.heap.get? l = some { cls := .type "dict", dict := dd, data := .dict es n, slots := sl }) (hu : A.units < cLine) : RcNeAt A s (.str b u) (.ref l) true := fun prog w E Q h =>
  rc_ne_decline_or (k := false) (typeIs_str s b u) ⟨_, ho, rfl⟩ (by decide) F.sub_dict_str F.slot_str_ne F.slot_dict_ne_refl
    (fun _ hq => call_meets F.slot_str_ne (typeIs_str s b u) F.entry_str_ne (F.args_str_ne_2 _ _) (str_ne_declines_dict b u l (.type "dict") es n dd sl) ⟨ho, hq⟩)
    (fun _ hq => call_meets F.slot_dict_ne_refl ⟨_, ho, rfl⟩ F.entry_dict_ne (F.args_dict_ne_2 _ _) (dict_ne_declines_str l es n dd sl b u) ⟨ho, hq⟩)
    (fun _ hq => wpAny_of_eq (rfl : isSame (.str b u) (.ref l) = pure false) hq) (.inr hu) h
end QE
namespace QL
open PySem PySem.Spec L2
theorem ops_mul {K : PySem.W.Frag} : OpS K rMul dMul := by
  intro γ O H x y v w z Q ow hx hy e hq
  unfold dMul at e
  split at e
  · rename_i i j
    split at e
    · rename_i hl
      cases e
      simp only [RE, R] at hx hy
      exact .inl ⟨i, j, hx, hy, hl, hq _ (by simp [R])⟩
    · cases e
  · rename_i i j
    split at e
    · rename_i hl
      cases e
      simp only [RE, R] at hx hy
      exact .inr (.inl ⟨i, j, hx, hy, hl, hq _ (by simp [R])⟩)
    · cases e
  · rename_i i j
    split at e
    · rename_i hl
      cases e
      obtain ⟨a, vs, q1, q2, q3⟩ := hx.tracked
      simp only [RE, R] at hy
      have e2 : (2 : Int) ^ 40 = 1099511627776 := by decide
      have e3 : (2 : Int) ^ 63 = 9223372036854775808 := by decide
      obtain ⟨h1, h2, h3⟩ := hl
      rw [e2] at h2 h3
      exact .inr (.inr ⟨a, j, vs, q1, hy, q2, by rw [e3]; omega, by rw [e3]; omega, by rw [q3.len]; exact h1, fun p hp => hq p _ hp (q3.rep _)⟩)
    · cases e
  · cases e
def dFdiv : D → D → Option OV
  | .int i, .int j => if 0 < j ∧ j < 1000000000000000000000000000000 then some (.fz (.int (i / j))) else none
  | _, _ => none
theorem ops_fdiv {K : PySem.W.Frag} : OpS K (rI CDivW fun i j => .int (i / j)) dFdiv := by
  intro γ O H x y v w z Q ow hx hy e hq
  unfold dFdiv at e
  split at e
  · rename_i i j
    split at e
    · rename_i hl
      cases e
      simp only [RE, R] at hx hy
      have e2 : (2 : Nat) ^ 100 = 1267650600228229401496703205376 := by decide
      exact ⟨i, j, hx, hy, wide_div (b := 100) hl.1 (by rw [e2]; omega) (by decide) (by decide), hq _ (by simp [R])⟩
    · cases e
  · cases e
def dMod : D → D → Option OV
  | .int i, .int j => if 0 < j then some (.fz (.int (i % j))) else none
  | _, _ => none
theorem ops_mod {K : PySem.W.Frag} : OpS K (rI (fun _ j => 0 < j) fun i j => .int (i % j)) dMod := by
  intro γ O H x y v w z Q ow hx hy e hq
  unfold dMod at e
  split at e
  · rename_i i j
    split at e
    · rename_i hl
      cases e
      simp only [RE, R] at hx hy
      exact ⟨i, j, hx, hy, hl, hq _ (by simp [R])⟩
    · cases e
  · cases e
def CPowB (i j : Int) : Prop := 0 ≤ j ∧ (bitsI i : Int) * j ≤ 2 ^ 27
theorem op_powB {X : Cx} : OpR X (binaryOp .Pow) (rI CPowB fun i j => .int (i ^ j.toNat)) := opI fun _ _ _ _ _ _ _ hc q => PyProof.Rows.pow_int hc.1 hc.2 q
def dPow : D → D → Option OV
  | .int i, .int j => if 0 ≤ j ∧ (bitsI i : Int) * j ≤ 2 ^ 27 then some (.fz (.int (i ^ j.toNat))) else none
  | _, _ => none
theorem ops_pow {K : PySem.W.Frag} : OpS K (rI CPowB fun i j => .int (i ^ j.toNat)) dPow := by
  intro γ O H x y v w z Q ow hx hy e hq
  unfold dPow at e
  split at e
  · rename_i i j
    split at e
    · rename_i hl
      cases e
      simp only [RE, R] at hx hy
      exact ⟨i, j, hx, hy, hl, hq _ (by simp [R])⟩
    · cases e
  · cases e
def okD (d : D) : Bool := d.plain && decide (d.depth ≤ 60)
section
variable {K : PySem.W.Frag} {O : List Addr} {H : Hp}
mutual
theorem R.dp : ∀ (d : D) (v : V), d.plain = true → R K O H d v → Dp K H v d
  | .none, v, _, h => by simp only [R] at h; subst h; exact .non
  | .bool b, v, _, h => by simp only [R] at h; subst h; exact .bl b
  | .int b, v, _, h => by simp only [R] at h; subst h; exact .int b
  | .str b, v, _, h => by simp only [R] at h; subst h; exact .str b
  | .list ds, v, p, h => by
    simp only [R] at h
    obtain ⟨a, vs, e, n, q, h⟩ := h
    subst e
    exact .lst (.inl (.inl q)) (Rs.dp ds vs (by simpa [PyData.plain] using p) h)
  | .tuple ds, v, p, h => by
    simp only [R] at h
    obtain ⟨a, vs, e, q, h⟩ := h
    subst e
    exact .tup (.inl (.inl q)) (Rs.dp ds vs (by simpa [PyData.plain] using p) h)
  | .dict kvs, v, p, h => by simp [PyData.plain] at p
theorem Rs.dp : ∀ (ds : List D) (vs : List V), PyData.plainAll ds = true → Rs K O H ds vs → DpAll K H vs ds
  | [], vs, _, h => by simp only [Rs] at h; subst h; exact .nil
  | d :: ds, vs, p, h => by
    simp only [Rs] at h
    obtain ⟨v, ws, e, h1, h2⟩ := h
    subst e
    have p' : d.plain = true ∧ PyData.plainAll ds = true := by simpa [PyData.plainAll] using p
    exact .cons (R.dp d v p'.1 h1) (Rs.dp ds ws p'.2 h2)
end
end
def rEqQ (K : PySem.W.Frag) (f : Bool → Bool) : R2 := fun x y H Q => ∃ d e, Dp K H x d ∧ Dp K H y e ∧ okD d = true ∧ okD e = true ∧ Q (.bl (f (PyData.eqv d e))) H
/-- a dictionary that we hold in mind -/
def IsDc (H : Hp) (a : Addr) : Prop := (∃ ws, Rd H a (.dK ws)) ∨ (∃ ws, Rd H a (.dT ws))
def rEqX (K : PySem.W.Frag) (f : Bool → Bool) : R2 := fun x y H Q =>
  ((∃ a b, x = .ref a ∧ y = .str b ∧ IsDc H a) ∨ (∃ a b, x = .str b ∧ y = .ref a ∧ IsDc H a) ∨
   (∃ a b xs ys, x = .ref a ∧ y = .ref b ∧ SqL K H a xs ∧ SqL K H b ys ∧ xs.length ≠ ys.length) ∨
   (∃ a b xs ys, x = .ref a ∧ y = .ref b ∧ SqT K H a xs ∧ SqT K H b ys ∧ xs.length ≠ ys.length ∧ (xs = [] ∨ ys = []))) ∧ Q (.bl (f false)) H
def rEqP (K : PySem.W.Frag) (f : Bool → Bool) : R2 := fun x y H Q => rEqQ K f x y H Q ∨ rEqX K f x y H Q
theorem IsDc.obj {P : PySem.Program} {w : PySem.World} {h : Heap} {H : Hp} {a : Addr} (ok : HOk P w H h) (q : IsDc H a) : ∃ dd es n sl, h.get? a = some { cls := .type "dict", dict := dd, data := .dict es n, slots := sl } := by
  rcases q with ⟨ws, q⟩ | ⟨ws, q⟩
  · obtain ⟨_, hsys, xs, rel, o, es, ep, h1, h2, h3, _, h5, _⟩ := dk_rd ok q
    obtain ⟨cls, dd, data, sl⟩ := o
    cases h2.1
    cases h3
    exact ⟨dd, es, ep, sl, h1⟩
  · obtain ⟨_, hsys, xs, rel, o, es, ep, h1, h2, h3, h4, _, _⟩ := dt_rd ok q
    obtain ⟨cls, dd, data, sl⟩ := o
    cases h2.1
    cases h3
    exact ⟨dd, es, ep, sl, h1⟩
theorem sz_ne {xs ys : List V} {is js : List Value} (h1 : Vals xs is) (h2 : Vals ys js) (h : xs.length ≠ ys.length) : (is.toArray.size != js.toArray.size) = true := by
  have a := h1.length
  have b := h2.length
  rw [bne_iff_ne]
  simp only [List.size_toArray]
  omega
theorem min_0 {xs ys : List V} {is js : List Value} (h1 : Vals xs is) (h2 : Vals ys js) (h : xs = [] ∨ ys = []) : min is.toArray.size js.toArray.size = 0 := by
  have a := h1.length
  have b := h2.length
  simp only [List.size_toArray]
  rcases h with rfl | rfl
  · simp only [List.length_nil] at a; omega
  · simp only [List.length_nil] at b; omega
theorem okD_room {A : Around} {d e : D} (hd : okD d = true) (hu : A.units + 64 < cLine) : A.units + min d.depth e.depth < cLine := by
  unfold okD at hd
  simp only [Bool.and_eq_true, decide_eq_true_eq] at hd
  have := Nat.min_le_left d.depth e.depth
  omega
theorem okD_plain {d : D} (hd : okD d = true) : d.plain = true := by
  unfold okD at hd
  simp only [Bool.and_eq_true, decide_eq_true_eq] at hd
  exact hd.1
theorem op_eqQ {X : Cx} (hu : X.A.units + 64 < cLine) : OpR X (compareOp .Eq) (rEqQ X.K id) := by
  intro pins s σ H x y v u Q I rx ry h
  obtain ⟨d, e, hd, he, h1, h2, q⟩ := h
  obtain ⟨as, r1⟩ := Dp.reads I d x v hd rx
  obtain ⟨bs, r2⟩ := Dp.reads I e y u he ry
  exact SeqAt.eq_plain r1 r2 (okD_plain h1) (okD_plain h2) (okD_room h1 hu) ⟨.bl _, H, I, rfl, q⟩
theorem op_neQ {X : Cx} (hu : X.A.units + 64 < cLine) : OpR X (compareOp .NotEq) (rEqQ X.K not) := by
  intro pins s σ H x y v u Q I rx ry h
  obtain ⟨d, e, hd, he, h1, h2, q⟩ := h
  obtain ⟨as, r1⟩ := Dp.reads I d x v hd rx
  obtain ⟨bs, r2⟩ := Dp.reads I e y u he ry
  exact SeqAt.ne_plain r1 r2 (okD_plain h1) (okD_plain h2) (okD_room h1 hu) ⟨.bl _, H, I, rfl, q⟩
theorem op_eqX {X : Cx} (hu : X.A.units + 64 < cLine) : OpR X (compareOp .Eq) (rEqX X.K id) := by
  intro pins s σ H x y v u Q I rx ry h
  have hu' : X.A.units < cLine := by omega
  obtain ⟨h, q⟩ := h
  rcases h with ⟨a, b, rfl, rfl, hd⟩ | ⟨a, b, rfl, rfl, hd⟩ | ⟨a, b, xs, ys, rfl, rfl, h1, h2, h3⟩ | ⟨a, b, xs, ys, rfl, rfl, h1, h2, h3, h4⟩
  · cases (show v = Value.ref a from rx)
    obtain ⟨t, rfl⟩ := (show ∃ t, u = Value.str b t from ry)
    obtain ⟨dd, es, n, sl, ho⟩ := hd.obj I.hok
    exact QE.rc_dict_str b t ho hu' _ _ _ _ ⟨.bl _, H, I, rfl, q⟩
  · cases (show u = Value.ref a from ry)
    obtain ⟨t, rfl⟩ := (show ∃ t, v = Value.str b t from rx)
    obtain ⟨dd, es, n, sl, ho⟩ := hd.obj I.hok
    exact QE.rc_str_dict b t ho hu' _ _ _ _ ⟨.bl _, H, I, rfl, q⟩
  · cases (show v = Value.ref a from rx)
    cases (show u = Value.ref b from ry)
    obtain ⟨is, v1, ⟨o, n, e1, c1, _, d1⟩, _⟩ := I.list h1
    obtain ⟨js, v2, ⟨o2, n2, e2, c2, _, d2⟩, _⟩ := I.list h2
    exact SeqAt.RcAt.lists_lengths (items := is.toArray) (items2 := js.toArray) ⟨o, e1, c1, n, d1⟩ ⟨o2, e2, c2, n2, d2⟩ (sz_ne v1 v2 h3) hu' _ _ _ _ ⟨.bl _, H, I, rfl, q⟩
  · cases (show v = Value.ref a from rx)
    cases (show u = Value.ref b from ry)
    obtain ⟨is, v1, ⟨o, e1, c1, n, d1⟩, _⟩ := I.tuple h1
    obtain ⟨js, v2, ⟨o2, e2, c2, n2, d2⟩, _⟩ := I.tuple h2
    have z := min_0 v1 v2 h4
    have z2 := sz_ne v1 v2 h3
    have k := SeqAt.RcAt.tuples (A := X.A) (s := s) (items := is.toArray) (items2 := js.toArray) (e := fun _ => true) ⟨o, e1, c1, n, d1⟩ ⟨o2, e2, c2, n2, d2⟩ hu' (fun j p q => absurd z (by omega))
    rw [z, show (is.toArray.size == js.toArray.size) = false from by rw [bne, Bool.not_eq_true'] at z2; exact z2] at k
    exact k _ _ _ _ ⟨.bl _, H, I, rfl, q⟩
theorem op_neX {X : Cx} (hu : X.A.units + 64 < cLine) : OpR X (compareOp .NotEq) (rEqX X.K not) := by
  intro pins s σ H x y v u Q I rx ry h
  have hu' : X.A.units < cLine := by omega
  obtain ⟨h, q⟩ := h
  rcases h with ⟨a, b, rfl, rfl, hd⟩ | ⟨a, b, rfl, rfl, hd⟩ | ⟨a, b, xs, ys, rfl, rfl, h1, h2, h3⟩ | ⟨a, b, xs, ys, rfl, rfl, h1, h2, h3, h4⟩
  · cases (show v = Value.ref a from rx)
    obtain ⟨t, rfl⟩ := (show ∃ t, u = Value.str b t from ry)
    obtain ⟨dd, es, n, sl, ho⟩ := hd.obj I.hok
    exact QE.rn_dict_str b t ho hu' _ _ _ _ ⟨.bl _, H, I, rfl, q⟩
  · cases (show u = Value.ref a from ry)
    obtain ⟨t, rfl⟩ := (show ∃ t, v = Value.str b t from rx)
    obtain ⟨dd, es, n, sl, ho⟩ := hd.obj I.hok
    exact QE.rn_str_dict b t ho hu' _ _ _ _ ⟨.bl _, H, I, rfl, q⟩
  · cases (show v = Value.ref a from rx)
    cases (show u = Value.ref b from ry)
    obtain ⟨is, v1, ⟨o, n, e1, c1, _, d1⟩, _⟩ := I.list h1
    obtain ⟨js, v2, ⟨o2, n2, e2, c2, _, d2⟩, _⟩ := I.list h2
    exact SeqAt.RcNeAt.lists_lengths (items := is.toArray) (items2 := js.toArray) ⟨o, e1, c1, n, d1⟩ ⟨o2, e2, c2, n2, d2⟩ (sz_ne v1 v2 h3) hu' _ _ _ _ ⟨.bl _, H, I, rfl, q⟩
  · cases (show v = Value.ref a from rx)
    cases (show u = Value.ref b from ry)
    obtain ⟨is, v1, ⟨o, e1, c1, n, d1⟩, _⟩ := I.tuple h1
    obtain ⟨js, v2, ⟨o2, e2, c2, n2, d2⟩, _⟩ := I.tuple h2
    have z := min_0 v1 v2 h4
    have z2 := sz_ne v1 v2 h3
    have k := SeqAt.RcNeAt.tuples (A := X.A) (s := s) (items := is.toArray) (items2 := js.toArray) (e := fun _ => true) ⟨o, e1, c1, n, d1⟩ ⟨o2, e2, c2, n2, d2⟩ hu' (fun j p q => absurd z (by omega))
    rw [z, show (is.toArray.size == js.toArray.size) = false from by rw [bne, Bool.not_eq_true'] at z2; exact z2] at k
    exact k _ _ _ _ ⟨.bl _, H, I, rfl, q⟩
theorem op_eqP {X : Cx} (hu : X.A.units + 64 < cLine) : OpR X (compareOp .Eq) (rEqP X.K id) := OpR.or (op_eqQ hu) (op_eqX hu)
theorem op_neP {X : Cx} (hu : X.A.units + 64 < cLine) : OpR X (compareOp .NotEq) (rEqP X.K not) := OpR.or (op_neQ hu) (op_neX hu)
/-- .. told fast -/
def flat0 : D → Bool
  | .list _ => false
  | .dict _ => false
  | .tuple _ => false
  | _ => true
theorem flat0_ok {d : D} (h : flat0 d = true) : d.plain = true ∧ d.depth = 0 := by
  cases d with
  | list _ => cases h
  | dict _ => cases h
  | tuple _ => cases h
  | _ => exact ⟨rfl, rfl⟩
theorem flat0_all : ∀ {ds : List D}, ds.all flat0 = true → PyData.plainAll ds = true ∧ PyData.depthAll ds = 0
  | [], _ => ⟨rfl, rfl⟩
  | d :: ds, h => by
    simp only [List.all_cons, Bool.and_eq_true] at h
    obtain ⟨a, b⟩ := flat0_ok h.1
    obtain ⟨c, e⟩ := flat0_all h.2
    simp only [PyData.plainAll, PyData.depthAll, a, b, c, e]
    exact ⟨rfl, by simp⟩
def okF : D → Bool
  | .int _ => true
  | .str _ => true
  | .bool _ => true
  | .none => true
  | .list ds => if ds.all flat0 = true then true else okD (.list ds)
  | .tuple ds => if ds.all flat0 = true then true else okD (.tuple ds)
  | d => okD d
theorem okF_eq (d : D) : okF d = okD d := by
  cases d with
  | list ds =>
    show (if ds.all flat0 = true then true else okD (.list ds)) = _
    split
    · rename_i h
      obtain ⟨a, b⟩ := flat0_all h
      simp [okD, PyData.plain, PyData.depth, a, b]
    · rfl
  | tuple ds =>
    show (if ds.all flat0 = true then true else okD (.tuple ds)) = _
    split
    · rename_i h
      obtain ⟨a, b⟩ := flat0_all h
      simp [okD, PyData.plain, PyData.depth, a, b]
    · rfl
  | _ => rfl
def eq0 : D → D → Bool
  | .int i, .int j => decide (i = j)
  | .str x, .str y => decide (x.cps.toList = y.cps.toList)
  | x, y => PyData.eqv x y
theorem eq0_eq (x y : D) : eq0 x y = PyData.eqv x y := by
  unfold eq0
  split
  · rename_i i j
    show _ = (i == j)
    rw [Bool.eq_iff_iff]; simp
  · rename_i a b
    show _ = (a == b)
    rw [Bool.eq_iff_iff, decide_eq_true_eq, beq_iff_eq]
    constructor
    · intro h
      have ea := Str.tx a
      have eb := Str.tx b
      rw [ea, eb, h]
    · intro h; rw [h]
  · rfl
def eqL : List D → List D → Bool
  | [], [] => true
  | x :: xs, y :: ys => eq0 x y && eqL xs ys
  | _, _ => false
theorem eqL_eq : ∀ xs ys : List D, eqL xs ys = PyData.eqvAll xs ys
  | [], [] => by simp [eqL, PyData.eqvAll]
  | x :: xs, y :: ys => by simp [eqL, PyData.eqvAll, eqL_eq xs ys, eq0_eq]
  | [], y :: ys => by simp [eqL, PyData.eqvAll]
  | x :: xs, [] => by simp [eqL, PyData.eqvAll]
def eqF : D → D → Bool
  | .list x, .list y => eqL x y
  | .tuple x, .tuple y => eqL x y
  | x, y => eq0 x y
theorem eqF_eq (x y : D) : eqF x y = PyData.eqv x y := by
  unfold eqF
  split
  · rw [eqL_eq]; simp [PyData.eqv]
  · rw [eqL_eq]; simp [PyData.eqv]
  · exact eq0_eq _ _
/-- an object's data -/
def isOb : List (D × D) → Bool
  | (.list _, _) :: _ => true
  | _ => false
/-- a dict that is no object -/
class NoOb (kvs : List (D × D)) : Prop where
  h : isOb kvs = false
instance : NoOb [] := ⟨rfl⟩
instance {x : Str} {d : D} {r : List (D × D)} : NoOb ((.str x, d) :: r) := ⟨rfl⟩
instance {x : Int} {d : D} {r : List (D × D)} : NoOb ((.int x, d) :: r) := ⟨rfl⟩
instance {x : Bool} {d : D} {r : List (D × D)} : NoOb ((.bool x, d) :: r) := ⟨rfl⟩
instance {x : List D} {d : D} {r : List (D × D)} : NoOb ((.tuple x, d) :: r) := ⟨rfl⟩
theorem noOb {K : PySem.W.Frag} {O : List Addr} {H : Hp} {a : Addr} {kvs : List (D × D)} (h : isOb kvs = false) {P : Prop} (q : ∃ C dx ws, H a = some (.ins C dx ws) ∧ RO' K O H C kvs ws) : P := by
  obtain ⟨C, dx, ws, _, q⟩ := q
  cases kvs with
  | nil => simp only [RO'] at q
  | cons p r =>
    obtain ⟨k, d⟩ := p
    simp only [RO'] at q
    rw [q.1] at h
    cases h
/-- x == y, x != y -/
def unEq : D → D → Bool
  | .dict kvs, .str _ => !isOb kvs
  | .str _, .dict kvs => !isOb kvs
  | .list xs, .list ys => decide (xs.length ≠ ys.length)
  | .tuple xs, .tuple ys => decide (xs.length ≠ ys.length) && (decide (xs.length = 0) || decide (ys.length = 0))
  | _, _ => false
def dEqF (f : Bool → Bool) (x y : D) : Option OV := if okF x = true ∧ okF y = true then some (.fz (.bool (f (eqF x y)))) else if unEq x y = true then some (.fz (.bool (f false))) else none
abbrev dEq := dEqF id
abbrev dNe := dEqF not
theorem ops_eq {K : PySem.W.Frag} {f : Bool → Bool} : OpS K (rEqP K f) (dEqF f) := by
  intro γ O H x y v w z Q ow hx hy e hq
  unfold dEqF at e
  rw [okF_eq, okF_eq, eqF_eq] at e
  split at e
  · rename_i hl
    cases e
    exact .inl ⟨x, y, R.dp _ _ (okD_plain hl.1) (hx.all ow), R.dp _ _ (okD_plain hl.2) (hy.all ow), hl.1, hl.2, hq _ (by simp [R])⟩
  · split at e
    · rename_i hl
      cases e
      have hq' := hq (.bl (f false)) (by simp [R])
      refine .inr ⟨?_, hq'⟩
      unfold unEq at hl
      split at hl
      · simp only [RE, R] at hx hy
        obtain ⟨a, e, _, h⟩ := hx
        refine .inl ⟨a, _, e, hy, ?_⟩
        rcases h with ⟨ws, h, _⟩ | ⟨ws, h, _⟩ | h
        · exact .inl ⟨ws, h⟩
        · exact .inr ⟨ws, h⟩
        · exact noOb (by simpa using hl) h
      · simp only [RE, R] at hx hy
        obtain ⟨a, e, _, h⟩ := hy
        refine .inr (.inl ⟨a, _, hx, e, ?_⟩)
        rcases h with ⟨ws, h, _⟩ | ⟨ws, h, _⟩ | h
        · exact .inl ⟨ws, h⟩
        · exact .inr ⟨ws, h⟩
        · exact noOb (by simpa using hl) h
      · simp only [RE] at hx hy
        obtain ⟨a, vs, e, _, h1, h2⟩ := hx
        obtain ⟨b, ws, e', _, h3, h4⟩ := hy
        refine .inr (.inr (.inl ⟨a, b, vs, ws, e, e', .of h1, .of h3, ?_⟩))
        rw [h2.len, h4.len]
        exact of_decide_eq_true hl
      · rename_i p q
        simp only [RE, R] at hx hy
        obtain ⟨a, vs, e, h1, h2⟩ := hx
        obtain ⟨b, ws, e', h3, h4⟩ := hy
        simp only [Bool.and_eq_true, Bool.or_eq_true, decide_eq_true_eq] at hl
        refine .inr (.inr (.inr ⟨a, b, vs, ws, e, e', ?_, ?_, ?_, ?_⟩))
        · exact .inl (.inl h1)
        · exact .inl (.inl h3)
        · rw [h2.len, h4.len]; exact hl.1
        · rcases hl.2 with h | h
          · exact .inl (List.length_eq_zero_iff.mp (by rw [h2.len]; exact h))
          · exact .inr (List.length_eq_zero_iff.mp (by rw [h4.len]; exact h))
      · cases hl
    · cases e
/-- < <= > >= of ints, of texts -/
def dOrd (fi : Int → Int → Bool) (ft : List Nat → List Nat → Bool) : D → D → Option OV
  | .int i, .int j => some (.fz (.bool (fi i j)))
  | .str x, .str y => some (.fz (.bool (ft x.cps.toList y.cps.toList)))
  | _, _ => none
def rOrd (fi : Int → Int → Bool) (ft : List Nat → List Nat → Bool) : R2 := fun x y H Q => (rI0 fun i j => .bl (fi i j)) x y H Q ∨ (fun x y H Q => ∃ i j : Str, x = .str i ∧ y = .str j ∧ Q (.bl (ft i.cps.toList j.cps.toList)) H) x y H Q
theorem ops_ord {K : PySem.W.Frag} {fi : Int → Int → Bool} {ft : List Nat → List Nat → Bool} : OpS K (rOrd fi ft) (dOrd fi ft) := by
  intro γ O H x y v w z Q ow hx hy e hq
  unfold dOrd at e
  split at e
  · rename_i i j
    cases e
    simp only [RE, R] at hx hy
    exact .inl ⟨i, j, hx, hy, hq _ (by simp [R])⟩
  · rename_i i j
    cases e
    simp only [RE, R] at hx hy
    exact .inr ⟨i, j, hx, hy, hq _ (by simp [R])⟩
  · cases e
abbrev dLt := dOrd (fun i j => decide (i < j)) (fun x y => decide (x < y))
abbrev dLe := dOrd (fun i j => decide (i ≤ j)) (fun x y => !decide (y < x))
abbrev dGt := dOrd (fun i j => decide (j < i)) (fun x y => decide (y < x))
abbrev dGe := dOrd (fun i j => decide (j ≤ i)) (fun x y => !decide (x < y))
theorem op_ltA {X : Cx} : OpR X (compareOp .Lt) (rOrd (fun i j => decide (i < j)) (fun x y => decide (x < y))) := OpR.or op_lt op_lt_str
theorem op_leA {X : Cx} : OpR X (compareOp .LtE) (rOrd (fun i j => decide (i ≤ j)) (fun x y => !decide (y < x))) := OpR.or op_le op_le_str
theorem op_gtA {X : Cx} : OpR X (compareOp .Gt) (rOrd (fun i j => decide (j < i)) (fun x y => decide (y < x))) := OpR.or op_gt op_gt_str
theorem op_geA {X : Cx} : OpR X (compareOp .GtE) (rOrd (fun i j => decide (j ≤ i)) (fun x y => !decide (x < y))) := OpR.or op_ge op_ge_str
/-- x in y: of a text, a list, a tuple -/
def strIn (x z : Str) : Bool := QM.inF x z
def dInF (f : Bool → Bool) : D → D → Option OV
  | .str x, .str z => some (.fz (.bool (f (strIn x z))))
  | x, .list ds => if okF x = true ∧ okF (.list ds) = true then some (.fz (.bool (f (ds.any fun y => eqF y x)))) else none
  | x, .tuple ds => if okF x = true ∧ okF (.tuple ds) = true then some (.fz (.bool (f (ds.any fun y => eqF y x)))) else none
  | _, _ => none
abbrev dIn := dInF id
abbrev dNotIn := dInF not
def rInP (K : PySem.W.Frag) (f : Bool → Bool) : R2 := fun x y H Q => (∃ i j : Str, x = .str i ∧ y = .str j ∧ Q (.bl (f (strIn i j))) H) ∨
  (∃ d ds, Dp K H x d ∧ (Dp K H y (.list ds) ∨ Dp K H y (.tuple ds)) ∧ okD d = true ∧ okD (.list ds) = true ∧ Q (.bl (f (ds.any fun z => PyData.eqv z d))) H)
theorem okD_in {A : Around} {d : D} {ds : List D} (h : okD (.list ds) = true) (hu : A.units + 64 < cLine) : PyData.plainAll ds = true ∧ A.units + 1 + min (PyData.depthAll ds) d.depth < cLine := by
  unfold okD at h
  simp only [PyData.plain, PyData.depth, Bool.and_eq_true, decide_eq_true_eq] at h
  have := Nat.min_le_left (PyData.depthAll ds) d.depth
  obtain ⟨h1, h2⟩ := h
  have h3 := of_decide_eq_true h2
  exact ⟨h1, by omega⟩
theorem okD_tup (ds : List D) : okD (.tuple ds) = okD (.list ds) := by simp [okD, PyData.plain, PyData.depth]
theorem op_inP {X : Cx} (hu : X.A.units + 64 < cLine) : OpR X (compareOp .In) (rInP X.K id) := by
  intro pins s σ H x y v u Q I rx ry h
  rcases h with ⟨i, j, e1, e2, q⟩ | ⟨d, ds, hd, he, h1, h2, q⟩
  · exact op_in_str pins s σ H x y v u Q I rx ry ⟨i, j, e1, e2, by rw [← QM.inF_eq]; exact q⟩
  · obtain ⟨as, r1⟩ := Dp.reads I d x v hd rx
    obtain ⟨hp, hr⟩ := okD_in (d := d) h2 hu
    rcases he with he | he
    · obtain ⟨bs, r2⟩ := Dp.reads I _ y u he ry
      exact SeqAt.in_list_data r2 r1 hp (okD_plain h1) hr ⟨.bl _, H, I, rfl, q⟩
    · obtain ⟨bs, r2⟩ := Dp.reads I _ y u he ry
      exact SeqAt.in_tuple_data r2 r1 hp (okD_plain h1) hr ⟨.bl _, H, I, rfl, q⟩
theorem op_notInP {X : Cx} (hu : X.A.units + 64 < cLine) : OpR X (compareOp .NotIn) (rInP X.K not) := by
  intro pins s σ H x y v u Q I rx ry h
  rcases h with ⟨i, j, e1, e2, q⟩ | ⟨d, ds, hd, he, h1, h2, q⟩
  · exact op_notin_str pins s σ H x y v u Q I rx ry ⟨i, j, e1, e2, by rw [← QM.inF_eq]; exact q⟩
  · obtain ⟨as, r1⟩ := Dp.reads I d x v hd rx
    obtain ⟨hp, hr⟩ := okD_in (d := d) h2 hu
    rcases he with he | he
    · obtain ⟨bs, r2⟩ := Dp.reads I _ y u he ry
      exact SeqAt.notIn_list_data r2 r1 hp (okD_plain h1) hr ⟨.bl _, H, I, rfl, q⟩
    · obtain ⟨bs, r2⟩ := Dp.reads I _ y u he ry
      exact SeqAt.notIn_tuple_data r2 r1 hp (okD_plain h1) hr ⟨.bl _, H, I, rfl, q⟩
theorem ops_in {K : PySem.W.Frag} {f : Bool → Bool} : OpS K (rInP K f) (dInF f) := by
  intro γ O H x y v w z Q ow hx hy e hq
  unfold dInF at e
  split at e
  · rename_i i j
    cases e
    simp only [RE, R] at hx hy
    exact .inl ⟨i, j, hx, hy, hq _ (by simp [R])⟩
  · rename_i ds
    simp only [okF_eq, eqF_eq] at e
    split at e
    · rename_i hl
      cases e
      exact .inr ⟨x, ds, R.dp _ _ (okD_plain hl.1) (hx.all ow), .inl (R.dp _ _ (okD_plain hl.2) (hy.all ow)), hl.1, hl.2, hq _ (by simp [R])⟩
    · cases e
  · rename_i ds
    simp only [okF_eq, eqF_eq] at e
    split at e
    · rename_i hl
      cases e
      exact .inr ⟨x, ds, R.dp _ _ (okD_plain hl.1) (hx.all ow), .inr (R.dp _ _ (okD_plain hl.2) (hy.all ow)), hl.1, by rw [← okD_tup]; exact hl.2, hq _ (by simp [R])⟩
    · cases e
  · cases e
/-- is None, is True -/
def isD (x y : D) : Option Bool := match x, y with
  | .none, .none => some true
  | _, .none => some false
  | .bool a, .bool b => some (decide (a = b))
  | _, _ => none
def dIsF (f : Bool → Bool) (x y : D) : Option OV := (isD x y).map fun b => .fz (.bool (f b))
abbrev dIs := dIsF id
abbrev dIsNot := dIsF not
def rIsF (f : Bool → Bool) : R2 := fun x y H Q => (y = .non ∧ Q (.bl (f (decide (x = .non)))) H) ∨ (∃ a b, x = .bl a ∧ y = .bl b ∧ Q (.bl (f (decide (a = b)))) H)
theorem op_isA {X : Cx} : OpR X (compareOp .Is) (rIsF id) := OpR.or op_isN op_is_bl
theorem op_isNotA {X : Cx} : OpR X (compareOp .IsNot) (rIsF not) := OpR.or op_notN op_isnot_bl
def isN : D → Bool
  | .none => true
  | _ => false
theorem RE.non_iff {K : PySem.W.Frag} {γ : Gh} {O : List Addr} {H : Hp} {x : D} {v : V} (h : RE K γ O H x v) : decide (v = .non) = isN x := by
  cases x with
  | none => simp only [RE, R] at h; subst h; rfl
  | bool _ => simp only [RE, R] at h; subst h; rfl
  | int _ => simp only [RE, R] at h; subst h; rfl
  | str _ => simp only [RE, R] at h; subst h; rfl
  | list _ => obtain ⟨a, vs, e, _⟩ := h; subst e; rfl
  | tuple _ => simp only [RE, R] at h; obtain ⟨a, vs, e, _⟩ := h; subst e; rfl
  | dict _ => obtain ⟨a, e, _⟩ := h; subst e; rfl
theorem ops_is {K : PySem.W.Frag} {f : Bool → Bool} : OpS K (rIsF f) (dIsF f) := by
  intro γ O H x y v w z Q ow hx hy e hq
  unfold dIsF at e
  simp only [Option.map_eq_some_iff] at e
  obtain ⟨b, e1, e2⟩ := e
  subst e2
  have q := hq (.bl (f b)) (by simp [R])
  have nn := hx.non_iff
  unfold isD at e1
  split at e1
  · cases e1
    simp only [RE, R] at hy
    exact .inl ⟨hy, by rw [nn]; exact q⟩
  · rename_i hne
    cases e1
    simp only [RE, R] at hy
    refine .inl ⟨hy, ?_⟩
    have : isN x = false := by
      cases x with
      | none => exact absurd rfl hne
      | _ => rfl
    rw [nn, this]; exact q
  · rename_i a b' 
    cases e1
    simp only [RE, R] at hx hy
    exact .inr ⟨a, b', hx, hy, q⟩
  · cases e1
section
variable {X : Cx} {W : WX} {e a b c : Expr} {ta tb tc : TE} {fa fb fc : S → Res D} {F : S → Res SV} {pos : Pos}
/-- a < b <= c -/
def fChain (op op' : D → D → Option OV) (fa fb fc : S → Res D) : S → Res SV := fun r => (fa r).bind fun x r => (fb r).bind fun y r => match op x y with
  | some (.fz (.bool true)) => (fc r).bind fun z r => ovR (op' y z) r
  | some (.fz (.bool false)) => .ok (.fz (.bool false)) r
  | _ => .bad
/-- -a -/
def dNeg : D → Option OV
  | .int i => some (.fz (.int (-i)))
  | _ => none
def fOp1 (op : D → Option OV) (fa : S → Res D) : S → Res SV := fun r => (fa r).bind fun x r => ovR (op x) r
/-- a one-place reading -/
def Op1S (K : PySem.W.Frag) (rr : V → Hp → VK → Prop) (op : D → Option OV) : Prop :=
  ∀ (γ : Gh) (O : List Addr) (H : Hp) (x : D) (v : V) (z : OV) (Q : VK), Own O H → RE K γ O H x v → op x = some z → OVQ K O H z Q → rr v H Q
theorem sim_op1 {K : PySem.W.Frag} {mg : Str → Option Value} {rr : V → Hp → VK → Prop} {op : D → Option OV} (ho : Op1S K rr op) (ha : Sim K mg W (PB K) ta fa) : Sim K mg W (PV K) (fun σ H Q => ta σ H fun x H1 => rr x H1 Q) (fOp1 op fa) := by
  intro γ Oc r σ H fs g
  refine SimAt.bind (t2 := fun x H1 Q => rr x H1 Q) (ha γ Oc r σ H fs g) fun d r1 v H1 ⟨fs1, g1, v1, s1⟩ => ?_
  refine SimAt.tr s1 fun Q => ?_
  unfold ovR
  cases q : op d with
  | none => trivial
  | some z => exact fun hq => ho γ (fs1 ++ Oc) H1 d v z Q g1.ow v1 q (ovq_of g1 hq)
/-- a value True, False as a test -/
def tV (F : S → Res D) : S → Res Bool := fun r => (F r).bind fun d r => match d with
  | .bool b => .ok b r
  | _ => .bad
theorem tx_val (h : BX X W e ta fa) (he : ∀ whole, isTrue e X.env whole = (do let v ← whole; standAt e.pos; holding [v] (truthy v)) := by intro _; rfl) : TX X W e (tB ta) (tV fa) := by
  refine ⟨pt_val h.pe he, fun γ Oc r σ H fs g => ?_⟩
  refine SimAt.bind (t2 := fun x H1 Q => ∃ c, x = .bl c ∧ Q c H1) (h.sim γ Oc r σ H fs g) fun d r1 v H1 ⟨fs1, g1, v1, s1⟩ => ?_
  refine SimAt.tr s1 fun Q => ?_
  cases d with
  | bool b =>
    simp only [RE, R] at v1
    exact fun hq => ⟨b, v1, hq b H1 ⟨fs1, g1, rfl, Stp.refl _ _ _⟩⟩
  | _ => trivial
def tNotF (F : S → Res Bool) : S → Res Bool := fun r => (F r).bind fun b r => .ok (!b) r
def tAndF (F G : S → Res Bool) : S → Res Bool := fun r => (F r).bind fun b r => if b then G r else .ok false r
def tOrF (F G : S → Res Bool) : S → Res Bool := fun r => (F r).bind fun b r => if b then .ok true r else G r
variable {tA tB' : TT} {FA FB : S → Res Bool} {rest : List Expr}
theorem sim_tnot {K : PySem.W.Frag} {mg : Str → Option Value} (h : Sim K mg W (PTt K) tA FA) : Sim K mg W (PTt K) (tNot tA) (tNotF FA) := by
  intro γ Oc r σ H fs g
  refine SimAt.bind (t2 := fun c H1 Q => Q (!c) H1) (h γ Oc r σ H fs g) fun b r1 c H1 ⟨fs1, g1, v1, s1⟩ => ?_
  exact SimAt.tr s1 fun Q hq => hq _ _ ⟨fs1, g1, by rw [v1], Stp.refl _ _ _⟩
theorem sim_tand {K : PySem.W.Frag} {mg : Str → Option Value} (h : Sim K mg W (PTt K) tA FA) (h' : Sim K mg W (PTt K) tB' FB) : Sim K mg W (PTt K) (tAnd tA tB') (tAndF FA FB) := by
  intro γ Oc r σ H fs g
  refine SimAt.bind (t2 := fun c H1 Q => if c = true then tB' σ H1 Q else Q false H1) (h γ Oc r σ H fs g) fun b r1 c H1 ⟨fs1, g1, v1, s1⟩ => ?_
  refine SimAt.tr s1 ?_
  subst v1
  cases c with
  | true => exact h' γ Oc r1 σ H1 fs1 g1
  | false => exact fun Q hq => hq _ _ ⟨fs1, g1, rfl, Stp.refl _ _ _⟩
theorem sim_tor {K : PySem.W.Frag} {mg : Str → Option Value} (h : Sim K mg W (PTt K) tA FA) (h' : Sim K mg W (PTt K) tB' FB) : Sim K mg W (PTt K) (tOr tA tB') (tOrF FA FB) := by
  intro γ Oc r σ H fs g
  refine SimAt.bind (t2 := fun c H1 Q => if c = true then Q true H1 else tB' σ H1 Q) (h γ Oc r σ H fs g) fun b r1 c H1 ⟨fs1, g1, v1, s1⟩ => ?_
  refine SimAt.tr s1 ?_
  subst v1
  cases c with
  | false => exact h' γ Oc r1 σ H1 fs1 g1
  | true => exact fun Q hq => hq _ _ ⟨fs1, g1, rfl, Stp.refl _ _ _⟩
theorem tx_not (h : TX X W a tA FA) : TX X W (.UnaryOp .Not a pos) (tNot tA) (tNotF FA) := ⟨pt_not h.pe, sim_tnot h.sim⟩
/-- a chain of and, or, as a test -/
structure WXt (X : Cx) (W : WX) (e : Expr) (t : TT) (F : S → Res Bool) : Prop where
  pe : PW X e t
  sim : Sim X.K X.mg W (PTt X.K) t F
theorem WXt.t (h : WXt X W e tA FA) : TX X W e tA FA := ⟨h.pe.pt, h.sim⟩
theorem wx_and1 (h : TX X W a tA FA) : WXt X W (.BoolOp .And [a] pos) tA FA := ⟨pw_and1 h.pe, h.sim⟩
theorem wx_or1 (h : TX X W a tA FA) : WXt X W (.BoolOp .Or [a] pos) tA FA := ⟨pw_or1 h.pe, h.sim⟩
theorem wx_and (h : TX X W a tA FA) (h' : WXt X W (.BoolOp .And (b :: rest) pos) tB' FB) : WXt X W (.BoolOp .And (a :: b :: rest) pos) (tAnd tA tB') (tAndF FA FB) := ⟨pw_and h.pe h'.pe, sim_tand h.sim h'.sim⟩
theorem wx_or (h : TX X W a tA FA) (h' : WXt X W (.BoolOp .Or (b :: rest) pos) tB' FB) : WXt X W (.BoolOp .Or (a :: b :: rest) pos) (tOr tA tB') (tOrF FA FB) := ⟨pw_or h.pe h'.pe, sim_tor h.sim h'.sim⟩
def eAndF (fa : S → Res D) (G : S → Res SV) : S → Res SV := fun r => (fa r).bind fun x r => match x with
  | .bool true => G r
  | .bool false => Res.ok (SV.fz (PyData.bool false)) r
  | _ => Res.bad
def eOrF (fa : S → Res D) (G : S → Res SV) : S → Res SV := fun r => (fa r).bind fun x r => match x with
  | .bool false => G r
  | .bool true => Res.ok (SV.fz (PyData.bool true)) r
  | _ => Res.bad
def eNotF (fa : S → Res D) : S → Res SV := fun r => (fa r).bind fun x r => match x with
  | .bool b => Res.ok (SV.fz (PyData.bool (!b))) r
  | _ => Res.bad
theorem ex_one {op} (h : EX X W a ta F) : EX X W (.BoolOp op [a] pos) ta F := ⟨pe_one h.pe, h.sim⟩
theorem ex_and {G : S → Res SV} (h : BX X W a ta fa) (h' : EX X W (.BoolOp .And (b :: rest) pos) tb G) : EX X W (.BoolOp .And (a :: b :: rest) pos) (tAndV ta tb) (eAndF fa G) := by
  refine ⟨pe_and h.pe h'.pe, fun γ Oc r σ H fs g => ?_⟩
  refine SimAt.bind (t2 := fun x H1 Q => ∃ c, x = .bl c ∧ if c = true then tb σ H1 Q else Q (.bl false) H1) (h.sim γ Oc r σ H fs g) fun d r1 v H1 ⟨fs1, g1, v1, s1⟩ => ?_
  refine SimAt.tr s1 ?_
  cases d with
  | bool b =>
    simp only [RE, R] at v1
    cases b with
    | true =>
      exact (h'.sim γ Oc r1 σ H1 fs1 g1).imp fun Q z => ⟨true, v1, by rw [if_pos rfl]; exact z⟩
    | false => exact fun Q hq => ⟨false, v1, by rw [if_neg (by simp)]; exact hq _ _ ⟨fs1, [], g1, ⟨by simp [R], rfl⟩, Stp.refl _ _ _, by simp⟩⟩
  | _ => exact fun Q => trivial
theorem ex_or {G : S → Res SV} (h : BX X W a ta fa) (h' : EX X W (.BoolOp .Or (b :: rest) pos) tb G) : EX X W (.BoolOp .Or (a :: b :: rest) pos) (tOrV ta tb) (eOrF fa G) := by
  refine ⟨pe_or h.pe h'.pe, fun γ Oc r σ H fs g => ?_⟩
  refine SimAt.bind (t2 := fun x H1 Q => ∃ c, x = .bl c ∧ if c = true then Q (.bl true) H1 else tb σ H1 Q) (h.sim γ Oc r σ H fs g) fun d r1 v H1 ⟨fs1, g1, v1, s1⟩ => ?_
  refine SimAt.tr s1 ?_
  cases d with
  | bool b =>
    simp only [RE, R] at v1
    cases b with
    | false =>
      exact (h'.sim γ Oc r1 σ H1 fs1 g1).imp fun Q z => ⟨false, v1, by rw [if_neg (by simp)]; exact z⟩
    | true => exact fun Q hq => ⟨true, v1, by rw [if_pos rfl]; exact hq _ _ ⟨fs1, [], g1, ⟨by simp [R], rfl⟩, Stp.refl _ _ _, by simp⟩⟩
  | _ => exact fun Q => trivial
theorem ex_not (h : BX X W a ta fa) : EX X W (.UnaryOp .Not a pos) (tNotV ta) (eNotF fa) := by
  refine ⟨pe_not h.pe, fun γ Oc r σ H fs g => ?_⟩
  refine SimAt.bind (t2 := fun (x : V) H1 (Q : VK) => ∃ c, x = V.bl c ∧ Q (V.bl (!c)) H1) (h.sim γ Oc r σ H fs g) fun d r1 v H1 ⟨fs1, g1, v1, s1⟩ => ?_
  refine SimAt.tr s1 fun Q => ?_
  cases d with
  | bool b =>
    simp only [RE, R] at v1
    exact fun hq => ⟨b, v1, hq _ _ ⟨fs1, [], g1, ⟨by simp [R], rfl⟩, Stp.refl _ _ _, by simp⟩⟩
  | _ => trivial
/-- a if t else b -/
def eIfF (T : S → Res Bool) (F G : S → Res SV) : S → Res SV := fun r => (T r).bind fun b r => if b then F r else G r
theorem ex_if {F G : S → Res SV} (hc : TX X W c tA FA) (ha : EX X W a ta F) (hb : EX X W b tb G) : EX X W (.IfExp c a b pos) (tIf tA ta tb) (eIfF FA F G) := by
  refine ⟨pe_ifExp hc.pe ha.pe hb.pe, fun γ Oc r σ H fs g => ?_⟩
  refine SimAt.bind (t2 := fun c H1 Q => if c = true then ta σ H1 Q else tb σ H1 Q) (hc.sim γ Oc r σ H fs g) fun b r1 c H1 ⟨fs1, g1, v1, s1⟩ => ?_
  refine SimAt.tr s1 ?_
  subst v1
  cases c with
  | true => exact ha.sim γ Oc r1 σ H1 fs1 g1
  | false => exact hb.sim γ Oc r1 σ H1 fs1 g1
end
end QL
namespace QL
open PySem PySem.Spec L2
section
variable {X : Cx} {W : WX} {e a b c : Expr} {es : List Expr} {ta tb tc : TE} {tl : TA} {fa fb fc : S → Res D} {F : S → Res SV} {FL : S → Res (List D)} {pos : Pos}
def aNil : S → Res (List D) := fun r => .ok [] r
def aCons (fa : S → Res D) (F : S → Res (List D)) : S → Res (List D) := fun r => (fa r).bind fun d r => (F r).bind fun ds r => .ok (d :: ds) r
theorem ax_nil : AX X W [] tNil aNil := ⟨pa_nil, fun γ Oc r σ H fs g Q hq => hq [] H ⟨fs, g, by simp [Rs], Stp.refl _ _ _⟩⟩
theorem ax_cons (h : FX X W e ta fa) (h' : AX X W es tl FL) (hs : starEach (e :: es) X.env = (false, eval e X.env) :: starEach es X.env := by rfl) : AX X W (e :: es) (tCons ta tl) (aCons fa FL) := by
  refine ⟨pa_cons h.pe h'.pe hs, fun γ Oc r σ H fs g => ?_⟩
  refine SimAt.bind (t2 := fun x H1 Q => tl σ H1 fun xs H2 => Q (x :: xs) H2) (h.sim γ Oc r σ H fs g) fun d r1 v H1 ⟨fs1, g1, v1, s1⟩ => ?_
  refine SimAt.tr s1 (SimAt.bind (t2 := fun xs H2 Q => Q (v :: xs) H2) (h'.sim γ Oc r1 σ H1 fs1 g1) fun ds r2 vs H2 ⟨fs2, g2, v2, s2⟩ => ?_)
  refine SimAt.tr s2 fun Q hq => hq _ _ ⟨fs2, g2, ?_, Stp.refl _ _ _⟩
  simp only [Rs]
  exact ⟨v, vs, rfl, R.stab g1.ow (g1.stabSub s2) _ _ v1, v2⟩
def eLst (F : S → Res (List D)) : S → Res SV := fun r => (F r).bind fun ds r => if ds.length ≤ sizeLine then .ok (.ol ds) r else .bad
def eTup (F : S → Res (List D)) : S → Res SV := fun r => (F r).bind fun ds r => if ds.length ≤ sizeLine then .ok (.fz (.tuple ds)) r else .bad
theorem ex_lst (h : AX X W es tl FL) : EX X W (.List es pos) (tLst tl) (eLst FL) := by
  refine ⟨pe_lst h.pe, fun γ Oc r σ H fs g => ?_⟩
  refine SimAt.bind (t2 := fun (xs : List V) (H1 : Hp) (Q : VK) => xs.length ≤ sizeLine ∧ ∀ p, H1 p = none → Q (V.ref p) (upd H1 p (HO.lst xs))) (h.sim γ Oc r σ H fs g) fun ds r1 vs H1 ⟨fs1, g1, v1, s1⟩ => ?_
  refine SimAt.tr s1 ?_
  split
  · rename_i hl
    intro Q hq
    exact ⟨by rw [v1.len]; exact hl, fun p hp => ovq_of (z := .nl ds) g1 hq p vs hp v1⟩
  · exact fun Q => trivial
theorem ex_tup {tp : Option Expr} (h : AX X W es tl FL) (hp : PE X e (tTup tl)) : EX X W e (tTup tl) (eTup FL) := by
  refine ⟨hp, fun γ Oc r σ H fs g => ?_⟩
  refine SimAt.bind (t2 := fun (xs : List V) (H1 : Hp) (Q : VK) => xs.length ≤ sizeLine ∧ ∀ p, H1 p = none → Q (V.ref p) (upd H1 p (HO.tup xs))) (h.sim γ Oc r σ H fs g) fun ds r1 vs H1 ⟨fs1, g1, v1, s1⟩ => ?_
  refine SimAt.tr s1 ?_
  split
  · rename_i hl
    intro Q hq
    exact ⟨by rw [v1.len]; exact hl, fun p hp => ovq_of (z := .nt ds) g1 hq p vs hp v1⟩
  · exact fun Q => trivial
/-- {} -/
def eDK : S → Res SV := fun r => .ok (.od []) r
def eDT : S → Res SV := fun r => .ok (.ot []) r
def dIx : D → D → Option OV
  | .list ds, .int i => (atI ds i).map .fz
  | .tuple ds, .int i => (atI ds i).map .fz
  | .str z, .int i => if z.length ≤ sizeLine then (atI z.cps.toList i).map fun c => .fz (.str (tx [c])) else none
  | _, _ => none
theorem ops_ix {K : PySem.W.Frag} : OpS K (rIx K) dIx := by
  intro γ O H x y v w z Q ow hx hy e hq
  unfold dIx at e
  split at e
  · rename_i ds i
    simp only [Option.map_eq_some_iff] at e
    obtain ⟨d, e1, e2⟩ := e
    subst e2
    obtain ⟨a, vs, q1, q2, q3⟩ := hx.tracked
    simp only [RE, R] at hy
    obtain ⟨u, h1, h2⟩ := q3.at e1
    exact .inl ⟨a, vs, i, u, q1, hy, .inl (.inl q2), h1, hq u h2⟩
  · rename_i ds i
    simp only [Option.map_eq_some_iff] at e
    obtain ⟨d, e1, e2⟩ := e
    subst e2
    simp only [RE, R] at hx hy
    obtain ⟨a, vs, q1, q2, q3⟩ := hx
    obtain ⟨u, h1, h2⟩ := q3.at e1
    exact .inr (.inl ⟨a, vs, i, u, q1, hy, TupAt.sq q2, h1, hq u h2⟩)
  · rename_i s i
    split at e
    · rename_i hl
      simp only [Option.map_eq_some_iff] at e
      obtain ⟨c, e1, e2⟩ := e
      subst e2
      simp only [RE, R] at hx hy
      exact .inr (.inr ⟨s, i, c, hx, hy, hl, e1, hq _ (by simp [R]; rfl)⟩)
    · cases e
  · cases e
theorem ex_ix (ha : BX X W a ta fa) (hb : BX X W b tb fb) (hs : PlainIx b) : EX X W (.Subscript a b pos) (tOp (rIx X.K) ta tb) (fOp dIx fa fb) :=
  ⟨pe_ix ix_seq ha.pe hb.pe hs, sim_op ops_ix ha.sim hb.sim⟩
def cutL {α : Type} (xs : List α) (lo hi : Option Int) : List α := (xs.drop (HT.sIx xs.length 0 lo)).take (HT.sIx xs.length xs.length hi - HT.sIx xs.length 0 lo)
def dSl (x : D) (lo hi : Option Int) : Option OV := match x with
  | .list ds => some (.nl (cutL ds lo hi))
  | .str z => if z.length ≤ sizeLine then some (.fz (.str (tx (cutL z.cps.toList lo hi)))) else none
  | .tuple ds => if HT.sIx ds.length 0 lo = 0 ∧ HT.sIx ds.length ds.length hi = ds.length then some (.fz (.tuple ds)) else some (.nt (cutL ds lo hi))
  | _ => none
def oNon : S → Res (Option Int) := fun r => .ok none r
def oSom (fa : S → Res D) : S → Res (Option Int) := fun r => (fa r).bind fun d r => match d with
  | .int i => Res.ok (some i) r
  | _ => Res.bad
def fSl (fa : S → Res D) (fl fh : S → Res (Option Int)) : S → Res SV := fun r => (fa r).bind fun x r => (fl r).bind fun l r => (fh r).bind fun h r => ovR (dSl x l h) r
theorem Rs.cut {K : PySem.W.Frag} {O : List Addr} {H : Hp} {ds : List D} {vs : List V} (h : Rs K O H ds vs) (lo hi : Option Int) : Rs K O H (cutL ds lo hi) (cutV vs lo hi) := by
  unfold cutL cutV
  rw [h.len]
  exact (h.drop _).take _
def dRev : D → Option OV
  | .list ds => some (.nl ds.reverse)
  | .str z => if z.length ≤ sizeLine then some (.fz (.str (tx z.cps.toList.reverse))) else none
  | _ => none
end
end QL
namespace QL
open PySem PySem.Spec L2
inductive RS where
  | nx (s : S) | bk (s : S) | ct (s : S) | rt (v : SV) (s : S) | exc (c : Str) (f : List (Str × D)) (s : S) | bad
def Res.bindS {α : Type} (r : Res α) (k : α → S → RS) : RS :=
  match r with
  | .ok a s => k a s
  | .exc c f s => .exc c f s
  | .bad => .bad
variable (K : PySem.W.Frag) (mg : Str → Option Value)
def NP (γ : Gh) (Oc : List Addr) (r' : S) (H : Hp) (fs : List Addr) (σ' : St) (H' : Hp) : Prop := ∃ fs', Good K γ Oc r' σ' H' fs' ∧ Evo fs H fs' H'
def RP (γ : Gh) (Oc : List Addr) (r' : S) (H : Hp) (fs : List Addr) (x : SV) (v : V) (H' : Hp) : Prop :=
  ∃ σ' fs' fp, Good K γ (fp ++ Oc) r' σ' H' fs' ∧ SVR K γ (fs' ++ (fp ++ Oc)) H' x v fp ∧ Evo fs H (fs' ++ fp) H'
def XPs (γ : Gh) (Oc : List Addr) (r' : S) (H : Hp) (fs : List Addr) (σ' : St) (H' : Hp) (c : Str) (f : List (Str × D)) (C : Addr) (d : Option Addr) : Prop :=
  ∃ fs', Good K γ Oc r' σ' H' fs' ∧ Evo fs H fs' H' ∧ mg c = some (.ref C) ∧ XR K (fs' ++ Oc) H' f d
def SimSAt (W : WX) (γ : Gh) (Oc : List Addr) (H : Hp) (fs : List Addr) (t : Ends → Prop) (R : RS) : Prop :=
  ∀ E : Ends, match R with
    | .nx r' => (∀ σ' H', NP K γ Oc r' H fs σ' H' → E.nx σ' H') → t E
    | .bk r' => (∀ σ' H', NP K γ Oc r' H fs σ' H' → E.bk σ' H') → t E
    | .ct r' => (∀ σ' H', NP K γ Oc r' H fs σ' H' → E.ct σ' H') → t E
    | .rt x r' => (∀ v H', RP K γ Oc r' H fs x v H' → E.rt v H') → t E
    | .exc c f r' => (∀ C d σ' H', XPs K mg γ Oc r' H fs σ' H' c f C d → W (.ref C) d σ' H') → t E
    | .bad => True
def SimS (W : WX) (t : TS) (F : S → RS) : Prop :=
  ∀ γ Oc r σ H fs, Good K γ Oc r σ H fs → SimSAt K mg W γ Oc H fs (fun E => t E σ H) (F r)
section
variable {K : PySem.W.Frag} {mg : Str → Option Value} {W : WX} {γ : Gh} {Oc : List Addr} {r r1 r2 : S} {σ : St} {H H' H1 H2 : Hp} {fs fs1 fp : List Addr}
theorem NP.tr {r' : S} {σ' : St} (s : Evo fs H fs1 H1) (h : NP K γ Oc r' H1 fs1 σ' H') : NP K γ Oc r' H fs σ' H' := by
  obtain ⟨f, g, e⟩ := h
  exact ⟨f, g, s.trans e⟩
theorem RP.tr {r' : S} {x : SV} {v : V} (s : Evo fs H fs1 H1) (h : RP K γ Oc r' H1 fs1 x v H') : RP K γ Oc r' H fs x v H' := by
  obtain ⟨σ', f, p, g, z, e⟩ := h
  exact ⟨σ', f, p, g, z, s.trans e⟩
theorem XPs.tr {r' : S} {σ' : St} {c : Str} {f : List (Str × D)} {C : Addr} {d : Option Addr} (s : Evo fs H fs1 H1) (h : XPs K mg γ Oc r' H1 fs1 σ' H' c f C d) : XPs K mg γ Oc r' H fs σ' H' c f C d := by
  obtain ⟨f, g, e, z⟩ := h
  exact ⟨f, g, s.trans e, z⟩
theorem XP.ps {r' : S} {c : Str} {f : List (Str × D)} {C : Addr} {d : Option Addr} (h : XP K mg γ Oc r' σ H fs H' c f C d) : XPs K mg γ Oc r' H fs σ H' c f C d := by
  obtain ⟨f, g, e, z⟩ := h
  exact ⟨f, g, e.evo, z⟩
theorem SimSAt.tr {t : Ends → Prop} {R : RS} (s : Evo fs H fs1 H1) (h : SimSAt K mg W γ Oc H1 fs1 t R) : SimSAt K mg W γ Oc H fs t R := by
  intro E
  have z := h E
  cases R with
  | bad => trivial
  | nx r' => exact fun q => z fun σ' H' p => q _ _ (p.tr s)
  | bk r' => exact fun q => z fun σ' H' p => q _ _ (p.tr s)
  | ct r' => exact fun q => z fun σ' H' p => q _ _ (p.tr s)
  | rt x r' => exact fun q => z fun σ' H' p => q _ _ (p.tr s)
  | exc c f r' => exact fun q => z fun C d σ' H' p => q _ _ _ _ (p.tr s)
theorem SimSAt.imp {t t' : Ends → Prop} {R : RS} (h : SimSAt K mg W γ Oc H fs t R) (hi : ∀ E, t E → t' E) : SimSAt K mg W γ Oc H fs t' R := by
  intro E
  have z := h E
  cases R with
  | bad => trivial
  | nx r' => exact fun q => hi _ (z q)
  | bk r' => exact fun q => hi _ (z q)
  | ct r' => exact fun q => hi _ (z q)
  | rt x r' => exact fun q => hi _ (z q)
  | exc c f r' => exact fun q => hi _ (z q)
/-- an expression ahead of a statement's end -/
theorem SimSAt.bindE {α β : Type} {P : Pst α β} {t1 : (β → Hp → Prop) → Prop} {t2 : β → Hp → Ends → Prop} {x : Res α} {F2 : α → S → RS}
    (h1 : SimAt K mg W P γ Oc σ H fs t1 x) (h2 : ∀ a r1 y H1, P γ Oc r1 σ H fs H1 a y → SimSAt K mg W γ Oc H fs (t2 y H1) (F2 a r1)) :
    SimSAt K mg W γ Oc H fs (fun E => t1 fun y H1 => t2 y H1 E) (x.bindS F2) := by
  intro E
  cases x with
  | bad => trivial
  | exc c f r' => exact fun hw => h1 _ fun C d H' p => hw C d σ H' p.ps
  | ok a r1 =>
    have eb : (Res.ok a r1).bindS F2 = F2 a r1 := rfl
    rw [eb]
    have k := fun y H1 p => h2 a r1 y H1 p E
    generalize F2 a r1 = z at k ⊢
    cases z with
    | bad => trivial
    | nx r' => exact fun q => h1 _ fun y H1 p => k y H1 p q
    | bk r' => exact fun q => h1 _ fun y H1 p => k y H1 p q
    | ct r' => exact fun q => h1 _ fun y H1 p => k y H1 p q
    | rt x r' => exact fun q => h1 _ fun y H1 p => k y H1 p q
    | exc c f r' => exact fun q => h1 _ fun y H1 p => k y H1 p q
/-- count's way to "no address twice" -/
theorem nd_of {l l' : List Addr} (h : ∀ a, l'.count a ≤ l.count a) (n : l.Nodup) : l'.Nodup :=
  List.nodup_iff_count.mpr fun a => Nat.le_trans (h a) (List.nodup_iff_count.mp n a)
/-- a value goes into a slot -/
theorem Good.store {x : SV} {v : V} {i : Nat} (g : Good K γ (fp ++ Oc) r σ H fs) (hv : SVR K γ (fs ++ (fp ++ Oc)) H x v fp) (hi : i < r.sl.length) :
    ∃ fs', Good K γ Oc { r with sl := r.sl.set i (some x) } (σ.set i (some v)) H fs' ∧ ∀ a ∈ fs', a ∈ fs ∨ a ∈ fp := by
  obtain ⟨⟨f1, f2, e, sl, tp⟩, nd, ow, tt⟩ := g
  obtain ⟨a1, a2, a3, e2, _, hset, _⟩ := sl.upd hi
  have sub : ∀ a ∈ ((a1 ++ (fp ++ a3)) ++ f2) ++ Oc, a ∈ fs ++ (fp ++ Oc) := fun a z => by
    rw [e, e2]
    simp only [List.mem_append] at z ⊢
    rcases z with ((z | z | z) | z) | z <;> simp [z]
  have st : Stab (fs ++ (fp ++ Oc)) H (((a1 ++ (fp ++ a3)) ++ f2) ++ Oc) H := Stab.weak sub fun _ _ z => z
  refine ⟨(a1 ++ (fp ++ a3)) ++ f2, ⟨⟨_, f2, rfl, hset ow st (fun _ _ => rfl) (hv.stab ow st fun _ _ => rfl), tp⟩, ?_, ow.mono sub, tt⟩, fun a z => ?_⟩
  · refine nd_of (fun a => ?_) nd
    rw [e, e2]
    simp only [List.count_append]
    omega
  · rw [e, e2]
    simp only [List.mem_append] at z ⊢
    rcases z with (z | z | z) | z <;> simp [z]
/-- a slot's value is taken out -/
theorem Good.take {x : SV} {i : Nat} (g : Good K γ Oc r σ H fs) (h : r.sl[i]? = some (some x)) :
    ∃ v fs' fp, σ[i]? = some (some v) ∧ Good K γ (fp ++ Oc) { r with sl := r.sl.set i none } σ H fs' ∧ SVR K γ (fs' ++ (fp ++ Oc)) H x v fp ∧ ∀ a ∈ fs' ++ fp, a ∈ fs := by
  obtain ⟨⟨f1, f2, e, sl, tp⟩, nd, ow, tt⟩ := g
  have hi : i < r.sl.length := (List.getElem?_eq_some_iff.mp h).1
  obtain ⟨a1, a2, a3, e2, hy, _, hlet⟩ := sl.upd hi
  obtain ⟨v, e3, hv⟩ := hy _ h
  have sub : ∀ a ∈ ((a1 ++ a3) ++ f2) ++ (a2 ++ Oc), a ∈ fs ++ Oc := fun a z => by
    rw [e, e2]
    simp only [List.mem_append] at z ⊢
    rcases z with ((z | z) | z) | z | z <;> simp [z]
  have st : Stab (fs ++ Oc) H (((a1 ++ a3) ++ f2) ++ (a2 ++ Oc)) H := Stab.weak sub fun _ _ z => z
  refine ⟨v, (a1 ++ a3) ++ f2, a2, e3, ⟨⟨_, f2, rfl, hlet ow st fun _ _ => rfl, tp⟩, ?_, ow.mono sub, tt⟩, hv.stab ow st fun _ _ => rfl, fun a z => ?_⟩
  · refine nd_of (fun a => ?_) nd
    rw [e, e2]
    simp only [List.count_append]
    omega
  · rw [e, e2]
    simp only [List.mem_append] at z ⊢
    rcases z with ((z | z) | z) | z <;> simp [z]
end
/-- a statement: its rule and its mirror -/
structure SX (X : Cx) (W : WX) (st : Stmt) (t : TS) (F : S → RS) : Prop where
  ps : PS X st t
  sim : SimS X.K X.mg W t F
structure SSX (X : Cx) (W : WX) (st : List Stmt) (t : TS) (F : S → RS) : Prop where
  ps : PSs X st t
  sim : SimS X.K X.mg W t F
/-- a target -/
structure GX (X : Cx) (tg : Expr) (g : TG) (G : D → S → Option S) : Prop where
  pg : PG X tg g
  sim : ∀ γ Oc r σ H fs d v r', Good X.K γ Oc r σ H fs → R X.K (fs ++ Oc) H d v → G d r = some r' → ∀ Q, (∀ σ' fs', Good X.K γ Oc r' σ' H fs' → (∀ a ∈ fs', a ∈ fs) → Q σ' H) → g v σ H Q
section
variable {X : Cx} {W : WX} {e a b c : Expr} {es : List Expr} {st : Stmt} {rest : List Stmt} {ta tb tc : TE} {tl : TA} {tA : TT} {fa fb fc : S → Res D} {F G : S → Res SV} {B B2 : S → RS} {FA : S → Res Bool} {t u : TS} {pos : Pos}
def sNext : S → RS := fun r => .nx r
def sBad : S → RS := fun _ => .bad
def RS.go (x : RS) (k : S → RS) : RS := match x with
  | .nx r => k r
  | .bk r => .bk r
  | .ct r => .ct r
  | .rt v r => .rt v r
  | .exc c f r => .exc c f r
  | .bad => .bad
def sSeq (F G : S → RS) : S → RS := fun r => (F r).go G
theorem sim_seq {K : PySem.W.Frag} {mg : Str → Option Value} (h1 : SimS K mg W t B) (h2 : SimS K mg W u B2) : SimS K mg W (tSeq t u) (sSeq B B2) := by
  intro γ Oc r σ H fs g E
  have z := h1 γ Oc r σ H fs g { E with nx := u E }
  unfold sSeq
  cases e : B r with
  | bad => trivial
  | bk r' => rw [e] at z; exact z
  | ct r' => rw [e] at z; exact z
  | rt x r' => rw [e] at z; exact z
  | exc c f r' => rw [e] at z; exact z
  | nx r' =>
    rw [e] at z
    have k := fun σ' H' fs' g' (v : Evo fs H fs' H') => SimSAt.tr v (h2 γ Oc r' σ' H' fs' g') E
    have eg : (RS.nx r').go B2 = B2 r' := rfl
    rw [eg]
    generalize B2 r' = y at k ⊢
    cases y with
    | bad => trivial
    | nx r2 => exact fun q => z fun σ' H' ⟨fs', g', v⟩ => k σ' H' fs' g' v q
    | bk r2 => exact fun q => z fun σ' H' ⟨fs', g', v⟩ => k σ' H' fs' g' v q
    | ct r2 => exact fun q => z fun σ' H' ⟨fs', g', v⟩ => k σ' H' fs' g' v q
    | rt x r2 => exact fun q => z fun σ' H' ⟨fs', g', v⟩ => k σ' H' fs' g' v q
    | exc c f r2 => exact fun q => z fun σ' H' ⟨fs', g', v⟩ => k σ' H' fs' g' v q
theorem sim_next {K : PySem.W.Frag} {mg : Str → Option Value} : SimS K mg W tNext sNext := fun γ Oc r σ H fs g E q => q σ H ⟨fs, g, Evo.refl _ _⟩
theorem ssx_nil : SSX X W [] tNext sNext := ⟨pss_nil, sim_next⟩
theorem ssx_one (h : SX X W st t B) : SSX X W [st] t B := ⟨pss_one h.ps, h.sim⟩
theorem ssx_cons (h : SX X W st t B) (h2 : SSX X W rest u B2) : SSX X W (st :: rest) (tSeq t u) (sSeq B B2) := ⟨pss_cons h.ps h2.ps, sim_seq h.sim h2.sim⟩
theorem sx_never : SX X W st tNever sBad := ⟨ps_never, fun γ Oc r σ H fs g E => trivial⟩
/-- an expression as a statement -/
def sExp (F : S → Res SV) : S → RS := fun r => (F r).bindS fun _ r => .nx r
theorem sx_expr (h : EX X W e ta F) (hs : swapsWith e none pos.line X.env = pure false := by rfl) : SX X W (.Expr e pos) (tDrop ta) (sExp F) := by
  refine ⟨ps_expr h.pe hs, fun γ Oc r σ H fs g => ?_⟩
  refine SimSAt.bindE (t2 := fun (y : V) (H1 : Hp) (E : Ends) => E.nx σ H1) (h.sim γ Oc r σ H fs g) fun x r1 y H1 p => ?_
  obtain ⟨fs', fp, g', v', s, n⟩ := p
  exact fun E q => q _ _ ⟨fs', g'.drop, s.evo⟩
/-- return -/
def sRet (F : S → Res SV) : S → RS := fun r => (F r).bindS fun x r => .rt x r
theorem sx_ret (h : EX X W e ta F) : SX X W (.Return (some e) pos) (tRet ta) (sRet F) := by
  refine ⟨ps_ret h.pe, fun γ Oc r σ H fs g => ?_⟩
  refine SimSAt.bindE (t2 := fun (y : V) (H1 : Hp) (E : Ends) => E.rt y H1) (h.sim γ Oc r σ H fs g) fun x r1 y H1 p => ?_
  obtain ⟨fs', fp, g', v', s, n⟩ := p
  refine fun E q => q _ _ ⟨σ, fs', fp, g', v', ⟨fun a h => ?_, fun a o e hn ht => s.keep a o e (fun _ => hn) ht, s.there, s.tb⟩⟩
  rcases List.mem_append.mp h with h | h
  · exact .inl (s.sub a h)
  · exact .inr (n a h)
def sRetN : S → RS := fun r => .rt (.fz .none) r
/-- return x: what the name owns goes along -/
def sRetV (i : Nat) : S → RS := fun r => match r.sl[i]? with
  | some (some x) => .rt x { r with sl := r.sl.set i none }
  | _ => .bad
theorem sx_retV {i : Nat} (h : PE X e (tVar i)) : SX X W (.Return (some e) pos) (tRet (tVar i)) (sRetV i) := by
  refine ⟨ps_ret h, fun γ Oc r σ H fs g E => ?_⟩
  unfold sRetV
  cases q : r.sl[i]? with
  | none => trivial
  | some o =>
    cases o with
    | none => trivial
    | some x =>
      intro hq
      obtain ⟨v, fs', fp, e1, g', v', sub⟩ := g.take q
      exact ⟨v, e1, hq _ _ ⟨σ, fs', fp, g', v', fun a h => .inl (sub a h), fun a o z _ _ => z, fun a z => z, fun _ z => z⟩⟩
/-- if -/
def sIf (T : S → Res Bool) (A B : S → RS) : S → RS := fun r => (T r).bindS fun b r => if b then A r else B r
theorem sx_if {p q : List Stmt} (hc : TX X W c tA FA) (h1 : SSX X W p t B) (h2 : SSX X W q u B2) : SX X W (.If c p q pos) (tIfS tA t u) (sIf FA B B2) := by
  refine ⟨ps_if hc.pe h1.ps h2.ps, fun γ Oc r σ H fs g => ?_⟩
  refine SimSAt.bindE (t2 := fun (c : Bool) (H1 : Hp) (E : Ends) => if c = true then t E σ H1 else u E σ H1) (hc.sim γ Oc r σ H fs g) fun b r1 c H1 ⟨fs1, g1, v1, s1⟩ => ?_
  refine SimSAt.tr s1.evo ?_
  subst v1
  cases c with
  | true => exact h1.sim γ Oc r1 σ H1 fs1 g1
  | false => exact h2.sim γ Oc r1 σ H1 fs1 g1
/-- a slot is set -/
def setS (i : Nat) (x : SV) (r : S) : RS := if i < r.sl.length then .nx { r with sl := r.sl.set i (some x) } else .bad
def sAsg (i : Nat) (F : S → Res SV) : S → RS := fun r => (F r).bindS fun x r => setS i x r
theorem sim_setS {K : PySem.W.Frag} {mg : Str → Option Value} {γ : Gh} {Oc fs fp fs0 : List Addr} {r : S} {σ : St} {H H0 : Hp} {i : Nat} {x : SV} {v : V} (g : Good K γ (fp ++ Oc) r σ H fs) (hv : SVR K γ (fs ++ (fp ++ Oc)) H x v fp) (s : Evo fs0 H0 (fs ++ fp) H) :
    SimSAt K mg W γ Oc H0 fs0 (fun E => E.nx (σ.set i (some v)) H) (setS i x r) := by
  unfold setS
  split
  · rename_i hi
    intro E q
    obtain ⟨fs', g', sub⟩ := g.store hv hi
    refine q _ _ ⟨fs', g', fun a h => s.sub a ?_, @Evo.keep _ _ _ _ s, s.there, s.tb⟩
    exact List.mem_append.mpr (sub a h)
  · exact fun E => trivial
theorem Stp.evo2 {T : Option Addr} {fs fs' fp : List Addr} {H H' : Hp} (s : Stp T fs H fs' H') (n : ∀ a ∈ fp, H a = Option.none) : Evo fs H (fs' ++ fp) H' :=
  ⟨fun a h => (List.mem_append.mp h).elim (fun z => .inl (s.sub a z)) fun z => .inr (n a z), fun a o e hn ht => s.keep a o e (fun _ => hn) ht, s.there, s.tb⟩
theorem sx_asg {i : Nat} {tg : Expr} (h : EX X W e ta F) (hp : PS X (.Assign [tg] e pos) (tAsg ta (gName i))) : SX X W (.Assign [tg] e pos) (tAsg ta (gName i)) (sAsg i F) := by
  refine ⟨hp, fun γ Oc r σ H fs g => ?_⟩
  refine SimSAt.bindE (t2 := fun (y : V) (H1 : Hp) (E : Ends) => E.nx (σ.set i (some y)) H1) (h.sim γ Oc r σ H fs g) fun x r1 y H1 p => ?_
  obtain ⟨fs', fp, g', v', s, n⟩ := p
  exact sim_setS g' v' (s.evo2 n)
end
section
variable {K : PySem.W.Frag} {mg : Str → Option Value} {W : WX} {γ : Gh} {Oc Oc' : List Addr} {r r1 r2 : S} {σ : St} {H H' H1 H2 : Hp} {fs fs1 fp : List Addr}
theorem Good.perm (g : Good K γ Oc r σ H fs) (p : Oc.Perm Oc') : Good K γ Oc' r σ H fs := by
  obtain ⟨⟨f1, f2, e, sl, tp⟩, nd, ow, tt⟩ := g
  have sub : ∀ a ∈ fs ++ Oc', a ∈ fs ++ Oc := fun a h => by
    simp only [List.mem_append] at h ⊢
    exact h.imp id fun z => p.mem_iff.mpr z
  refine ⟨⟨f1, f2, e, sl.stab ow (Stab.weak sub fun _ _ z => z) fun _ _ => rfl, tp⟩, ?_, ow.mono sub, tt⟩
  exact (List.Perm.nodup_iff (List.Perm.append_left fs p)).mp nd
theorem SVR.mono {O O' : List Addr} {x : SV} {v : V} (ow : Own O H) (s : ∀ a ∈ O', a ∈ O) (h : SVR K γ O H x v fp) : SVR K γ O' H x v fp := h.stab ow (Stab.weak s fun _ _ z => z) fun _ _ => rfl
def SVRs (K : PySem.W.Frag) (γ : Gh) (O : List Addr) (H : Hp) : List SV → List V → List Addr → Prop
  | [], vs, fp => vs = [] ∧ fp = []
  | x :: xs, vs, fp => ∃ v ws f1 f2, vs = v :: ws ∧ fp = f1 ++ f2 ∧ SVR K γ O H x v f1 ∧ SVRs K γ O H xs ws f2
theorem SVRs.stab {O O' : List Addr} (ow : Own O H) (st : Stab O H O' H') : ∀ {xs : List SV} {vs : List V} {fp : List Addr}, (∀ a ∈ fp, H' a = H a) → SVRs K γ O H xs vs fp → SVRs K γ O' H' xs vs fp
  | [], vs, fp, _, h => h
  | x :: xs, vs, fp, k, h => by
    obtain ⟨v, ws, f1, f2, e1, e2, h1, h2⟩ := h
    subst e2
    exact ⟨v, ws, f1, f2, e1, rfl, h1.stab ow st fun a z => k a (List.mem_append_left _ z), SVRs.stab ow st (fun a z => k a (List.mem_append_right _ z)) h2⟩
def POL (K : PySem.W.Frag) : Pst (List SV) (List V) := fun γ Oc r' σ H fs H' xs vs => ∃ fs' fp, Good K γ (fp ++ Oc) r' σ H' fs' ∧ SVRs K γ (fs' ++ (fp ++ Oc)) H' xs vs fp ∧ Stp γ.T fs H fs' H' ∧ ∀ a ∈ fp, H a = none
instance : PstT (POL K) := ⟨fun s ⟨f, p, a, b, c, d⟩ => ⟨f, p, a, b, s.trans c, fun x hx => s.none (d x hx)⟩⟩
/-- what stands while new objects come -/
theorem Good.stabNew {f2 : List Addr} (s : Stp γ.T fs H fs1 H1) (n : ∀ a ∈ f2, H a = none) : Stab (fs ++ (fp ++ Oc)) H (fs1 ++ ((fp ++ f2) ++ Oc)) H1 := fun a h e => by
  simp only [List.mem_append, not_or] at h ⊢
  have nf : a ∉ fs := h.1
  refine ⟨⟨fun z => nf (s.sub a z), ⟨h.2.1, fun z => e (n a z)⟩, h.2.2⟩, fun u hu q => ?_, fun u hu q => s.keep a _ q (fun _ => nf) hu.nt⟩
  rcases q with q | ⟨o, q⟩
  · exact .inl (s.keep a _ q (fun _ => nf) hu.nt)
  · exact .inr ⟨o, s.keep a _ q fun _ => nf⟩
theorem Good.tmp (g : Good K γ (fp ++ Oc) r σ H fs) (s : Stp γ.T fs H fs1 H1) : ∀ a ∈ fp, H1 a = H a := fun a h => by
  obtain ⟨o, ho, ld⟩ := g.ow a (by simp [h])
  rw [ho]
  refine s.keep a o ho (fun hT hf => ?_) ld.nt
  exact (List.nodup_append.mp g.nd).2.2 a hf a (by simp [h]) rfl
end
/-- owned arguments: their rule and their mirror -/
structure OAX (X : Cx) (W : WX) (es : List Expr) (t : TA) (F : S → Res (List SV)) : Prop where
  pe : PA X es t
  sim : Sim X.K X.mg W (POL X.K) t F
section
variable {X : Cx} {W : WX} {e a b c : Expr} {es : List Expr} {st : Stmt} {rest : List Stmt} {ta tb tc : TE} {tl : TA} {tA : TT} {fa fb fc : S → Res D} {F G : S → Res SV} {FL : S → Res (List SV)} {B B2 : S → RS} {FA : S → Res Bool} {t u : TS} {pos : Pos}
def oNil : S → Res (List SV) := fun r => .ok [] r
def oCons (F : S → Res SV) (G : S → Res (List SV)) : S → Res (List SV) := fun r => (F r).bind fun x r => (G r).bind fun xs r => .ok (x :: xs) r
theorem oax_nil : OAX X W [] tNil oNil := ⟨pa_nil, fun γ Oc r σ H fs g Q hq => hq [] H ⟨fs, [], g, ⟨rfl, rfl⟩, Stp.refl _ _ _, by simp⟩⟩
theorem oax_cons (h : EX X W e ta F) (h' : OAX X W es tl FL) (hs : starEach (e :: es) X.env = (false, eval e X.env) :: starEach es X.env := by rfl) : OAX X W (e :: es) (tCons ta tl) (oCons F FL) := by
  refine ⟨pa_cons h.pe h'.pe hs, fun γ Oc r σ H fs g => ?_⟩
  refine SimAt.bind (t2 := fun (x : V) (H1 : Hp) (Q : List V → Hp → Prop) => tl σ H1 fun xs H2 => Q (x :: xs) H2) (h.sim γ Oc r σ H fs g) fun x r1 v H1 ⟨fs1, f1, g1, v1, s1, n1⟩ => ?_
  intro Q
  have z := h'.sim γ (f1 ++ Oc) r1 σ H1 fs1 g1
  have sub : ∀ {f2 : List Addr}, ∀ a ∈ f2 ++ Oc, a ∈ f2 ++ (f1 ++ Oc) := fun {f2} a h => by
    simp only [List.mem_append] at h ⊢
    rcases h with h | h <;> simp [h]
  cases q : FL r1 with
  | bad => trivial
  | exc c f r' =>
    rw [q] at z
    refine fun hw => z _ fun C d H2 p => hw C d H2 ?_
    obtain ⟨fs2, g2, s2, m, y⟩ := p
    refine ⟨fs2, g2.drop, s1.trans s2, m, ?_⟩
    rcases y with y | ⟨dd, ws, e1, e2, e3, e4⟩
    · exact .inl y
    · exact .inr ⟨dd, ws, e1, e2, e3, Rs.stab g2.ow (Stab.weak sub fun _ _ z => z) _ _ e4⟩
  | ok xs r2 =>
    rw [q] at z
    refine fun hq => z _ fun ws H2 p => hq (v :: ws) H2 ?_
    obtain ⟨fs2, f2, g2, v2, s2, n2⟩ := p
    have pm : (f2 ++ (f1 ++ Oc)).Perm ((f1 ++ f2) ++ Oc) := by
      rw [← List.append_assoc]
      exact List.Perm.append_right Oc List.perm_append_comm
    refine ⟨fs2, f1 ++ f2, g2.perm pm, ⟨v, ws, f1, f2, rfl, rfl, v1.stab g1.ow (Good.stabNew s2 n2) (g1.tmp s2), v2.stab g2.ow (Stab.weak (fun a h => ?_) fun _ _ z => z) fun _ _ => rfl⟩, s1.trans s2, fun a h => ?_⟩
    · simp only [List.mem_append] at h ⊢
      rcases h with h | (h | h) | h <;> simp [h]
    · rcases List.mem_append.mp h with h | h
      · exact n1 a h
      · exact s1.none (n2 a h)
/-- x, y = a, b -/
def sPar2 (i j : Nat) (F : S → Res (List SV)) : S → RS := fun r => (F r).bindS fun xs r => match xs with
  | [x, y] => (setS i x r).go fun r => setS j y r
  | _ => .bad
def sPar3 (i j l : Nat) (F : S → Res (List SV)) : S → RS := fun r => (F r).bindS fun xs r => match xs with
  | [x, y, z] => (setS i x r).go fun r => (setS j y r).go fun r => setS l z r
  | _ => .bad
theorem sim_set2 {K : PySem.W.Frag} {mg : Str → Option Value} {γ : Gh} {Oc fs fs0 f1 f2 : List Addr} {r : S} {σ : St} {H H0 : Hp} {i : Nat} {x : SV} {v : V} {R2 : S → RS} {k : St → Ends → Prop} (g : Good K γ ((f1 ++ f2) ++ Oc) r σ H fs) (hv : SVR K γ (fs ++ ((f1 ++ f2) ++ Oc)) H x v f1) (s : Evo fs0 H0 (fs ++ (f1 ++ f2)) H)
    (h : ∀ fs', Good K γ (f2 ++ Oc) { r with sl := r.sl.set i (some x) } (σ.set i (some v)) H fs' → (∀ a ∈ fs', a ∈ fs ++ f1) → Evo fs0 H0 (fs' ++ f2) H → SimSAt K mg W γ Oc H0 fs0 (k (σ.set i (some v))) (R2 { r with sl := r.sl.set i (some x) })) :
    SimSAt K mg W γ Oc H0 fs0 (k (σ.set i (some v))) ((setS i x r).go R2) := by
  unfold setS
  split
  · rename_i hi
    rw [List.append_assoc] at g hv
    obtain ⟨fs', g', sub⟩ := g.store hv hi
    refine h fs' g' (fun a z => List.mem_append.mpr (sub a z)) ⟨fun a z => s.sub a ?_, @Evo.keep _ _ _ _ s, s.there, s.tb⟩
    simp only [List.mem_append] at z ⊢
    rcases z with z | z
    · rcases sub a z with z | z <;> simp [z]
    · simp [z]
  · exact fun E => trivial
theorem sx_par2 {i j : Nat} {tg : Expr} (h : OAX X W [a, b] tl FL) (hp : PS X (.Assign [tg] c pos) (tPar i j tl)) : SX X W (.Assign [tg] c pos) (tPar i j tl) (sPar2 i j FL) := by
  refine ⟨hp, fun γ Oc r σ H fs g => ?_⟩
  refine SimSAt.bindE (t2 := fun (vs : List V) (H1 : Hp) (E : Ends) => ∃ v w, vs = [v, w] ∧ E.nx ((σ.set i (some v)).set j (some w)) H1) (h.sim γ Oc r σ H fs g) fun xs r1 vs H1 p => ?_
  obtain ⟨fs1, fp, g1, v1, s1, n1⟩ := p
  split
  · rename_i x y
    obtain ⟨v, ws, f1, f2', e1, e2, h1, h2⟩ := v1
    obtain ⟨w, ws', f2, f3, e3, e4, h3, h4⟩ := h2
    obtain ⟨e5, e6⟩ := h4
    subst e6 e5 e4 e3 e2 e1
    rw [List.append_nil] at *
    refine SimSAt.imp (t := fun E => E.nx ((σ.set i (some v)).set j (some w)) H1) ?_ fun E q => ⟨v, w, rfl, q⟩
    refine sim_set2 (k := fun σ' E => E.nx (σ'.set j (some w)) H1) g1 h1 (s1.evo2 n1) fun fs2 g2 sub s2 => ?_
    refine sim_setS g2 (h3.mono g1.ow fun a z => ?_) s2
    simp only [List.mem_append] at z ⊢
    rcases z with z | z | z
    · rcases List.mem_append.mp (sub a z) with z | z <;> simp [z]
    · simp [z]
    · simp [z]
  · exact fun E => trivial
def whileF (T : S → Res Bool) (B : S → RS) : Nat → S → RS
  | 0, _ => .bad
  | n + 1, r => (T r).bindS fun b r => if b then (match B r with
    | .nx r => whileF T B n r
    | .ct r => whileF T B n r
    | .bk r => .nx r
    | .rt v r => .rt v r
    | .exc c f r => .exc c f r
    | .bad => .bad) else .nx r
def fuel : Nat := 1000000000000
def sWhile (T : S → Res Bool) (B : S → RS) : S → RS := whileF T B fuel
/-- what is wanted of a run, as a wish about its mirror's end -/
def Goal (K : PySem.W.Frag) (mg : Str → Option Value) (W : WX) (γ : Gh) (Oc : List Addr) (H : Hp) (fs : List Addr) (E : Ends) : RS → Prop
  | .nx r' => ∀ σ' H', NP K γ Oc r' H fs σ' H' → E.nx σ' H'
  | .bk r' => ∀ σ' H', NP K γ Oc r' H fs σ' H' → E.bk σ' H'
  | .ct r' => ∀ σ' H', NP K γ Oc r' H fs σ' H' → E.ct σ' H'
  | .rt x r' => ∀ v H', RP K γ Oc r' H fs x v H' → E.rt v H'
  | .exc c f r' => ∀ C d σ' H', XPs K mg γ Oc r' H fs σ' H' c f C d → W (.ref C) d σ' H'
  | .bad => False
theorem SimSAt.use {K : PySem.W.Frag} {mg : Str → Option Value} {γ : Gh} {Oc : List Addr} {H : Hp} {fs : List Addr} {t : Ends → Prop} {R : RS} (h : SimSAt K mg W γ Oc H fs t R) {E : Ends} (g : Goal K mg W γ Oc H fs E R) : t E := by
  have z := h E
  cases R with
  | bad => exact False.elim g
  | nx r' => exact z g
  | bk r' => exact z g
  | ct r' => exact z g
  | rt x r' => exact z g
  | exc c f r' => exact z g
theorem SimSAt.mk {K : PySem.W.Frag} {mg : Str → Option Value} {γ : Gh} {Oc : List Addr} {H : Hp} {fs : List Addr} {t : Ends → Prop} {R : RS} (h : ∀ E : Ends, Goal K mg W γ Oc H fs E R → t E) : SimSAt K mg W γ Oc H fs t R := by
  intro E
  have z := h E
  cases R with
  | bad => trivial
  | nx r' => exact z
  | bk r' => exact z
  | ct r' => exact z
  | rt x r' => exact z
  | exc c f r' => exact z
theorem Goal.tr {K : PySem.W.Frag} {mg : Str → Option Value} {γ : Gh} {Oc : List Addr} {H H1 : Hp} {fs fs1 : List Addr} {E : Ends} {R : RS} (s : Evo fs H fs1 H1) (h : Goal K mg W γ Oc H fs E R) : Goal K mg W γ Oc H1 fs1 E R := by
  cases R with
  | bad => exact h
  | nx r' => exact fun σ' H' p => h _ _ (p.tr s)
  | bk r' => exact fun σ' H' p => h _ _ (p.tr s)
  | ct r' => exact fun σ' H' p => h _ _ (p.tr s)
  | rt x r' => exact fun σ' H' p => h _ _ (p.tr s)
  | exc c f r' => exact fun C d σ' H' p => h _ _ _ _ (p.tr s)
/-- a test by its mirror's end -/
theorem SimAt.useT {K : PySem.W.Frag} {mg : Str → Option Value} {γ : Gh} {Oc : List Addr} {σ : St} {H H0 : Hp} {fs fs0 : List Addr} {E : Ends} {t1 : (Bool → Hp → Prop) → Prop} {x : Res Bool} {k : Bool → S → RS} {Q : Bool → Hp → Prop} (h : SimAt K mg W (PTt K) γ Oc σ H fs t1 x) (ev : Evo fs0 H0 fs H) (g : Goal K mg W γ Oc H0 fs0 E (x.bindS k))
    (hq : ∀ b r1 H1 fs1, Good K γ Oc r1 σ H1 fs1 → Evo fs H fs1 H1 → Goal K mg W γ Oc H0 fs0 E (k b r1) → Q b H1) : t1 Q := by
  have z := h Q
  cases x with
  | bad => exact False.elim g
  | exc c f r' => exact z fun C d H' p => g C d σ H' (p.ps.tr ev)
  | ok b r1 =>
    refine z fun c H1 p => ?_
    obtain ⟨fs1, g1, e, s1⟩ := p
    subst e
    exact hq c r1 H1 fs1 g1 s1.evo g
theorem sim_while {K : PySem.W.Frag} {mg : Str → Option Value} {T : S → Res Bool} (hc : Sim K mg W (PTt K) tA T) (hb : SimS K mg W t B) : SimS K mg W (tWhile tA t) (sWhile T B) := by
  intro γ Oc r0 σ0 H0 fs0 g0
  refine SimSAt.mk fun E hE => ?_
  refine ⟨fun m σ H => ∃ r fs, Good K γ Oc r σ H fs ∧ Evo fs0 H0 fs H ∧ Goal K mg W γ Oc H0 fs0 E (whileF T B m r), ⟨fuel, r0, fs0, g0, Evo.refl _ _, hE⟩, ?_⟩
  rintro m σ H ⟨r, fs, g, ev, hG⟩
  cases m with
  | zero => exact False.elim hG
  | succ n =>
    refine SimAt.useT (hc γ Oc r σ H fs g) ev hG fun b r1 H1 fs1 g1 e1 hG1 => ?_
    cases b with
    | false =>
      rw [if_neg (by simp)] at hG1 ⊢
      exact hG1 _ _ ⟨fs1, g1, ev.trans e1⟩
    | true =>
      rw [if_pos rfl] at hG1 ⊢
      refine ⟨fun σ' H' => ∃ r' fs', Good K γ Oc r' σ' H' fs' ∧ Evo fs0 H0 fs' H' ∧ Goal K mg W γ Oc H0 fs0 E (whileF T B n r'), fun σ' H' h => ⟨n, Nat.lt_succ_self n, h⟩, ?_⟩
      refine SimSAt.use (SimSAt.tr (ev.trans e1) (hb γ Oc r1 σ H1 fs1 g1)) ?_
      cases eB : B r1 with
      | bad => rw [eB] at hG1; exact hG1
      | nx r2 => rw [eB] at hG1; exact fun σ' H' ⟨fs2, g2, e2⟩ => ⟨r2, fs2, g2, e2, hG1⟩
      | ct r2 => rw [eB] at hG1; exact fun σ' H' ⟨fs2, g2, e2⟩ => ⟨r2, fs2, g2, e2, hG1⟩
      | bk r2 => rw [eB] at hG1; exact hG1
      | rt x r2 => rw [eB] at hG1; exact hG1
      | exc c f r2 => rw [eB] at hG1; exact hG1
theorem sx_while {body : List Stmt} (hp : PassesOwn (model X.prog X.w) X.A X.env X.xe) (hc : TX X W c tA FA) (hb : SSX X W body t B) : SX X W (.While c body [] pos) (tWhile tA t) (sWhile FA B) := ⟨ps_while hp hc.pe hb.ps, sim_while hc.sim hb.sim⟩
/-- the turns tell the items -/
def Ylds (K : PySem.W.Frag) (O : List Addr) (H : Hp) (J : It) (ds : List D) : Prop :=
  ∀ O' H', Own O' H' → Stab O H O' H' → ∀ i, (i < ds.length → J.go i H' ∧ ∀ x H2, J.yld i H' x H2 → (∀ a o, H' a = some o → H2 a = some o) ∧ ∀ d, ds[i]? = some d → R K O' H2 d x) ∧ (i = ds.length → J.stop i H')
def PIt (K : PySem.W.Frag) : Pst (List D) It := fun γ Oc r' σ H fs H' ds J => ∃ fs', Good K γ Oc r' σ H' fs' ∧ Ylds K (fs' ++ Oc) H' J ds ∧ Stp γ.T fs H fs' H'
end
/-- what is walked: its rule and its mirror -/
structure IX (X : Cx) (W : WX) (tg iter : Expr) (t : TI) (F : S → Res (List D)) : Prop where
  pi : PI X tg iter t
  sim : Sim X.K X.mg W (PIt X.K) t F
section
variable {X : Cx} {W : WX} {e a b c tg : Expr} {es : List Expr} {st : Stmt} {rest : List Stmt} {ta tb tc : TE} {tl : TA} {tA : TT} {fa fb fc : S → Res D} {F G : S → Res SV} {FL : S → Res (List SV)} {B B2 : S → RS} {FA : S → Res Bool} {t u : TS} {wi : TI} {gt : TG} {pos : Pos}
def forF (G : D → S → Option S) (B : S → RS) : List D → S → RS
  | [], r => .nx r
  | d :: ds, r => match G d r with
    | none => .bad
    | some r => match B r with
      | .nx r => forF G B ds r
      | .ct r => forF G B ds r
      | .bk r => .nx r
      | .rt v r => .rt v r
      | .exc c f r => .exc c f r
      | .bad => .bad
def sFor (I : S → Res (List D)) (G : D → S → Option S) (B : S → RS) : S → RS := fun r => (I r).bindS fun ds r => forF G B ds r
theorem Evo.own {K : PySem.W.Frag} {γ : Gh} {Oc fs fs' : List Addr} {r : S} {σ : St} {H H' : Hp} (g : Good K γ Oc r σ H' fs') : Own (fs' ++ Oc) H' := g.ow
theorem Good.kept {K : PySem.W.Frag} {γ : Gh} {Oc fs : List Addr} {r : S} {σ : St} {H H' : Hp} (g : Good K γ Oc r σ H fs) (k : SameT H H') : Good K γ Oc r σ H' fs := by
  have := g.grow (fp := []) k (by simp) (by simp) (by simp [Own])
  simpa using this
theorem Evo.kept {fs : List Addr} {H H' : Hp} (k : SameT H H') : Evo fs H fs H' := (Stp.same none fs k).evo
theorem sx_for {body : List Stmt} {IF : S → Res (List D)} {GF : D → S → Option S} (hp : PassesOwn (model X.prog X.w) X.A X.env X.xe) (hc : X.calm = true) (hi : IX X W tg a wi IF) (hg : GX X tg gt GF) (hb : SSX X W body t B)
    (hs : ∀ x, foldedSetIterable a X.env x = pure x := by intro _; rfl) : SX X W (.For tg a body [] pos) (tFor wi gt t) (sFor IF GF B) := by
  refine ⟨ps_for hp hc hi.pi hg.pg hb.ps hs, fun γ Oc r0 σ0 H00 fs00 g00 => ?_⟩
  refine SimSAt.imp (SimSAt.bindE (t2 := fun (J : It) (H1 : Hp) (E : Ends) => ∃ W : Nat → Nat → St → Hp → Prop, (∃ m, W 0 m σ0 H1) ∧ ∀ i m σ H, W i m σ H →
    (J.stop i H ∧ E.nx σ H) ∨ (J.go i H ∧ ∃ N : St → Hp → Prop, (∀ σ' H', N σ' H' → ∃ m', m' < m ∧ W (i + 1) m' σ' H') ∧ ∀ x H', J.yld i H x H' → gt x σ H' fun σ2 H2 => t { E with nx := N, ct := N, bk := E.nx } σ2 H2)) (hi.sim γ Oc r0 σ0 H00 fs00 g00) fun ds r1 J H0 p => ?_) fun E h => h
  obtain ⟨fs0, g0, yl, s0⟩ := p
  refine SimSAt.tr s0.evo (SimSAt.mk fun E hE => ?_)
  refine ⟨fun i m σ H => m = ds.length - i ∧ i ≤ ds.length ∧ ∃ r fs, Good X.K γ Oc r σ H fs ∧ Evo fs0 H0 fs H ∧ Goal X.K X.mg W γ Oc H0 fs0 E (forF GF B (ds.drop i) r), ⟨ds.length, by simp, Nat.zero_le _, r1, fs0, g0, Evo.refl _ _, by simpa using hE⟩, ?_⟩
  rintro i m σ H ⟨rfl, hil, r, fs, g, ev, hG⟩
  obtain ⟨go, stop⟩ := yl (fs ++ Oc) H g.ow ev.stab i
  by_cases hlt : i < ds.length
  · obtain ⟨hgo, hy⟩ := go hlt
    rw [List.drop_eq_getElem_cons hlt] at hG
    refine .inr ⟨hgo, fun σ' H' => ∃ r' fs', Good X.K γ Oc r' σ' H' fs' ∧ Evo fs0 H0 fs' H' ∧ Goal X.K X.mg W γ Oc H0 fs0 E (forF GF B (ds.drop (i + 1)) r'), fun σ' H' h => ⟨ds.length - (i + 1), by omega, rfl, hlt, h⟩, fun x H2 y => ?_⟩
    obtain ⟨kp, hx⟩ := hy x H2 y
    replace kp := SameT.of kp
    have rx := hx ds[i] (List.getElem?_eq_getElem hlt)
    have g2 := g.kept kp
    have ev2 := ev.trans (Evo.kept (fs := fs) kp)
    unfold forF at hG
    cases eG : GF ds[i] r with
    | none => rw [eG] at hG; exact False.elim hG
    | some r2 =>
      rw [eG] at hG
      refine hg.sim γ Oc r σ H2 fs ds[i] x r2 g2 rx eG _ fun σ2 fs2 g3 sub => ?_
      have ev3 : Evo fs0 H0 fs2 H2 := ⟨fun a h => ev2.sub a (sub a h), @Evo.keep _ _ _ _ ev2, ev2.there, ev2.tb⟩
      refine SimSAt.use (SimSAt.tr ev3 (hb.sim γ Oc r2 σ2 H2 fs2 g3)) ?_
      dsimp only at hG
      cases eB : B r2 with
      | bad => rw [eB] at hG; exact hG
      | nx r3 => rw [eB] at hG; exact fun σ' H' ⟨fs4, g4, e4⟩ => ⟨r3, fs4, g4, e4, hG⟩
      | ct r3 => rw [eB] at hG; exact fun σ' H' ⟨fs4, g4, e4⟩ => ⟨r3, fs4, g4, e4, hG⟩
      | bk r3 => rw [eB] at hG; exact hG
      | rt x r3 => rw [eB] at hG; exact hG
      | exc c f r3 => rw [eB] at hG; exact hG
  · have e : ds.drop i = [] := List.drop_eq_nil_of_le (by omega)
    rw [e] at hG
    exact .inl ⟨stop (by omega), hG _ _ ⟨fs, g, ev⟩⟩
end
end QL
namespace QL
open PySem PySem.Spec L2
structure FnG (P : Program) (w : World) (K : PySem.W.Frag) (mg : Str → Option Value) (base : Heap) (k : Nat) (f : Addr) (fd : FuncData) (ps : List Str) (sp : Sp) : Prop where
  len : ∀ vs H Q E, sp vs H Q E → vs.length = ps.length
  run : ∀ (A : Around) (out : List Env) (s : Shared) (H : Hp) (gs : Args) (us : List Value) (vs : List V) (Q : VK) (E : XK), A.guards = some [] → Room k A → Env0 P w K mg base A out s H →
    BindsTo s fd gs (ps.zip us) → Vals vs us → sp vs H Q E → codeAny (model P w) A (.call (.ref f) gs) (CR (L2.CX P w) out P w H s Q E) s
section
variable {P : Program} {w : World} {K : PySem.W.Frag} {mg : Str → Option Value} {base : Heap} {j k : Nat} {f : Addr} {fd : FuncData} {ps : List Str} {sp sp' : Sp}
theorem FnG.mono (F : FnG P w K mg base j f fd ps sp) (h : j ≤ k) : FnG P w K mg base k f fd ps sp :=
  ⟨F.len, fun A out s H gs us vs Q E hG hr => F.run A out s H gs us vs Q E hG (hr.mono h)⟩
theorem FnG.imp (F : FnG P w K mg base k f fd ps sp) (h : ∀ vs H Q E, sp' vs H Q E → sp vs H Q E) : FnG P w K mg base k f fd ps sp' :=
  ⟨fun vs H Q E q => F.len vs H Q E (h _ _ _ _ q), fun A out s H gs us vs Q E hG hr he hb hv q => F.run A out s H gs us vs Q E hG hr he hb hv (h _ _ _ _ q)⟩
/-- a def's body keeps the promise -/
theorem fg_ofC {qual x : Str} {st : Stmt} {N : List Str} (F : Fun K x qual st f fd) (S : FnScope N ps (defScope st)) (len : ∀ vs H Q E, sp vs H Q E → vs.length = ps.length)
    (hbody : ∀ (cdv : Value), fd.code = cdv → ∀ (A : Around) (out : List Env) (s : Shared) (H : Hp) (vs : List V) (Q : VK) (E : XK), A.guards = some [] → Room k (A.deeper (PyProof.Rows.envOfC qual (defScope st) s.heap.objs.size f cdv)) → sp vs H Q E →
      ∃ t, PSs (cxOf (L2.CX P w) P w K mg base N qual (defScope st) f cdv A out s H E) (defBody st) t ∧ t { nx := fun _ H' => Q .non H', rt := Q } (L2.start N vs) H) : FnG P w K mg base (k + 1) f fd ps sp := by
  obtain ⟨ocl, odi, kv, dv, mv, ann, cv, tv, osl, rfl, hlk, hcode⟩ := F.ex
  refine ⟨len, fun A out s H gs us vs Q E hG hr e0 hbind rv hsp => ?_⟩
  have hl := len _ _ _ _ hsp
  have kin : K.In s.heap := e0.mod.kin.keeps fun a u e => (e0.bs a u e).1
  have nol : s.heap.NoLimit := e0.mod.nolimit.keeps fun a u e => (e0.bs a u e).1
  have kinds : ∀ q ∈ ps.zip us, (defScope st).names.lookup q.1 = some .local ∨ ((defScope st).names.lookup q.1 = some .cell ∧ ((cellsFrom (s.heap.objs.size + 1) (defScope st).names []).lookup q.1).isSome = true) := fun ⟨nm, u⟩ hq => by
    rcases S.par nm (List.of_mem_zip hq).1 with z | z
    · exact .inl z
    · exact .inr ⟨z, PySem.W.cellsFrom_some _ _ _ (.inl z)⟩
  refine codeAny_call_function hr.depth (kin _ _ hlk) rfl S.co S.gen rfl (PySem.W.codeRec_of kin hcode) (hbind _ _ _ _ ?_)
  refine wpAny_newFunctionEnv_cells S.kind kinds fun env henv s2 y => ?_
  subst henv
  refine ⟨nol.keeps y.toInCall.keep, codeAny_func ?_⟩
  obtain ⟨t, ht, hq⟩ := hbody cv rfl A out s H vs Q E hG (hr.deeper _) hsp
  have J0 : Inv (cxOf (L2.CX P w) P w K mg base N qual (defScope st) f cv A out s H E) [] (L2.start N vs) H s2 := inv_start S hr.hd e0 hl rv y
  refine wpAny_mono (ht.run [] s2 (L2.start N vs) H _ J0 hq) (fun fl s' hs => ?_) fun e s' hs => hs
  cases fl with
  | ret u =>
    obtain ⟨v, σ', H', J, ru, q⟩ := hs
    exact ⟨v, H', J.os, J.bare, J.base, J.hok, ru, q⟩
  | next =>
    obtain ⟨σ', H', J, q⟩ := hs
    exact ⟨V.non, H', J.os, J.bare, J.base, J.hok, rfl, q⟩
  | brk => obtain ⟨_, _, _, q⟩ := hs; exact q.elim
  | cont => obtain ⟨_, _, _, q⟩ := hs; exact q.elim
theorem fg_of {qual x : Str} {st : Stmt} {N : List Str} (F : Fun K x qual st f fd) (S : FnScope N ps (defScope st)) (len : ∀ vs H Q E, sp vs H Q E → vs.length = ps.length)
    (hbody : ∀ (cdv : Value) (A : Around) (out : List Env) (s : Shared) (H : Hp) (vs : List V) (Q : VK) (E : XK), A.guards = some [] → Room k (A.deeper (PyProof.Rows.envOfC qual (defScope st) s.heap.objs.size f cdv)) → sp vs H Q E →
      ∃ t, PSs (cxOf (L2.CX P w) P w K mg base N qual (defScope st) f cdv A out s H E) (defBody st) t ∧ t { nx := fun _ H' => Q .non H', rt := Q } (L2.start N vs) H) : FnG P w K mg base (k + 1) f fd ps sp :=
  fg_ofC F S len fun cdv _ A out s H vs Q E hG hr h => hbody cdv A out s H vs Q E hG hr h
end
inductive FR where
  | ok (x : SV) (tp : Option (Int × Int)) | exc (c : Str) (f : List (Str × D)) (tp : Option (Int × Int)) | bad
/-- a value that may be handed out -/
def SV.out : SV → Bool
  | .tape => false
  | .scr _ => false
  | .ob _ _ => false
  | _ => true
abbrev g0 : Gh := ⟨none, 0, [], []⟩
theorem tabs0 {H : Hp} : TabsL [] H := fun p hp => nomatch hp
theorem SVR.ghost {K : PySem.W.Frag} {γ γ' : Gh} {O : List Addr} {H : Hp} {x : SV} {v : V} {fp : List Addr} (hx : x.out = true) (h : SVR K γ O H x v fp) : SVR K γ' O H x v fp := by
  cases x with
  | fz d => exact h
  | ol d => exact h
  | od d => exact h
  | ot d => exact h
  | ob c d => cases hx
  | tape => cases hx
  | scr => cases hx
/-- .. but the object at T, too -/
structure SameU (T : Addr) (H H' : Hp) : Prop where
  kp : ∀ a o, H a = some o → a ≠ T → (ht : isTbl o = false := by rfl) → H' a = some o
  th : ∀ x, NN H x → NN H' x
  tb : ∀ P, TabL H P → TabL H' P
/-- a def without the tape: n its arguments -/
def spF (K : PySem.W.Frag) (mg : Str → Option Value) (n : Nat) (F : List D → FR) : Sp := fun vs H Q E => ∃ (ds : List D) (O : List Addr), vs.length = n ∧ Own O H ∧ O.Nodup ∧ Rs K O H ds vs ∧ match F ds with
  | .ok x _ => x.out = true ∧ ∀ H' v fp, SameT H H' → fp.Nodup → (∀ a ∈ fp, H a = none) → Own fp H' → SVR K g0 (fp ++ O) H' x v fp → Q v H'
  | .exc c f _ => ∀ C d H', SameT H H' → mg c = some (.ref C) → XR K O H' f d → E (.ref C) d H'
  | .bad => False
/-- a def that takes the tape first -/
def spT (K : PySem.W.Frag) (mg : Str → Option Value) (n : Nat) (F : Int × Int → List D → FR) : Sp := fun vs H Q E => ∃ (T : Addr) (t : Int × Int) (vs' : List V) (ds : List D) (O : List Addr), vs = .ref T :: vs' ∧ vs'.length = n ∧ H T = some (tapeO t) ∧
  Own O H ∧ (T :: O).Nodup ∧ Rs K (T :: O) H ds vs' ∧ match F t ds with
  | .ok x (some t') => x.out = true ∧ ∀ H' v fp, SameU T H H' → H' T = some (tapeO t') → fp.Nodup → (∀ a ∈ fp, H a = none) → Own fp H' → SVR K g0 (fp ++ (T :: O)) H' x v fp → Q v H'
  | .exc c f (some t') => ∀ C d H', SameU T H H' → H' T = some (tapeO t') → mg c = some (.ref C) → XR K (T :: O) H' f d → E (.ref C) d H'
  | _ => False
/-- from a body's mirror: the slots at its start -/
def mkS (n : Nat) (ds : List SV) (tp : Option (Int × Int)) : S := ⟨ds.map some ++ List.replicate (n - ds.length) none, tp⟩
def outF (R : RS) : FR := match R with
  | .nx r => .ok (.fz .none) r.tp
  | .rt x r => if x.out then .ok x r.tp else .bad
  | .exc c f r => .exc c f r.tp
  | _ => .bad
def bodyF (n : Nat) (B : S → RS) (ds : List D) : FR := outF (B (mkS n (ds.map .fz) none))
def bodyT (n : Nat) (B : S → RS) (t : Int × Int) (ds : List D) : FR := outF (B (mkS n (.tape :: ds.map .fz) (some t)))
section
variable {K : PySem.W.Frag} {mg : Str → Option Value} {W : WX} {γ : Gh} {Oc : List Addr} {r r1 r2 : S} {σ : St} {H H' H1 H2 : Hp} {fs fs1 fp : List Addr}
theorem Slots.nones {O : List Addr} : ∀ (n : Nat) (σ : St), σ.length = n → Slots K γ O H (List.replicate n none) σ []
  | 0, σ, h => ⟨List.length_eq_zero_iff.mp h, rfl⟩
  | n + 1, [], h => by simp at h
  | n + 1, x :: σ, h => ⟨x, σ, rfl, Slots.nones n σ (by simpa using h)⟩
theorem Slots.start {O : List Addr} : ∀ {ds : List D} {vs : List V} {n : Nat}, Rs K O H ds vs → Slots K γ O H (ds.map (some ∘ SV.fz) ++ List.replicate n none) (vs.map some ++ List.replicate n none) []
  | [], vs, n, h => by
    simp only [Rs] at h
    subst h
    exact Slots.nones n _ (by simp)
  | d :: ds, vs, n, h => by
    simp only [Rs] at h
    obtain ⟨v, ws, e, h1, h2⟩ := h
    subst e
    exact ⟨v, _, [], [], rfl, rfl, ⟨h1, rfl⟩, Slots.start h2⟩
theorem Good.start0 {O : List Addr} {N : List Str} {ds : List D} {vs : List V} (ow : Own O H) (nd : O.Nodup) (h : Rs K O H ds vs) : Good K g0 O (mkS N.length (ds.map .fz) none) (L2.start N vs) H [] := by
  refine ⟨⟨[], [], rfl, ?_, rfl⟩, nd, ow, fun z => absurd rfl z, tabs0⟩
  unfold mkS L2.start
  rw [h.len, List.map_map, List.length_map]
  exact Slots.start h
theorem Good.startT {O : List Addr} {N : List Str} {ds : List D} {vs : List V} {T : Addr} {t : Int × Int} (ow : Own O H) (nd : (T :: O).Nodup) (hT : H T = some (tapeO t)) (h : Rs K (T :: O) H ds vs) :
    Good K ⟨some T, 0, [], []⟩ O (mkS N.length (.tape :: ds.map .fz) (some t)) (L2.start N (.ref T :: vs)) H [T] := by
  refine ⟨⟨[], [T], rfl, ?_, ⟨T, rfl, hT, rfl⟩⟩, nd, fun a z => ?_, fun _ z => (by cases z), tabs0⟩
  · unfold mkS L2.start
    rw [List.map_cons, List.map_cons, List.map_map, List.length_cons, List.length_cons, h.len, List.length_map]
    exact ⟨.ref T, _, [], [], rfl, rfl, ⟨⟨T, rfl, rfl⟩, rfl⟩, Slots.start h⟩
  · rcases List.mem_append.mp z with z | z
    · rw [List.mem_singleton.mp z]
      exact ⟨_, hT, trivial⟩
    · exact ow a z
end
section
variable {P : Program} {w : World} {K : PySem.W.Frag} {mg : Str → Option Value} {base : Heap} {k n : Nat} {f : Addr} {fd : FuncData} {ps N : List Str} {qual x : Str} {st : Stmt} {B : S → RS}
/-- a def without the tape, by its body's mirror -/
theorem fg_body (F : Fun K x qual st f fd) (S : FnScope N ps (defScope st)) (hn : ps.length = n)
    (hb : ∀ (cdv : Value) (A : Around) (out : List Env) (s : Shared) (H : Hp) (E : XK), A.guards = some [] → Room k (A.deeper (PyProof.Rows.envOfC qual (defScope st) s.heap.objs.size f cdv)) →
      ∃ t, SSX (cxOf (L2.CX P w) P w K mg base N qual (defScope st) f cdv A out s H E) (fun c d _ H' => E c d H') (defBody st) t B) : FnG P w K mg base (k + 1) f fd ps (spF K mg n (bodyF N.length B)) := by
  refine fg_of F S (fun vs H Q E h => ?_) fun cdv A out s H vs Q E hG hr h => ?_
  · obtain ⟨ds, O, hl, _⟩ := h
    rw [hl, hn]
  · obtain ⟨t, ht⟩ := hb cdv A out s H E hG hr
    refine ⟨t, ht.ps, ?_⟩
    obtain ⟨ds, O, hl, ow, nd, rs, h⟩ := h
    have g := Good.start0 (N := N) ow nd rs
    refine SimSAt.use (ht.sim _ _ _ _ _ _ g) ?_
    unfold bodyF at h
    have same : ∀ {fs' : List Addr} {H' : Hp}, Evo [] H fs' H' → SameT H H' := fun e => ⟨fun a o ho ht => e.keep a o ho (by simp) ht, e.there, e.tb⟩
    cases eB : B (mkS N.length (ds.map .fz) none) with
    | bad => rw [eB] at h; exact False.elim h
    | bk r => rw [eB] at h; exact False.elim h
    | ct r => rw [eB] at h; exact False.elim h
    | nx r =>
      rw [eB] at h
      intro σ' H' ⟨fs', g', e⟩
      exact h.2 H' .non [] (same e) (by simp) (by simp) (by simp [Own]) ⟨by simp [R], rfl⟩
    | rt y r =>
      rw [eB] at h
      intro v H' ⟨σ', fs', fp, g', hv, e⟩
      unfold outF at h
      dsimp only at h
      by_cases ho : y.out = true
      · rw [if_pos ho] at h
        have nd' := g'.nd
        have sub : ∀ a ∈ fp ++ O, a ∈ fs' ++ (fp ++ O) := fun a z => List.mem_append_right _ z
        refine h.2 H' v fp (same e) ((List.nodup_append.mp (List.nodup_append.mp nd').2.1).1) (fun a z => ?_) (g'.ow.mono fun a z => by simp [z]) (SVR.ghost ho (hv.mono g'.ow sub))
        rcases e.sub a (by simp [z]) with q | q
        · simp at q
        · exact q
      · rw [if_neg ho] at h
        exact False.elim h
    | exc c fl r =>
      rw [eB] at h
      intro C d σ' H' ⟨fs', g', e, m, xr⟩
      refine h C d H' (same e) m ?_
      rcases xr with z | ⟨dd, ws, e1, e2, e3, e4⟩
      · exact .inl z
      · exact .inr ⟨dd, ws, e1, e2, e3, Rs.stab g'.ow (Stab.weak (fun a z => List.mem_append_right _ z) fun _ _ z => z) _ _ e4⟩
/-- a def that takes the tape -/
theorem fg_bodyT (F : Fun K x qual st f fd) (S : FnScope N ps (defScope st)) (hn : ps.length = n + 1)
    (hb : ∀ (cdv : Value) (A : Around) (out : List Env) (s : Shared) (H : Hp) (E : XK), A.guards = some [] → Room k (A.deeper (PyProof.Rows.envOfC qual (defScope st) s.heap.objs.size f cdv)) →
      ∃ t, SSX (cxOf (L2.CX P w) P w K mg base N qual (defScope st) f cdv A out s H E) (fun c d _ H' => E c d H') (defBody st) t B) : FnG P w K mg base (k + 1) f fd ps (spT K mg n (bodyT N.length B)) := by
  refine fg_of F S (fun vs H Q E h => ?_) fun cdv A out s H vs Q E hG hr h => ?_
  · obtain ⟨T, t, vs', ds, O, e, hl, _⟩ := h
    rw [e, List.length_cons, hl, hn]
  · obtain ⟨t, ht⟩ := hb cdv A out s H E hG hr
    refine ⟨t, ht.ps, ?_⟩
    obtain ⟨T, t0, vs', ds, O, e0, hl, hT, ow, nd, rs, h⟩ := h
    subst e0
    have g := Good.startT (N := N) ow nd hT rs
    refine SimSAt.use (ht.sim _ _ _ _ _ _ g) ?_
    unfold bodyT at h
    have same : ∀ {fs' : List Addr} {H' : Hp}, Evo [T] H fs' H' → SameU T H H' := fun e => ⟨fun a o ho n ht => e.keep a o ho (by simpa using n) ht, e.there, e.tb⟩
    have top : ∀ {r : QL.S} {σ' : St} {fs' O' : List Addr} {H' : Hp}, Good K ⟨some T, 0, [], []⟩ O' r σ' H' fs' → ∃ t', r.tp = some t' ∧ H' T = some (tapeO t') ∧ T ∈ fs' := fun g => by
      obtain ⟨h1, t', h2, h3⟩ := g.tape rfl
      exact ⟨t', h2, h3, h1⟩
    cases eB : B (mkS N.length (.tape :: ds.map .fz) (some t0)) with
    | bad => rw [eB] at h; exact False.elim h
    | bk r => rw [eB] at h; exact False.elim h
    | ct r => rw [eB] at h; exact False.elim h
    | nx r =>
      rw [eB] at h
      intro σ' H' ⟨fs', g', e⟩
      obtain ⟨t', e1, e2, e3⟩ := top g'
      unfold outF at h
      dsimp only at h
      rw [e1] at h
      exact h.2 H' .non [] (same e) e2 (by simp) (by simp) (by simp [Own]) ⟨by simp [R], rfl⟩
    | rt y r =>
      rw [eB] at h
      intro v H' ⟨σ', fs', fp, g', hv, e⟩
      obtain ⟨t', e1, e2, e3⟩ := top g'
      unfold outF at h
      dsimp only at h
      rw [e1] at h
      by_cases ho : y.out = true
      · rw [if_pos ho] at h
        have nd' := g'.nd
        have sub : ∀ a ∈ fp ++ (T :: O), a ∈ fs' ++ (fp ++ O) := fun a z => by
          simp only [List.mem_append, List.mem_cons] at z ⊢
          rcases z with z | z | z
          · simp [z]
          · subst z; simp [e3]
          · simp [z]
        have nT : T ∉ fp := fun z => (List.nodup_append.mp nd').2.2 T e3 T (by simp [z]) rfl
        refine h.2 H' v fp (same e) e2 ((List.nodup_append.mp (List.nodup_append.mp nd').2.1).1) (fun a z => ?_) (g'.ow.mono fun a z => by simp [z]) (SVR.ghost ho (hv.mono g'.ow sub))
        rcases e.sub a (by simp [z]) with q | q
        · rw [List.mem_singleton.mp q] at z
          exact absurd z nT
        · exact q
      · rw [if_neg ho] at h
        exact False.elim h
    | exc c fl r =>
      rw [eB] at h
      intro C d σ' H' ⟨fs', g', e, m, xr⟩
      obtain ⟨t', e1, e2, e3⟩ := top g'
      unfold outF at h
      dsimp only at h
      rw [e1] at h
      refine h C d H' (same e) e2 m ?_
      rcases xr with z | ⟨dd, ws, q1, q2, q3, q4⟩
      · exact .inl z
      · refine .inr ⟨dd, ws, q1, q2, q3, Rs.stab g'.ow (Stab.weak (fun a z => ?_) fun _ _ z => z) _ _ q4⟩
        rcases List.mem_cons.mp z with z | z
        · subst z; simp [e3]
        · simp [z]
end
end QL
namespace QL
open PySem PySem.Spec L2
section
variable {X : Cx} {k n : Nat} {f : Addr} {fd : FuncData} {ps : List Str} {sp : Sp} {x : Str} {p pos : Pos} {e : Expr} {es : List Expr} {t : TA} {W : WX}
theorem run_fg {pins : List (Addr × Obj)} {σ : St} {H : Hp} {s : Shared} {Q : VK} {us : List Value} {vs : List V} (F : FnG X.prog X.w X.K X.mg X.base k f fd ps sp) (hG : X.A.guards = some []) (hr : Room k X.A) (hb : Binds X.K fd ps []) (tk : Takes X W)
    (I : Inv X pins σ H s) (rv : Vals vs us) (h : sp vs H Q (WE W σ)) : wpAny (model X.prog X.w) X.A (call (.ref f) us) (EP X pins σ Q) X.xe s := by
  have hl : us.length = ps.length := by rw [← rv.length]; exact F.len _ _ _ _ h
  have hbs := hb s us I.kIn (by simpa using hl)
  rw [List.append_nil] at hbs
  refine wpAny_call (codeAny_mono (F.run X.A X.stack s H ⟨us, []⟩ us vs Q (WE W σ) hG hr I.env0 hbs rv h) fun res s' hq => ?_)
  cases res with
  | error exn => exact passAt tk σ pins H s exn s' I hq
  | ok fl => cases fl with
    | ret u => exact I.after hq
    | next => exact False.elim hq
    | brk => exact False.elim hq
    | cont => exact False.elim hq
theorem pe_callF (F : FnG X.prog X.w X.K X.mg X.base k f fd ps sp) (hG : X.A.guards = some []) (hr : Room k X.A) (hg : Gl X x) (hm : X.mg x = some (.ref f)) (hk : PySem.W.keepIn X.K (.ref f) = true) (hb : Binds X.K fd ps []) (tk : Takes X W)
    (ha : PA X (e :: es) t) (hdb : (x == ("__debug__" : Str)) = false := by decide) (he : starEach (e :: es) X.env = (false, eval e X.env) :: starEach es X.env := by rfl) (hpl : (backTo pos (starEach es X.env)).any (·.1) = false := by rfl) :
    PE X (.Call (.Name x p) (e :: es) [] pos) (tCallS sp (WE W) t) :=
  ⟨fun pins s σ H Q I h => wpAny_Call_Name_kw (ld_glob I hg hm (PySem.W.callWith_K (h₀ := X.base) I.ok.mod.kin hk (thn (ha.run pos pins s σ H _ I h) fun us s1 ⟨vs, H1, I1, rv, q⟩ => ⟨I1.kIn, run_fg F hG hr hb tk I1 rv q⟩) he hpl) hdb)⟩
end
/-- what a call's mirror yields -/
def outR (R : FR) (r : S) : Res SV := match R with
  | .ok x _ => if x.out then .ok x r else .bad
  | .exc c f _ => .exc c f r
  | .bad => .bad
def fCall (n : Nat) (F : List D → FR) (FL : S → Res (List D)) : S → Res SV := fun r => (FL r).bind fun ds r => if ds.length = n then outR (F ds) r else .bad
section
variable {K : PySem.W.Frag} {mg : Str → Option Value} {W : WX} {γ : Gh} {Oc : List Addr} {r r1 r2 : S} {σ : St} {H H' H1 H2 : Hp} {fs fs1 fp : List Addr} {tl : TA} {n : Nat} {F : List D → FR} {FL : S → Res (List D)}
theorem xr_sub {O O' : List Addr} {f : List (Str × D)} {d : Option Addr} (ow : Own O H) (s : ∀ a ∈ O', a ∈ O) (h : XR K O H f d) : XR K O' H f d := by
  rcases h with z | ⟨dd, ws, q1, q2, q3, q4⟩
  · exact .inl z
  · exact .inr ⟨dd, ws, q1, q2, q3, Rs.stab ow (Stab.weak s fun _ _ z => z) _ _ q4⟩
theorem Own.app {A B : List Addr} (h : Own A H) (h2 : Own B H) : Own (A ++ B) H := fun a z => (List.mem_append.mp z).elim (h a) (h2 a)
theorem sim_call (h : Sim K mg W (PL K) tl FL) : Sim K mg W (PV K) (tCallS (spF K mg n F) (WE W) tl) (fCall n F FL) := by
  intro γ Oc r σ H fs g
  refine SimAt.bind (t2 := fun (vs : List V) (H1 : Hp) (Q : VK) => spF K mg n F vs H1 Q (WE W σ)) (h γ Oc r σ H fs g) fun ds r1 vs H1 ⟨fs1, g1, v1, s1⟩ => ?_
  refine SimAt.tr s1 ?_
  split
  · rename_i hn
    intro Q
    unfold outR
    cases eF : F ds with
    | bad => trivial
    | ok y tp =>
      dsimp only
      by_cases ho : y.out = true
      · rw [if_pos ho]
        intro hq
        refine ⟨ds, fs1 ++ Oc, by rw [v1.len, hn], g1.ow, g1.nd, v1, ?_⟩
        rw [eF]
        refine ⟨ho, fun H' v fp kp nd nw ow hv => hq v H' ?_⟩
        have g2 := g1.grow kp nw nd ow
        refine ⟨fs1, fp, g2, SVR.ghost ho (hv.mono (ow.app (g1.kept kp).ow) fun a z => ?_), Stp.same _ _ kp, nw⟩
        simp only [List.mem_append] at z ⊢
        rcases z with z | z | z <;> simp [z]
      · rw [if_neg ho]; trivial
    | exc c fl tp =>
      dsimp only
      intro hw
      refine ⟨ds, fs1 ++ Oc, by rw [v1.len, hn], g1.ow, g1.nd, v1, ?_⟩
      rw [eF]
      exact fun C d H' kp m x => hw C d H' ⟨fs1, g1.kept kp, Stp.same _ _ kp, m, x⟩
  · exact fun Q => trivial
theorem tabs_unupd {T : Addr} {t : Int × Int} {P : Addr} (h : TabL (upd H T (tapeO t)) P) : TabL H P := by
  obtain ⟨ps, h1, h2, h3⟩ := h
  have n1 : P ≠ T := fun z => by
    rw [z, upd_same] at h1
    cases h1
  rw [upd_ne n1] at h1
  refine ⟨ps, h1, h2, fun pos cv hc => ?_⟩
  obtain ⟨c, e1, e2⟩ := h3 pos cv hc
  have n2 : c ≠ T := fun z => by
    rw [z, upd_same] at e2
    cases e2
  rw [upd_ne n2] at e2
  exact ⟨c, e1, e2⟩
/-- the tape has changed -/
theorem Good.tapeSet {T : Addr} {t' : Int × Int} (g : Good K γ Oc r σ H fs) (hT : γ.T = some T) : Good K γ Oc { r with tp := some t' } σ (upd H T (tapeO t')) fs := by
  obtain ⟨⟨f1, f2, e, sl, tp⟩, nd, ow, tt⟩ := id g
  obtain ⟨hm, t, q1, q2⟩ := g.tape hT
  rw [q1] at tp
  obtain ⟨b, b1, b2, b3⟩ := tp
  rw [hT] at b1; cases b1
  have n1 := (List.nodup_append.mp nd).1
  rw [e] at n1
  have nf : T ∉ f1 := fun z => (List.nodup_append.mp n1).2.2 T z T (by rw [b3]; simp) rfl
  have ne : ∀ a, a ∉ fs ++ Oc → a ≠ T := fun a n z => n (by rw [z]; simp [hm])
  have st : Stab (fs ++ Oc) H (fs ++ Oc) (upd H T (tapeO t')) := fun a n _ => ⟨n, fun u _ q => by
    rcases q with q | ⟨o, q⟩
    · exact .inl (by rw [upd_ne (ne a n)]; exact q)
    · exact .inr ⟨o, by rw [upd_ne (ne a n)]; exact q⟩, fun u _ q => by rw [upd_ne (ne a n)]; exact q⟩
  refine ⟨⟨f1, f2, e, sl.stab ow st fun a z => upd_ne fun y => nf (y ▸ z), ⟨T, hT, upd_same, b3⟩⟩, nd, fun a z => ?_, fun _ z => (by cases z), fun p hp => tabs_upd q2 trivial (tt.2 p hp)⟩
  by_cases ha : a = T
  · subst ha; exact ⟨_, upd_same, trivial⟩
  · obtain ⟨o, ho, l⟩ := ow a z
    exact ⟨o, by rw [upd_ne ha]; exact ho, l⟩
def outT (R : FR) (r : S) : Res SV := match R with
  | .ok x (some t) => if x.out then .ok x { r with tp := some t } else .bad
  | .exc c f (some t) => .exc c f { r with tp := some t }
  | _ => .bad
def fCallT (i n : Nat) (F : Int × Int → List D → FR) (FL : S → Res (List D)) : S → Res SV := fun r => match r.sl[i]? with
  | some (some .tape) => (FL r).bind fun ds r => match r.tp with
    | some t => if ds.length = n then outT (F t ds) r else .bad
    | none => .bad
  | _ => .bad
theorem sim_callT {i : Nat} {F : Int × Int → List D → FR} (h : Sim K mg W (PL K) tl FL) : Sim K mg W (PV K) (tCallS (spT K mg n F) (WE W) (tCons (tVar i) tl)) (fCallT i n F FL) := by
  intro γ Oc r σ H fs g
  unfold fCallT
  split
  · rename_i eT
    obtain ⟨⟨f1, f2, e, sl, tp⟩, nd, ow, tt⟩ := id g
    obtain ⟨v, a1, a2, a3, e1, e2, ⟨T, hT, ev⟩, e4⟩ := sl.at eT
    subst ev
    refine SimAt.imp (t := fun Q => tl σ H fun vs H1 => spT K mg n F (.ref T :: vs) H1 Q (WE W σ)) ?_ fun Q q => ⟨.ref T, e1, q⟩
    refine SimAt.bind (t2 := fun (vs : List V) (H1 : Hp) (Q : VK) => spT K mg n F (.ref T :: vs) H1 Q (WE W σ)) (h γ Oc r σ H fs g) fun ds r1 vs H1 ⟨fs1, g1, v1, s1⟩ => ?_
    refine SimAt.tr s1 ?_
    clear e sl tp nd ow tt e1 e2 e4
    obtain ⟨⟨b1, b2, e, sl, tp⟩, nd, ow, tt⟩ := id g1
    obtain ⟨hm, t, q1, q2⟩ := g1.tape hT
    rw [q1] at tp ⊢
    obtain ⟨b, c1, c2, c3⟩ := tp
    rw [hT] at c1; cases c1
    dsimp only
    have mem : ∀ a, a ∈ T :: (b1 ++ Oc) ↔ a ∈ fs1 ++ Oc := fun a => by
      rw [e, c3]
      simp only [List.mem_cons, List.mem_append, List.mem_singleton]
      constructor
      · rintro (z | z | z)
        · simp [z]
        · simp [z]
        · simp [z]
      · rintro ((z | z | z) | z)
        · simp [z]
        · simp [z]
        · simp at z
        · simp [z]
    have nd1 : (T :: (b1 ++ Oc)).Nodup := by
      refine nd_of (fun a => ?_) nd
      rw [e, c3]
      simp only [List.count_append, List.count_cons, List.count_nil]
      omega
    have rs1 : Rs K (T :: (b1 ++ Oc)) H1 ds vs := Rs.stab ow (Stab.weak (fun a z => (mem a).mp z) fun _ _ z => z) _ _ v1
    have ow1 : Own (b1 ++ Oc) H1 := ow.mono fun a z => (mem a).mp (List.mem_cons_of_mem _ z)
    have kept : ∀ {H' : Hp} {t' : Int × Int}, SameU T H1 H' → H' T = some (tapeO t') → SameT (upd H1 T (tapeO t')) H' := fun kp hT' => ⟨fun a o q ht => (by
      by_cases ha : a = T
      · subst ha; rw [upd_same] at q; rw [hT']; exact q
      · rw [upd_ne ha] at q; exact kp.kp a o q ha ht), fun x h => (by
      obtain ⟨a, b⟩ := x
      by_cases ha : a = T
      · subst ha
        cases b with
        | false => exact NN.of hT'
        | true =>
          obtain ⟨ps, q⟩ := h
          have q : upd H1 a (tapeO _) a = some (.tbl ps) := q
          rw [upd_same] at q; cases q
      · refine kp.th (a, b) ?_
        cases b with
        | false =>
          have h : upd H1 T (tapeO _) a ≠ none := h
          rw [upd_ne ha] at h; exact h
        | true =>
          obtain ⟨ps, q⟩ := h
          have q : upd H1 T (tapeO _) a = some (.tbl ps) := q
          rw [upd_ne ha] at q; exact ⟨ps, q⟩), fun P h => kp.tb P (tabs_unupd h)⟩
    have stp : ∀ {H' : Hp} {t' : Int × Int}, SameU T H1 H' → H' T = some (tapeO t') → Stp γ.T fs1 H1 fs1 H' := fun kp hT' => ⟨fun _ z => z, fun a o q n ht => kp.kp a o q (fun z => by subst z; exact n hT hm) ht, kp.th, kp.tb⟩
    by_cases hn : ds.length = n
    · rw [if_pos hn]
      intro Q
      unfold outT
      cases eF : F t ds with
      | bad => trivial
      | ok y tp =>
        cases tp with
        | none => trivial
        | some t' =>
          dsimp only
          by_cases ho : y.out = true
          · rw [if_pos ho]
            intro hq
            refine ⟨T, t, vs, ds, b1 ++ Oc, rfl, by rw [v1.len, hn], q2, ow1, nd1, rs1, ?_⟩
            rw [eF]
            refine ⟨ho, fun H' v fp kp hT' ndp nw owp hv => hq v H' ?_⟩
            have nw' : ∀ a ∈ fp, upd H1 T (tapeO t') a = none := fun a z => by
              have := nw a z
              rw [upd_ne fun y => by rw [y, q2] at this; cases this]; exact this
            have g2 := (g1.tapeSet (t' := t') hT).grow (kept kp hT') nw' ndp owp
            have ow3 : Own (fp ++ (T :: (b1 ++ Oc))) H' := g2.ow.mono fun a z => by
              simp only [List.mem_append] at z ⊢
              rcases z with z | z
              · simp [z]
              · have := (mem a).mp z
                simp only [List.mem_append] at this
                rcases this with z | z <;> simp [z]
            refine ⟨fs1, fp, g2, SVR.ghost ho (hv.mono ow3 fun a z => ?_), stp kp hT', nw⟩
            simp only [List.mem_append] at z
            rcases z with z | z | z
            · exact List.mem_append_right _ ((mem a).mpr (by simp [z]))
            · simp [z]
            · exact List.mem_append_right _ ((mem a).mpr (by simp [z]))
          · rw [if_neg ho]; trivial
      | exc c fl tp =>
        cases tp with
        | none => trivial
        | some t' =>
          dsimp only
          intro hw
          refine ⟨T, t, vs, ds, b1 ++ Oc, rfl, by rw [v1.len, hn], q2, ow1, nd1, rs1, ?_⟩
          rw [eF]
          refine fun C d H' kp hT' m x => hw C d H' ?_
          have g2 := (g1.tapeSet (t' := t') hT).kept (kept kp hT')
          exact ⟨fs1, g2, stp kp hT', m, xr_sub (g2.ow.mono fun a z => (mem a).mp z) (fun a z => (mem a).mpr z) x⟩
    · rw [if_neg hn]; exact fun Q => trivial
  · exact fun Q => trivial
end
section
variable {X : Cx} {k n i : Nat} {f : Addr} {fd : FuncData} {ps : List Str} {sp : Sp} {x y : Str} {p p2 pos : Pos} {e : Expr} {es : List Expr} {tl : TA} {W : WX} {F : List D → FR} {F2 : Int × Int → List D → FR} {FL : S → Res (List D)}
theorem ex_call (Fn : FnG X.prog X.w X.K X.mg X.base k f fd ps (spF X.K X.mg n F)) (hG : X.A.guards = some []) (hr : Room k X.A) (hg : Gl X x) (hm : X.mg x = some (.ref f)) (hk : PySem.W.keepIn X.K (.ref f) = true) (hb : Binds X.K fd ps []) (tk : Takes X W)
    (ha : AX X W (e :: es) tl FL) (hdb : (x == ("__debug__" : Str)) = false := by decide) (he : starEach (e :: es) X.env = (false, eval e X.env) :: starEach es X.env := by rfl) (hpl : (backTo pos (starEach es X.env)).any (·.1) = false := by rfl) :
    EX X W (.Call (.Name x p) (e :: es) [] pos) (tCallS (spF X.K X.mg n F) (WE W) tl) (fCall n F FL) := ⟨pe_callF Fn hG hr hg hm hk hb tk ha.pe hdb he hpl, sim_call ha.sim⟩
theorem ex_callT (Fn : FnG X.prog X.w X.K X.mg X.base k f fd ps (spT X.K X.mg n F2)) (hG : X.A.guards = some []) (hr : Room k X.A) (hg : Gl X x) (hm : X.mg x = some (.ref f)) (hk : PySem.W.keepIn X.K (.ref f) = true) (hb : Binds X.K fd ps []) (tk : Takes X W)
    (hv : PE X e (tVar i)) (ha : AX X W es tl FL) (hdb : (x == ("__debug__" : Str)) = false := by decide) (he : starEach (e :: es) X.env = (false, eval e X.env) :: starEach es X.env := by rfl) (hpl : (backTo pos (starEach es X.env)).any (·.1) = false := by rfl) :
    EX X W (.Call (.Name x p) (e :: es) [] pos) (tCallS (spT X.K X.mg n F2) (WE W) (tCons (tVar i) tl)) (fCallT i n F2 FL) := ⟨pe_callF Fn hG hr hg hm hk hb tk (pa_cons hv ha.pe he) hdb he hpl, sim_callT ha.sim⟩
end
end QL
namespace QL
open PySem PySem.Spec L2
def gNm (i : Nat) : D → S → Option S := fun d r => if i < r.sl.length then some { r with sl := r.sl.set i (some (.fz d)) } else none
structure GXs (X : Cx) (tg : List Expr) (g : TGs) (G : List D → S → Option S) : Prop where
  pg : PGs X tg g
  sim : ∀ γ Oc r σ H fs ds vs r', Good X.K γ Oc r σ H fs → Rs X.K (fs ++ Oc) H ds vs → G ds r = some r' → ∀ Q, (∀ σ' fs', Good X.K γ Oc r' σ' H fs' → (∀ a ∈ fs', a ∈ fs) → Q σ' H) → g vs σ H Q
section
variable {X : Cx} {tg e : Expr} {tgs : List Expr} {g : TG} {gs : TGs} {G : D → S → Option S} {Gs : List D → S → Option S} {i k n : Nat} {x : Str} {pos : Pos}
theorem gx_name (h : PG X tg (gName i)) : GX X tg (gName i) (gNm i) := by
  refine ⟨h, fun γ Oc r σ H fs d v r' g hr e Q hq => ?_⟩
  unfold gNm at e
  split at e
  · rename_i hi
    cases e
    have g0 : Good X.K γ ([] ++ Oc) r σ H fs := g
    obtain ⟨fs', g', sub⟩ := g0.store (x := .fz d) ⟨hr, rfl⟩ hi
    exact hq _ fs' g' fun a z => (sub a z).elim id fun z => by cases z
  · cases e
def gNilF : List D → S → Option S := fun ds r => match ds with
  | [] => some r
  | _ => none
def gConsF (G : D → S → Option S) (Gs : List D → S → Option S) : List D → S → Option S := fun ds r => match ds with
  | d :: ds => match G d r with
    | some r => Gs ds r
    | none => none
  | [] => none
theorem gxs_nil : GXs X [] gNil gNilF := by
  refine ⟨pgs_nil, fun γ Oc r σ H fs ds vs r' g hr e Q hq => ?_⟩
  cases ds with
  | nil =>
    cases e
    simp only [Rs] at hr
    exact ⟨hr, hq σ fs g fun _ z => z⟩
  | cons d ds => cases e
theorem gxs_cons (h : GX X e g G) (h2 : GXs X tgs gs Gs) (hs : (assignEach (e :: tgs) X.env).map (·.2) = assign e X.env :: (assignEach tgs X.env).map (·.2) := by rfl) : GXs X (e :: tgs) (gCons g gs) (gConsF G Gs) := by
  refine ⟨pgs_cons h.pg h2.pg hs, fun γ Oc r σ H fs ds vs r' g0 hr ee Q hq => ?_⟩
  cases ds with
  | nil => cases ee
  | cons d ds =>
    simp only [Rs] at hr
    obtain ⟨v, ws, e1, r1, r2⟩ := hr
    unfold gConsF at ee
    dsimp only at ee
    split at ee
    · rename_i r3 eG
      refine ⟨v, ws, e1, h.sim γ Oc r σ H fs d v r3 g0 r1 eG _ fun σ2 fs2 g2 sub => ?_⟩
      refine h2.sim γ Oc r3 σ2 H fs2 ds ws r' g2 (Rs.stab g0.ow (Stab.weak (fun a z => ?_) fun _ _ z => z) _ _ r2) ee _ fun σ3 fs3 g3 sub3 => hq σ3 fs3 g3 fun a z => sub a (sub3 a z)
      rcases List.mem_append.mp z with z | z
      · exact List.mem_append_left _ (sub a z)
      · exact List.mem_append_right _ z
    · cases ee
def gTupF (n : Nat) (Gs : List D → S → Option S) : D → S → Option S := fun d r => match d with
  | .tuple ds => if ds.length = n then Gs ds r else none
  | _ => none
theorem gx_tup (h : GXs X tgs gs Gs) (hp : PG X tg (gTup X.K n gs)) : GX X tg (gTup X.K n gs) (gTupF n Gs) := by
  refine ⟨hp, fun γ Oc r σ H fs d v r' g hr e Q hq => ?_⟩
  unfold gTupF at e
  split at e
  · rename_i ds
    split at e
    · rename_i hn
      simp only [R] at hr
      obtain ⟨a, vs, ev, hs, hr⟩ := hr
      exact ⟨a, vs, ev, TupAt.sq hs, by rw [hr.len, hn], h.sim γ Oc r σ H fs ds vs r' g hr e Q hq⟩
    · cases e
  · cases e
end
section
variable {X : Cx} {W : WX} {tg e a b c : Expr} {es : List Expr} {ta tb : TE} {tl : TA} {fa fb : S → Res D} {FL : S → Res (List D)} {w1 w2 : TI} {p pos : Pos}
theorem pi_or (h1 : PI X tg e w1) (h2 : PI X tg e w2) : PI X tg e (fun σ H R => w1 σ H R ∨ w2 σ H R) :=
  ⟨fun pins s σ H R I h => h.elim (h1.run pins s σ H R I) (h2.run pins s σ H R I)⟩
/-- the items -/
def itemsD : D → Option (List D)
  | .list ds => some ds
  | .tuple ds => some ds
  | .str z => some (z.cps.toList.map fun c => .str (tx [c]))
  | _ => none
def iSeq (K : PySem.W.Frag) (te : TE) : TI := fun σ H R => iList K te σ H R ∨ iTup K te σ H R ∨ iStr te σ H R
def fItems (fa : S → Res D) : S → Res (List D) := fun r => (fa r).bind fun d r => match itemsD d with
  | some ds => Res.ok ds r
  | none => Res.bad
theorem SqL.stab {K : PySem.W.Frag} {O O' : List Addr} {H H' : Hp} {a : Addr} {vs : List V} (n : a ∉ O) (q : H a = some (.lst vs)) (st : Stab O H O' H') : SqL K H' a vs := .inl (.inl ((st a n (by rw [q]; simp)).2.2 _ trivial q))
theorem SqT.stab {K : PySem.W.Frag} {O O' : List Addr} {H H' : Hp} {a : Addr} {vs : List V} (ow : Own O H) (q : SqT K H a vs) (st : Stab O H O' H') : SqT K H' a vs := by
  rcases q with q | q
  · exact .inl ((st a (ow.ntup q) (Rd.ne q)).2.1 _ trivial q)
  · exact .inr q
theorem SqL.uniq {K : PySem.W.Frag} {H : Hp} {a : Addr} {xs : List V} (q : H a = some (.lst xs)) {P : List V → Prop} {x : V} {i : Nat} (h : ∀ ys, SqL K H a ys → ys[i]? = some x) : xs[i]? = some x := h xs (.inl (.inl q))
/-- one expression whose items are walked, read by w, chosen by its value -/
theorem sim_items {K : PySem.W.Frag} {mg : Str → Option Value} (h : Sim K mg W (PF K) ta fa) : Sim K mg W (PIt K) (iSeq K ta) (fItems fa) := by
  intro γ Oc r σ H fs g Q
  unfold fItems
  have z := h γ Oc r σ H fs g
  cases eF : fa r with
  | bad => trivial
  | exc c f r' => rw [eF] at z; exact fun hw => .inl (z _ hw)
  | ok d r' =>
    rw [eF] at z
    unfold Res.bind
    dsimp only
    cases d with
    | list ds =>
      refine fun hq => .inl (z _ fun y H1 ⟨fs1, g1, v1, s1⟩ => ?_)
      simp only [R] at v1
      obtain ⟨a, vs, e1, n, q, rs⟩ := v1
      refine ⟨a, e1, ⟨vs, .inl (.inl q)⟩, hq _ _ ⟨fs1, g1, fun O' H' ow' st i => ⟨fun hi => ?_, fun hi => ⟨vs, SqL.stab n q st, by rw [rs.len]; omega⟩⟩, s1⟩⟩
      have q' : H' a = some (.lst vs) := (st a n (by rw [q]; simp)).2.2 (.lst vs) trivial q
      obtain ⟨v, hv, _⟩ := rs.get (List.getElem?_eq_getElem hi)
      refine ⟨⟨vs, v, SqL.stab n q st, hv⟩, fun x H2 ⟨eH, hx⟩ => ?_⟩
      subst eH
      refine ⟨fun _ _ z => z, fun d hd => ?_⟩
      have hx' := hx vs (.inl (.inl q'))
      obtain ⟨u, hu, ru⟩ := (Rs.stab g1.ow st _ _ rs).get hd
      rw [hx'] at hu; cases hu
      exact ru
    | tuple ds =>
      refine fun hq => .inr (.inl (z _ fun y H1 ⟨fs1, g1, v1, s1⟩ => ?_))
      simp only [R] at v1
      obtain ⟨a, vs, e1, q, rs⟩ := v1
      replace q := TupAt.sq q
      refine ⟨a, e1, ⟨vs, q⟩, hq _ _ ⟨fs1, g1, fun O' H' ow' st i => ⟨fun hi => ?_, fun hi => ⟨vs, SqT.stab g1.ow q st, by rw [rs.len]; omega⟩⟩, s1⟩⟩
      have q' := SqT.stab g1.ow q st
      obtain ⟨v, hv, _⟩ := rs.get (List.getElem?_eq_getElem hi)
      refine ⟨⟨vs, v, q', hv⟩, fun x H2 ⟨eH, hx⟩ => ?_⟩
      subst eH
      refine ⟨fun _ _ z => z, fun d hd => ?_⟩
      have hx' := hx vs q'
      obtain ⟨u, hu, ru⟩ := (Rs.stab g1.ow st _ _ rs).get hd
      rw [hx'] at hu; cases hu
      exact ru
    | str zt =>
      refine fun hq => .inr (.inr (z _ fun y H1 ⟨fs1, g1, v1, s1⟩ => ?_))
      simp only [R] at v1
      refine ⟨zt, v1, hq _ _ ⟨fs1, g1, fun O' H' ow' st i => ⟨fun hi => ?_, fun hi => ?_⟩, s1⟩⟩
      · simp only [List.length_map, Array.length_toList] at hi
        refine ⟨hi, fun x H2 ⟨eH, c, hc, ex⟩ => ?_⟩
        subst eH ex
        refine ⟨fun _ _ z => z, fun d hd => ?_⟩
        rw [List.getElem?_map, Array.getElem?_toList, hc] at hd
        cases hd
        simp only [R]; rfl
      · simp only [List.length_map, Array.length_toList] at hi
        exact Nat.le_of_eq hi.symm
    | _ => trivial
theorem ix_seq (h : FX X W a ta fa) : IX X W tg a (iSeq X.K ta) (fItems fa) := ⟨pi_or (pi_list h.pe) (pi_or (pi_tup h.pe) (pi_str h.pe)), sim_items h.sim⟩
def rngL (lo : Int) (n : Nat) : List D := (List.range n).map fun i => .int (lo + (i : Nat))
@[irreducible] def sml (i : Int) : Bool := decide (-(2 ^ 62) ≤ i ∧ i < 2 ^ 62)
def fRng1 (FL : S → Res (List D)) : S → Res (List D) := fun r => (FL r).bind fun ds r => match intsD ds with
  | some [j] => if sml j = true then Res.ok (rngL 0 j.toNat) r else Res.bad
  | _ => Res.bad
def fRng2 (FL : S → Res (List D)) : S → Res (List D) := fun r => (FL r).bind fun ds r => match intsD ds with
  | some [i, j] => if sml i = true ∧ sml j = true then Res.ok (rngL i (j - i).toNat) r else Res.bad
  | _ => Res.bad
def fRng3 (FL : S → Res (List D)) : S → Res (List D) := fun r => (FL r).bind fun ds r => match intsD ds with
  | some [i, j, c] => if sml i = true ∧ sml j = true ∧ c = -1 then Res.ok ((List.range (i - j).toNat).map fun k => .int (i - (k : Nat))) r else Res.bad
  | _ => Res.bad
theorem sml_ok {i : Int} (h : sml i = true) : -(2 ^ 62) ≤ i ∧ i < 2 ^ 62 := by simpa [sml] using h
theorem ylds_rng {K : PySem.W.Frag} {O : List Addr} {H : Hp} (lo : Int) (n : Nat) : Ylds K O H (Itr lo n) (rngL lo n) := by
  intro O' H' ow' st i
  unfold rngL
  rw [List.length_map, List.length_range]
  refine ⟨fun hi => ⟨hi, fun x H2 ⟨eH, ex⟩ => ?_⟩, fun hi => ?_⟩
  · subst eH ex
    refine ⟨fun _ _ z => z, fun d hd => ?_⟩
    rw [List.getElem?_map, List.getElem?_range hi] at hd
    cases hd
    simp only [R]
  · exact Nat.le_of_eq hi.symm
theorem sim_rng1 {K : PySem.W.Frag} {mg : Str → Option Value} (h : Sim K mg W (PL K) tl FL) : Sim K mg W (PIt K) (iRng1 tl) (fRng1 FL) := by
  intro γ Oc r σ H fs g
  refine SimAt.bind (t2 := fun (vs : List V) (H1 : Hp) (Q : It → Hp → Prop) => ∃ j : Int, vs = [.int j] ∧ -(2 ^ 62) ≤ j ∧ j < 2 ^ 62 ∧ Q (Itr 0 j.toNat) H1) (h γ Oc r σ H fs g) fun ds r1 vs H1 ⟨fs1, g1, v1, s1⟩ => ?_
  split
  · rename_i j ei
    split
    · rename_i hj
      obtain ⟨h1, h2⟩ := sml_ok hj
      exact fun Q hq => ⟨j, v1.ints ei, h1, h2, hq _ _ ⟨fs1, g1, ylds_rng _ _, s1⟩⟩
    · exact fun Q => trivial
  · exact fun Q => trivial
theorem ix_rng1 (hg : Gl X "range") (hm : X.mg "range" = none) (ha : AX X W [a] tl FL) (hs : starEach [a] X.env = [(false, eval a X.env)] := by rfl) : IX X W tg (.Call (.Name "range" p) [a] [] pos) (iRng1 tl) (fRng1 FL) := ⟨pi_range1 hg hm ha.pe hs, sim_rng1 ha.sim⟩
end
end QL
namespace QL
open PySem PySem.Spec L2
inductive Sr where
  | l (a : Addr) | t (a : Addr) | s (x : Str)
def Sr.addr : Sr → List Addr
  | .l a => [a]
  | .t a => [a]
  | .s _ => []
def SrAt (K : PySem.W.Frag) (H : Hp) : Sr → List V → Prop
  | .l a, xs => SqL K H a xs
  | .t a, xs => SqT K H a xs
  | .s x, xs => xs = x.cps.toList.map fun c => .str ⟨#[c]⟩
def SrIt (c : Sr) (it : Addr) (i : Nat) (h : Heap) : Prop := match c with
  | .l a => h.IsListIter it a i
  | .t a => h.IsTupleIter it a i
  | .s x => ∃ t, h.IsStrIter it (strIterType x) x t i
theorem SrIt.lives {c : Sr} {it : Addr} {i : Nat} {h : Heap} (x : SrIt c it i h) : ∃ o, h.get? it = some o ∧ ∀ v, o.data ≠ .cell v := by
  cases c with
  | l a => obtain ⟨o, e, _, d⟩ := x; exact ⟨o, e, fun v z => by rw [d] at z; cases z⟩
  | t a => obtain ⟨o, e, _, d⟩ := x; exact ⟨o, e, fun v z => by rw [d] at z; cases z⟩
  | s y => obtain ⟨t, o, e, _, d⟩ := x; exact ⟨o, e, fun v z => by rw [d] at z; cases z⟩
theorem SrIt.keep {c : Sr} {it : Addr} {i : Nat} {h h' : Heap} (x : SrIt c it i h) (k : ∀ o, h.get? it = some o → h'.get? it = some o) : SrIt c it i h' := by
  cases c with
  | l a => obtain ⟨o, e, r⟩ := x; exact ⟨o, k _ e, r⟩
  | t a => obtain ⟨o, e, r⟩ := x; exact ⟨o, k _ e, r⟩
  | s y => obtain ⟨t, o, e, r⟩ := x; exact ⟨t, o, k _ e, r⟩
section
variable {X : Cx} {pins : List (Addr × Obj)} {σ : St} {H : Hp} {s : Shared} {c d : Sr} {xs ys : List V} {it : Addr} {i : Nat}
theorem SrAt.uniq (I : Inv X pins σ H s) (h : SrAt X.K H c xs) (h' : SrAt X.K H c ys) : xs = ys := by
  cases c with
  | l a => exact I.list_inj h h'
  | t a => exact I.tuple_inj h h'
  | s x => exact Eq.trans h (Eq.symm h')
theorem src_draws (I : Inv X pins σ H s) (hh : X.A.handled = none) (h : SrAt X.K H c xs) (st : SrIt c it i s.heap) (ne : it ∉ c.addr) :
    ∃ (P : Nat → Value → Prop) (T : Nat → Heap → Prop), Draws X.prog X.w X.A.in1 it (it :: c.addr) xs.length P T ∧ T i s.heap ∧ (∀ j h, T j h → SrIt c it j h) ∧ ∀ v, P i v → ∃ x, xs[i]? = some x ∧ RelV x v := by
  cases c with
  | l a =>
    obtain ⟨its, rv, p, hz⟩ := I.list h
    have hl := rv.length
    have D := Draws.list (prog := X.prog) (w := X.w) (A := X.A.in1) hh it a (fun e => ne (by simp [Sr.addr, e])) its.toArray
    rw [show its.toArray.size = xs.length by simp [hl]] at D
    refine ⟨_, _, D, ⟨st, p.isList⟩, fun j h z => z.1, fun v hv => ?_⟩
    have hv' : its[i]? = some v := by simpa using hv
    have hi : i < xs.length := by rw [hl]; exact (List.getElem?_eq_some_iff.mp hv').1
    obtain ⟨u, hu, ru⟩ := rv.get (List.getElem?_eq_getElem hi)
    rw [hv'] at hu; cases hu
    exact ⟨_, List.getElem?_eq_getElem hi, ru⟩
  | t a =>
    obtain ⟨its, rv, p, hz⟩ := I.tuple h
    have hl := rv.length
    have D := Draws.tuple (prog := X.prog) (w := X.w) (A := X.A.in1) hh it a (fun e => ne (by simp [Sr.addr, e])) its.toArray
    rw [show its.toArray.size = xs.length by simp [hl]] at D
    refine ⟨_, _, D, ⟨st, p⟩, fun j h z => z.1, fun v hv => ?_⟩
    have hv' : its[i]? = some v := by simpa using hv
    have hi : i < xs.length := by rw [hl]; exact (List.getElem?_eq_some_iff.mp hv').1
    obtain ⟨u, hu, ru⟩ := rv.get (List.getElem?_eq_getElem hi)
    rw [hv'] at hu; cases hu
    exact ⟨_, List.getElem?_eq_getElem hi, ru⟩
  | s x =>
    obtain ⟨t, st⟩ := st
    have hx : xs = x.cps.toList.map fun c => .str ⟨#[c]⟩ := h
    have D := Draws.text (prog := X.prog) (w := X.w) (A := X.A.in1) hh it x t
    rw [show x.cps.size = xs.length by simp [hx]] at D
    refine ⟨_, _, D, st, fun j h z => ⟨t, z⟩, fun v ⟨c, u, hc, ev⟩ => ⟨.str ⟨#[c]⟩, by rw [hx, List.getElem?_map, Array.getElem?_toList, hc]; rfl, by subst ev; exact ⟨u, rfl⟩⟩⟩
end
theorem SrAt.stab {K : PySem.W.Frag} {O O' : List Addr} {H H' : Hp} {c : Sr} {d : D} {ds : List D} {vs : List V} : True := trivial
/-- a source of data, frozen -/
def SrD (K : PySem.W.Frag) (O : List Addr) (H : Hp) (c : Sr) (ds : List D) : Prop := match c with
  | .l a => ∃ vs, a ∉ O ∧ H a = some (.lst vs) ∧ Rs K O H ds vs
  | .t a => ∃ vs, SqT K H a vs ∧ Rs K O H ds vs
  | .s x => ds = x.cps.toList.map fun c => .str (tx [c])
theorem SrD.stab {K : PySem.W.Frag} {O O' : List Addr} {H H' : Hp} {c : Sr} {ds : List D} (ow : Own O H) (st : Stab O H O' H') (h : SrD K O H c ds) : SrD K O' H' c ds := by
  cases c with
  | l a =>
    obtain ⟨vs, n, q, h⟩ := h
    obtain ⟨n', _, k⟩ := st a n (by rw [q]; simp)
    exact ⟨vs, n', k _ trivial q, Rs.stab ow st _ _ h⟩
  | t a =>
    obtain ⟨vs, q, h⟩ := h
    exact ⟨vs, SqT.stab ow q st, Rs.stab ow st _ _ h⟩
  | s x => exact h
theorem SrD.at {K : PySem.W.Frag} {O : List Addr} {H : Hp} {c : Sr} {ds : List D} (h : SrD K O H c ds) : ∃ vs, SrAt K H c vs ∧ Rs K O H ds vs := by
  cases c with
  | l a => obtain ⟨vs, n, q, h⟩ := h; exact ⟨vs, .inl (.inl q), h⟩
  | t a => obtain ⟨vs, q, h⟩ := h; exact ⟨vs, q, h⟩
  | s x =>
    refine ⟨_, rfl, ?_⟩
    have h : ds = x.cps.toList.map fun c => .str (tx [c]) := h
    rw [h]
    have e1 : (x.cps.toList.map fun c => PyData.str (tx [c])) = (x.cps.toList.map fun c => tx [c]).map PyData.str := by rw [List.map_map]; rfl
    have e2 : (x.cps.toList.map fun c => V.str ⟨#[c]⟩) = (x.cps.toList.map fun c => tx [c]).map V.str := by rw [List.map_map]; rfl
    rw [e1, e2]
    exact Rs.ofStrs _
/-- the sources of data -/
theorem srD_of {K : PySem.W.Frag} {O : List Addr} {H : Hp} {d : D} {ds : List D} {v : V} (h : R K O H d v) (e : itemsD d = some ds) : (∃ a, v = .ref a ∧ SrD K O H (.l a) ds ∧ ∃ x, d = .list x) ∨ (∃ a, v = .ref a ∧ SrD K O H (.t a) ds ∧ ∃ x, d = .tuple x) ∨ ∃ x, v = .str x ∧ SrD K O H (.s x) ds ∧ d = .str x := by
  cases d with
  | list xs =>
    cases e
    simp only [R] at h
    obtain ⟨a, vs, e1, n, q, h⟩ := h
    exact .inl ⟨a, e1, ⟨vs, n, q, h⟩, _, rfl⟩
  | tuple xs =>
    cases e
    simp only [R] at h
    obtain ⟨a, vs, e1, q, h⟩ := h
    exact .inr (.inl ⟨a, e1, ⟨vs, TupAt.sq q, h⟩, _, rfl⟩)
  | str x =>
    cases e
    simp only [R] at h
    exact .inr (.inr ⟨x, h, rfl, rfl⟩)
  | _ => cases e
def enumL (ds : List D) : List D := (List.range ds.length).zipWith (fun i d => .tuple [.int (i : Nat), d]) ds
def fEnum (FL : S → Res (List D)) : S → Res (List D) := fun r => (FL r).bind fun ds r => match ds with
  | [.list ds] => Res.ok (enumL ds) r
  | [.str z] => Res.ok (enumL (z.cps.toList.map fun c => .str (tx [c]))) r
  | _ => Res.bad
theorem enumL_len (ds : List D) : (enumL ds).length = ds.length := by simp [enumL]
theorem enumL_get {ds : List D} {i : Nat} {d : D} (h : (enumL ds)[i]? = some d) : ∃ d', ds[i]? = some d' ∧ d = .tuple [.int (i : Nat), d'] := by
  unfold enumL at h
  rw [List.getElem?_zipWith] at h
  cases e : ds[i]? with
  | none =>
    rw [e] at h
    cases e2 : (List.range ds.length)[i]? <;> rw [e2] at h <;> cases h
  | some d' =>
    have hi := (List.getElem?_eq_some_iff.mp e).1
    rw [e, List.getElem?_range hi] at h
    cases h
    exact ⟨d', rfl, rfl⟩
end QL
namespace QL
open PySem PySem.Spec L2
abbrev WN : WX := fun _ _ _ _ => False
theorem wipe_at (σ : St) : ∀ (vs : List Nat) (j : Nat), (L2.wipe σ vs)[j]? = if j ∈ vs ∧ j < σ.length then some none else σ[j]?
  | [], j => by simp [L2.wipe]
  | v :: vs, j => by
    show ((L2.wipe σ vs).set v none)[j]? = _
    rw [List.getElem?_set, wipe_at σ vs j, L2.wipe_length]
    by_cases h : v = j
    · subst h
      by_cases hl : v < σ.length
      · simp [hl]
      · have : σ[v]? = none := List.getElem?_eq_none (by omega)
        simp [hl, this]
    · have h' : j ≠ v := fun e => h e.symm
      simp [h, h']
theorem wipe_set {σ : St} {i : Nat} {x : Option V} {vs : List Nat} (h : i ∈ vs) : L2.wipe (σ.set i x) vs = L2.wipe σ vs := by
  apply List.ext_getElem?
  intro j
  rw [wipe_at, wipe_at, List.length_set, List.getElem?_set]
  by_cases hj : i = j
  · subst hj
    by_cases hl : i < σ.length
    · simp [h, hl]
    · simp [hl]
  · simp [hj]
theorem wipe_wipe {σ : St} {vs : List Nat} : L2.wipe (L2.wipe σ vs) vs = L2.wipe σ vs := by
  apply List.ext_getElem?
  intro j
  rw [wipe_at, wipe_at, L2.wipe_length]
  by_cases h : j ∈ vs ∧ j < σ.length
  · simp [h]
  · simp [h]
/-- a target writes the block's own names alone -/
structure GWipe (vs : List Nat) (g : TG) : Prop where
  mono : ∀ v σ H (Q Q' : St → Hp → Prop), (∀ s h, Q s h → Q' s h) → g v σ H Q → g v σ H Q'
  own : ∀ v σ H Q, g v σ H Q → g v σ H fun σ2 H2 => Q σ2 H2 ∧ L2.wipe σ2 vs = L2.wipe σ vs
structure GWipes (vs : List Nat) (g : TGs) : Prop where
  mono : ∀ us σ H (Q Q' : St → Hp → Prop), (∀ s h, Q s h → Q' s h) → g us σ H Q → g us σ H Q'
  own : ∀ us σ H Q, g us σ H Q → g us σ H fun σ2 H2 => Q σ2 H2 ∧ L2.wipe σ2 vs = L2.wipe σ vs
theorem gw_name {vs : List Nat} {i : Nat} (h : i ∈ vs) : GWipe vs (gName i) := ⟨fun _ _ _ _ _ k q => k _ _ q, fun v σ H Q q => ⟨q, wipe_set h⟩⟩
theorem gw_nil {vs : List Nat} : GWipes vs gNil := ⟨fun _ _ _ _ _ k q => ⟨q.1, k _ _ q.2⟩, fun us σ H Q q => ⟨q.1, q.2, rfl⟩⟩
theorem gw_cons {vs : List Nat} {g : TG} {gs : TGs} (h : GWipe vs g) (h2 : GWipes vs gs) : GWipes vs (gCons g gs) := by
  refine ⟨fun us σ H Q Q' k q => ?_, fun us σ H Q q => ?_⟩
  · obtain ⟨v, r, e, q⟩ := q
    exact ⟨v, r, e, h.mono _ _ _ _ _ (fun s h' => h2.mono _ _ _ _ _ k) q⟩
  · obtain ⟨v, r, e, q⟩ := q
    refine ⟨v, r, e, h.mono _ _ _ _ _ (fun σ2 H2 ⟨q2, e2⟩ => ?_) (h.own _ _ _ _ q)⟩
    exact h2.mono _ _ _ _ _ (fun σ3 H3 ⟨q3, e3⟩ => ⟨q3, e3.trans e2⟩) (h2.own _ _ _ _ q2)
theorem gw_tup {vs : List Nat} {K : PySem.W.Frag} {n : Nat} {gs : TGs} (h : GWipes vs gs) : GWipe vs (gTup K n gs) := by
  refine ⟨fun v σ H Q Q' k q => ?_, fun v σ H Q q => ?_⟩
  · obtain ⟨a, xs, e1, e2, e3, q⟩ := q
    exact ⟨a, xs, e1, e2, e3, h.mono _ _ _ _ _ k q⟩
  · obtain ⟨a, xs, e1, e2, e3, q⟩ := q
    exact ⟨a, xs, e1, e2, e3, h.own _ _ _ _ q⟩
/-- the slots of the own names forgotten -/
def wipeS : List Nat → List (Option SV) → List (Option SV)
  | [], sl => sl
  | v :: vs, sl => (wipeS vs sl).set v none
theorem wipeS_len (sl : List (Option SV)) : ∀ vs, (wipeS vs sl).length = sl.length
  | [] => rfl
  | v :: vs => by unfold wipeS; rw [List.length_set, wipeS_len sl vs]
/-- .. and as they were, where frozen -/
def restS : List Nat → List (Option SV) → List (Option SV) → List (Option SV)
  | [], _, sl => sl
  | v :: vs, old, sl => match old[v]? with
    | some (some (.fz d)) => (restS vs old sl).set v (some (.fz d))
    | _ => restS vs old sl
section
variable {K : PySem.W.Frag} {mg : Str → Option Value} {W : WX} {γ : Gh} {Oc : List Addr} {r r1 r2 : S} {σ : St} {H H' H1 H2 : Hp} {fs fs1 fp : List Addr}
theorem Slots.any {O : List Addr} : ∀ {sl : List (Option SV)} {σ : St} {fp : List Addr} {i : Nat} {y : Option V}, Slots K γ O H sl σ fp → sl[i]? = some none → Slots K γ O H sl (σ.set i y) fp
  | [], σ, fp, i, y, h, e => by simp at e
  | none :: r, σ, fp, 0, y, h, e => by
    obtain ⟨x, σ', e1, h⟩ := h
    exact ⟨y, σ', by rw [e1]; rfl, h⟩
  | none :: r, σ, fp, i + 1, y, h, e => by
    obtain ⟨x, σ', e1, h⟩ := h
    exact ⟨x, σ'.set i y, by rw [e1]; rfl, Slots.any h (by simpa using e)⟩
  | some s :: r, σ, fp, 0, y, h, e => by simp at e
  | some s :: r, σ, fp, i + 1, y, h, e => by
    obtain ⟨v, σ', f1, f2, e1, e2, h1, h2⟩ := h
    exact ⟨v, σ'.set i y, f1, f2, by rw [e1]; rfl, e2, h1, Slots.any h2 (by simpa using e)⟩
/-- one slot forgotten -/
theorem Good.forget1 {i : Nat} (g : Good K γ Oc r σ H fs) : ∃ fs', Good K γ Oc { r with sl := r.sl.set i none } (σ.set i none) H fs' ∧ ∀ a ∈ fs', a ∈ fs := by
  obtain ⟨⟨f1, f2, e, sl, tp⟩, nd, ow, tt⟩ := id g
  by_cases hi : i < r.sl.length
  · obtain ⟨a1, a2, a3, e2, _, _, hlet⟩ := sl.upd hi
    have sub : ∀ a ∈ ((a1 ++ a3) ++ f2) ++ Oc, a ∈ fs ++ Oc := fun a z => by
      rw [e, e2]
      simp only [List.mem_append] at z ⊢
      rcases z with ((z | z) | z) | z <;> simp [z]
    refine ⟨(a1 ++ a3) ++ f2, ⟨⟨a1 ++ a3, f2, rfl, ?_, tp⟩, ?_, ow.mono sub, tt⟩, fun a z => ?_⟩
    · exact Slots.any (hlet ow (Stab.weak sub fun _ _ z => z) fun _ _ => rfl) (by rw [List.getElem?_set_self hi])
    · refine nd_of (fun a => ?_) nd
      rw [e, e2]
      simp only [List.count_append]
      omega
    · rw [e, e2]
      simp only [List.mem_append] at z ⊢
      rcases z with (z | z) | z <;> simp [z]
  · have hl := sl.len
    rw [List.set_eq_of_length_le (by omega), List.set_eq_of_length_le (by omega)]
    exact ⟨fs, g, fun _ z => z⟩
theorem Good.wipe (g : Good K γ Oc r σ H fs) : ∀ vs : List Nat, ∃ fs', Good K γ Oc { r with sl := wipeS vs r.sl } (L2.wipe σ vs) H fs' ∧ ∀ a ∈ fs', a ∈ fs
  | [] => ⟨fs, g, fun _ z => z⟩
  | v :: vs => by
    obtain ⟨f1, g1, s1⟩ := Good.wipe g vs
    obtain ⟨f2, g2, s2⟩ := g1.forget1 (i := v)
    exact ⟨f2, g2, fun a z => s1 a (s2 a z)⟩
/-- a frozen slot is known again -/
theorem Good.know {i : Nat} {u : V} {d : D} (g : Good K γ Oc r σ H fs) (e : σ[i]? = some (some u)) (h : R K (fs ++ Oc) H d u) : ∃ fs', Good K γ Oc { r with sl := r.sl.set i (some (.fz d)) } σ H fs' ∧ ∀ a ∈ fs', a ∈ fs := by
  have g0 : Good K γ ([] ++ Oc) r σ H fs := g
  have hl : i < r.sl.length := by
    obtain ⟨⟨f1, f2, _, sl, _⟩, _⟩ := g
    rw [← sl.len]
    exact (List.getElem?_eq_some_iff.mp e).1
  obtain ⟨fs', g', sub⟩ := g0.store (x := .fz d) ⟨h, rfl⟩ hl
  have : σ.set i (some u) = σ := by
    obtain ⟨hj, e4⟩ := List.getElem?_eq_some_iff.mp e
    rw [← e4, List.set_getElem_self]
  rw [this] at g'
  exact ⟨fs', g', fun a z => (sub a z).elim id fun z => by cases z⟩
/-- what stood frozen at the names, told to the end -/
def Old (K : PySem.W.Frag) (O : List Addr) (H : Hp) (σ : St) (old : List (Option SV)) : Prop := ∀ (i : Nat) (d : D), old[i]? = some (some (SV.fz d)) → ∃ u, σ[i]? = some (some u) ∧ R K O H d u
theorem Good.old (g : Good K γ Oc r σ H fs) : Old K (fs ++ Oc) H σ r.sl := fun i d h => by
  obtain ⟨⟨f1, f2, _, sl, _⟩, _⟩ := g
  obtain ⟨v, a1, a2, a3, e1, e2, e3⟩ := sl.at h
  exact ⟨v, e1, e3.1⟩
theorem Good.rest {old : List (Option SV)} (g : Good K γ Oc r σ H fs) (ho : Old K (fs ++ Oc) H σ old) : ∀ vs : List Nat, ∃ fs', Good K γ Oc { r with sl := restS vs old r.sl } σ H fs' ∧ ∀ a ∈ fs', a ∈ fs
  | [] => ⟨fs, g, fun _ z => z⟩
  | v :: vs => by
    obtain ⟨f1, g1, s1⟩ := Good.rest g ho vs
    unfold restS
    split
    · rename_i d e
      obtain ⟨u, e1, ru⟩ := ho v d e
      have ru' : R K (f1 ++ Oc) H d u := R.stab g.ow (Stab.weak (fun a z => by
        rcases List.mem_append.mp z with z | z
        · exact List.mem_append_left _ (s1 a z)
        · exact List.mem_append_right _ z) fun _ _ z => z) _ _ ru
      obtain ⟨f2, g2, s2⟩ := g1.know e1 ru'
      exact ⟨f2, g2, fun a z => s1 a (s2 a z)⟩
    · exact ⟨f1, g1, s1⟩
/-- a state whose slots no longer tell the names: σ is put back -/
theorem Slots.unwipe {O : List Addr} {sl : List (Option SV)} {σ : St} : ∀ (vs : List Nat) {fp : List Addr}, Slots K γ O H sl (L2.wipe σ vs) fp → (∀ v ∈ vs, v < sl.length → sl[v]? = some none) → Slots K γ O H sl σ fp
  | [], fp, h, _ => h
  | v :: vs, fp, h, hn => by
    refine Slots.unwipe vs (fp := fp) ?_ fun u hu => hn u (List.mem_cons_of_mem _ hu)
    have hl := h.len
    have h : Slots K γ O H sl ((L2.wipe σ vs).set v none) fp := h
    by_cases hv : v < sl.length
    · have hv' : v < (L2.wipe σ vs).length := by
        have : ((L2.wipe σ vs).set v none).length = sl.length := h.len
        rw [List.length_set] at this
        omega
      have z := Slots.any (y := (L2.wipe σ vs)[v]) h (hn v List.mem_cons_self hv)
      rw [List.set_set, List.set_getElem_self] at z
      exact z
    · have : (L2.wipe σ vs).length ≤ v := by
        have : ((L2.wipe σ vs).set v none).length = sl.length := h.len
        rw [List.length_set] at this
        omega
      rw [List.set_eq_of_length_le this] at h
      exact h
theorem wipeS_none (sl : List (Option SV)) : ∀ (vs : List Nat) (v : Nat), v ∈ vs → v < sl.length → (wipeS vs sl)[v]? = some none
  | [], v, h, _ => by cases h
  | u :: vs, v, h, hl => by
    unfold wipeS
    rw [List.getElem?_set]
    by_cases e : u = v
    · subst e
      simp [wipeS_len, hl]
    · rw [if_neg e]
      exact wipeS_none sl vs v ((List.mem_cons.mp h).resolve_left fun z => e z.symm) hl
theorem Good.unwipe {vs : List Nat} {r : S} {sl : List (Option SV)} (g : Good K γ Oc r (L2.wipe σ vs) H fs) (e : r.sl = wipeS vs sl) : Good K γ Oc r σ H fs := by
  obtain ⟨⟨f1, f2, e0, sl0, tp⟩, nd, ow, tt⟩ := g
  refine ⟨⟨f1, f2, e0, Slots.unwipe vs sl0 fun v hv hl => ?_, tp⟩, nd, ow, tt⟩
  rw [e] at hl ⊢
  rw [wipeS_len] at hl
  exact wipeS_none sl vs v hv hl
/-- a temporary list gets a new content -/
theorem Good.setTmp {p : Addr} {vs : List V} (g : Good K γ ([p] ++ Oc) r σ H fs) : Good K γ ([p] ++ Oc) r σ (upd H p (.lst vs)) fs ∧ Stab (fs ++ ([p] ++ Oc)) H (fs ++ ([p] ++ Oc)) (upd H p (.lst vs)) ∧ p ∉ fs := by
  have g' := g
  obtain ⟨⟨f1, f2, e, sl, tp⟩, nd, ow, tt⟩ := g
  have np : p ∉ fs := fun z => (List.nodup_append.mp nd).2.2 p z p (by simp) rfl
  have ne : ∀ a, a ∉ fs ++ ([p] ++ Oc) → a ≠ p := fun a n z => n (by rw [z]; simp)
  have st : Stab (fs ++ ([p] ++ Oc)) H (fs ++ ([p] ++ Oc)) (upd H p (.lst vs)) := fun a n _ => ⟨n, fun u _ q => by
    rcases q with q | ⟨o, q⟩
    · exact .inl (by rw [upd_ne (ne a n)]; exact q)
    · exact .inr ⟨o, by rw [upd_ne (ne a n)]; exact q⟩, fun u _ q => by rw [upd_ne (ne a n)]; exact q⟩
  have nf : ∀ a ∈ fs, a ≠ p := fun a z y => np (y ▸ z)
  refine ⟨⟨⟨f1, f2, e, sl.stab ow st fun a z => upd_ne (nf a (by rw [e]; simp [z])), ?_⟩, nd, fun a z => ?_, tt.1, fun q hq => (by
    obtain ⟨o, ho, l⟩ := ow p (by simp)
    exact tabs_upd ho l (tt.2 q hq))⟩, st, np⟩
  · cases q : r.tp with
    | none => rw [q] at tp; exact tp
    | some t =>
      rw [q] at tp
      obtain ⟨a, e1, e2, e3⟩ := tp
      exact ⟨a, e1, by rw [upd_ne (nf a (by rw [e, e3]; simp))]; exact e2, e3⟩
  · by_cases ha : a = p
    · subst ha; exact ⟨_, upd_same, trivial⟩
    · obtain ⟨o, ho, l⟩ := ow a z
      exact ⟨o, by rw [upd_ne ha]; exact ho, l⟩
end
def lcF (vs : List Nat) (G : D → S → Option S) (T : S → Res Bool) (F : S → Res D) : List D → List D → S → Res (List D)
  | [], acc, r => .ok acc r
  | d :: ds, acc, r => match G d r with
    | none => .bad
    | some r => match T r with
      | .ok true r => match F r with
        | .ok y r => if acc.length < sizeLine then lcF vs G T F ds (acc ++ [y]) { r with sl := wipeS vs r.sl } else .bad
        | _ => .bad
      | .ok false r => lcF vs G T F ds acc { r with sl := wipeS vs r.sl }
      | _ => .bad
def fLc (vs : List Nat) (I : S → Res (List D)) (G : D → S → Option S) (T : S → Res Bool) (F : S → Res D) : S → Res SV := fun r => (I r).bind fun ds r => match lcF vs G T F ds [] { r with sl := wipeS vs r.sl } with
  | .ok acc r' => Res.ok (SV.ol acc) { r' with sl := restS vs r.sl r'.sl }
  | _ => Res.bad
/-- the mirror's slots stay wiped -/
theorem lcF_wiped {vs : List Nat} {G : D → S → Option S} {T : S → Res Bool} {F : S → Res D} : ∀ (ds acc : List D) (r : S) (acc' : List D) (r' : S), (∃ sl, r.sl = wipeS vs sl) → lcF vs G T F ds acc r = .ok acc' r' → ∃ sl, r'.sl = wipeS vs sl
  | [], acc, r, acc', r', h, e => by
    unfold lcF at e
    cases e
    exact h
  | d :: ds, acc, r, acc', r', h, e => by
    unfold lcF at e
    split at e
    · cases e
    · split at e
      · split at e
        · split at e
          · exact lcF_wiped ds _ _ acc' r' ⟨_, rfl⟩ e
          · cases e
        · cases e
      · exact lcF_wiped ds _ _ acc' r' ⟨_, rfl⟩ e
      · cases e
theorem sim_lc {K : PySem.W.Frag} {mg : Str → Option Value} {W : WX} {wi : TI} {g : TG} {tt : TT} {te : TE} {vs : List Nat} {I : S → Res (List D)} {G : D → S → Option S} {T : S → Res Bool} {F : S → Res D}
    (hi : Sim K mg W (PIt K) wi I) (hg : ∀ γ Oc r σ H fs d v r', Good K γ Oc r σ H fs → R K (fs ++ Oc) H d v → G d r = some r' → ∀ Q, (∀ σ' fs', Good K γ Oc r' σ' H fs' → (∀ a ∈ fs', a ∈ fs) → Q σ' H) → g v σ H Q) (hw : GWipe vs g)
    (ht : Sim K mg WN (PTt K) tt T) (he : Sim K mg WN (PF K) te F) : Sim K mg W (PV K) (tLc wi g tt te vs) (fLc vs I G T F) := by
  intro γ Oc r σ H fs g0
  refine SimAt.bind (t2 := fun (J : It) (H1 : Hp) (Q : VK) => ∀ D, H1 D = none → ∃ W : Nat → Nat → Hp → Prop, (∃ m, W 0 m (upd H1 D (.lst []))) ∧ ∀ i m H, W i m H →
    (J.stop i H ∧ Q (.ref D) H) ∨ (J.go i H ∧ ∃ Nx : Hp → Prop, (∀ H', Nx H' → ∃ m', m' < m ∧ W (i + 1) m' H') ∧ ∀ x H', J.yld i H x H' → g x (L2.wipe σ vs) H' fun σ2 H2 => L2.wipe σ2 vs = L2.wipe σ vs ∧ tt σ2 H2 fun b H3 =>
      if b = true then te σ2 H3 fun y H4 => ∃ acc, H4 D = some (.lst acc) ∧ acc.length < sizeLine ∧ Nx (upd H4 D (.lst (acc ++ [y]))) else Nx H3)) (hi γ Oc r σ H fs g0) fun ds r1 J H1 ⟨fs1, g1, yl, s1⟩ => ?_
  refine SimAt.tr s1 ?_
  cases eL : lcF vs G T F ds [] { r1 with sl := wipeS vs r1.sl } with
  | exc _ _ _ => exact fun Q => trivial
  | bad => exact fun Q => trivial
  | ok accE rE =>
    obtain ⟨slE, eslE⟩ := lcF_wiped _ _ _ _ _ ⟨_, rfl⟩ eL
    intro Q hq p hp
    have k0 := upd_kept (o := .lst []) hp
    obtain ⟨fw, gw, sw⟩ := g1.wipe vs
    have gw1 : Good K γ ([p] ++ Oc) { r1 with sl := wipeS vs r1.sl } (L2.wipe σ vs) (upd H1 p (.lst [])) fw := gw.grow k0 (by simpa using hp) (by simp) (by simp [Own, upd_same, LD])
    refine ⟨fun i m H => m = ds.length - i ∧ i ≤ ds.length ∧ ∃ r fs acc us, Good K γ ([p] ++ Oc) r (L2.wipe σ vs) H fs ∧ H p = some (.lst us) ∧ Rs K (fs ++ ([p] ++ Oc)) H acc us ∧ Stp γ.T fs1 H1 fs H ∧ lcF vs G T F (ds.drop i) acc r = .ok accE rE,
      ⟨ds.length, rfl, Nat.zero_le _, _, fw, [], [], gw1, upd_same, by simp [Rs], ⟨sw, fun a o e _ _ => k0 a o e, (SameT.of k0).th, (SameT.of k0).tb⟩, by simpa using eL⟩, ?_⟩
    rintro i m H ⟨rfl, hil, r, fs, acc, us, g, hD, racc, st, eF⟩
    have stab : Stab (fs1 ++ Oc) H1 (fs ++ ([p] ++ Oc)) H := fun a n e => by
      have nf : a ∉ fs1 := fun z => n (List.mem_append_left _ z)
      have np : a ≠ p := fun z => e (z ▸ hp)
      refine ⟨fun z => ?_, fun u hu q => ?_, fun u hu q => st.keep a _ q (fun _ => nf) hu.nt⟩
      · simp only [List.mem_append, List.mem_singleton] at z
        rcases z with z | z | z
        · exact nf (st.sub a z)
        · exact np z
        · exact n (List.mem_append_right _ z)
      · rcases q with q | ⟨o, q⟩
        · exact .inl (st.keep a _ q (fun _ => nf) hu.nt)
        · exact .inr ⟨o, st.keep a _ q fun _ => nf⟩
    obtain ⟨go, stop⟩ := yl (fs ++ ([p] ++ Oc)) H g.ow stab i
    by_cases hlt : i < ds.length
    · obtain ⟨hgo, hy⟩ := go hlt
      rw [List.drop_eq_getElem_cons hlt] at eF
      refine .inr ⟨hgo, fun H' => ∃ r' fs' acc' us', Good K γ ([p] ++ Oc) r' (L2.wipe σ vs) H' fs' ∧ H' p = some (.lst us') ∧ Rs K (fs' ++ ([p] ++ Oc)) H' acc' us' ∧ Stp γ.T fs1 H1 fs' H' ∧ lcF vs G T F (ds.drop (i + 1)) acc' r' = .ok accE rE, fun H' h => ⟨ds.length - (i + 1), by omega, rfl, hlt, h⟩, fun x H2 y => ?_⟩
      obtain ⟨kp, hx⟩ := hy x H2 y
      have rx := hx ds[i] (List.getElem?_eq_getElem hlt)
      have kp' : SameT H H2 := .of kp
      have g2 := g.kept kp'
      have racc2 : Rs K (fs ++ ([p] ++ Oc)) H2 acc us := Rs.stab g.ow (Stab.weak (fun _ z => z) kp) _ _ racc
      have st2 : Stp γ.T fs1 H1 fs H2 := st.trans (Stp.same _ _ kp')
      unfold lcF at eF
      cases eG : G ds[i] r with
      | none => rw [eG] at eF; cases eF
      | some r3 =>
        rw [eG] at eF
        dsimp only at eF
        refine hw.mono _ _ _ _ _ (fun σ2 H3 hh => ?_) (hw.own _ _ _ _ (hg γ ([p] ++ Oc) r (L2.wipe σ vs) H2 fs ds[i] x r3 g2 rx eG (fun σ' H3 => ∃ fs', Good K γ ([p] ++ Oc) r3 σ' H3 fs' ∧ (∀ a ∈ fs', a ∈ fs) ∧ H3 = H2) fun σ' fs' g' sub => ⟨fs', g', sub, rfl⟩))
        obtain ⟨⟨fs3, g3, sub3, eH⟩, ew⟩ := hh
        subst eH
        rw [wipe_wipe] at ew
        refine ⟨ew, ?_⟩
        have st3 : Stp γ.T fs1 H1 fs3 H3 := ⟨fun a z => st2.sub a (sub3 a z), @Stp.keep _ _ _ _ _ st2, st2.there, st2.tb⟩
        have racc3 : Rs K (fs3 ++ ([p] ++ Oc)) H3 acc us := Rs.stab g2.ow (Stab.weak (fun a z => by
          rcases List.mem_append.mp z with z | z
          · exact List.mem_append_left _ (sub3 a z)
          · exact List.mem_append_right _ z) fun _ _ z => z) _ _ racc2
        have hD3 : H3 p = some (.lst us) := kp _ _ hD
        have ztt := ht γ ([p] ++ Oc) r3 σ2 H3 fs3 g3
        -- the list itself is kept by the block's expressions
        have keepP : ∀ {fa fb : List Addr} {Ha Hb : Hp} {ra : S} {σa : St}, Good K γ ([p] ++ Oc) ra σa Ha fa → Stp γ.T fa Ha fb Hb → Ha p = some (.lst us) → Hb p = some (.lst us) := fun ga sa e => by
          rw [ga.tmp (fp := [p]) sa p (by simp)]
          exact e
        cases eT : T r3 with
        | exc _ _ _ => rw [eT] at eF; cases eF
        | bad => rw [eT] at eF; cases eF
        | ok b r4 =>
          rw [eT] at eF ztt
          refine ztt _ fun c H4 ⟨fs4, g4, ec, s4⟩ => ?_
          subst ec
          have racc4 : Rs K (fs4 ++ ([p] ++ Oc)) H4 acc us := Rs.stab g3.ow (g3.stabSub s4) _ _ racc3
          have hD4 := keepP g3 s4 hD3
          have st4 := st3.trans s4
          cases c with
          | false =>
            rw [if_neg (by simp)]
            obtain ⟨fs5, g5, sub5⟩ := g4.wipe vs
            rw [ew] at g5
            refine ⟨_, fs5, acc, us, g5, hD4, Rs.stab g4.ow (Stab.weak (fun a z => ?_) fun _ _ z => z) _ _ racc4, ⟨fun a z => st4.sub a (sub5 a z), @Stp.keep _ _ _ _ _ st4, st4.there, st4.tb⟩, eF⟩
            rcases List.mem_append.mp z with z | z
            · exact List.mem_append_left _ (sub5 a z)
            · exact List.mem_append_right _ z
          | true =>
            rw [if_pos rfl]
            dsimp only at eF
            have zee := he γ ([p] ++ Oc) r4 σ2 H4 fs4 g4
            cases eE : F r4 with
            | exc _ _ _ => rw [eE] at eF; cases eF
            | bad => rw [eE] at eF; cases eF
            | ok y r5 =>
              rw [eE] at eF zee
              dsimp only at eF
              split at eF
              · rename_i hsz
                refine zee _ fun u H5 ⟨fs5, g5, ry, s5⟩ => ?_
                have racc5 : Rs K (fs5 ++ ([p] ++ Oc)) H5 acc us := Rs.stab g4.ow (g4.stabSub s5) _ _ racc4
                have hD5 := keepP g4 s5 hD4
                have st5 := st4.trans s5
                refine ⟨us, hD5, by rw [racc5.len]; exact hsz, ?_⟩
                obtain ⟨g6, stb6, np6⟩ := g5.setTmp (vs := us ++ [u])
                have rall : Rs K (fs5 ++ ([p] ++ Oc)) H5 (acc ++ [y]) (us ++ [u]) := racc5.app (by simp only [Rs]; exact ⟨u, [], rfl, ry, rfl⟩)
                have rall6 := Rs.stab g5.ow stb6 _ _ rall
                obtain ⟨fs7, g7, sub7⟩ := g6.wipe vs
                rw [ew] at g7
                refine ⟨_, fs7, acc ++ [y], us ++ [u], g7, upd_same, Rs.stab g6.ow (Stab.weak (fun a z => ?_) fun _ _ z => z) _ _ rall6, ⟨fun a z => st5.sub a (sub7 a z), fun a o e n ht => ?_, fun a e => ?_, fun P h => tabs_upd hD5 trivial (st5.tb P h)⟩, eF⟩
                · rcases List.mem_append.mp z with z | z
                  · exact List.mem_append_left _ (sub7 a z)
                  · exact List.mem_append_right _ z
                · have np : a ≠ p := fun z => by rw [z, hp] at e; cases e
                  rw [upd_ne np]
                  exact st5.keep a o e n ht
                · exact nn_upd hD5 rfl (st5.there a e)
              · cases eF
    · have e : ds.drop i = [] := List.drop_eq_nil_of_le (by omega)
      rw [e] at eF
      unfold lcF at eF
      cases eF
      refine .inl ⟨stop (by omega), hq _ _ ?_⟩
      have gu := g.unwipe eslE
      have old : Old K (fs ++ ([p] ++ Oc)) H σ r1.sl := fun j d hd => by
        obtain ⟨u, hu, ru⟩ := g1.old j d hd
        exact ⟨u, hu, R.stab g1.ow stab _ _ ru⟩
      obtain ⟨fs9, g9, sub9⟩ := gu.rest old vs
      refine ⟨fs9, [p], g9, ⟨p, us, rfl, hD, Rs.stab g.ow (Stab.weak (fun a z => ?_) fun _ _ z => z) _ _ racc, rfl⟩, ⟨fun a z => st.sub a (sub9 a z), @Stp.keep _ _ _ _ _ st, st.there, st.tb⟩, by simpa using hp⟩
      rcases List.mem_append.mp z with z | z
      · exact List.mem_append_left _ (sub9 a z)
      · exact List.mem_append_right _ z
end QL
namespace QL
open PySem PySem.Spec L2
structure TsX (X : Cx) (W : WX) (es : List Expr) (t : TT) (F : S → Res Bool) : Prop where
  pe : PTs X es t
  sim : Sim X.K X.mg W (PTt X.K) t F
section
variable {X : Cx} {W : WX} {e elt tg iter : Expr} {ifs : List Expr} {scope : Scope} {own : List (Str × Nat)} {pos : Pos} {wi : TI} {g : TG} {tt : TT} {te : TE} {I : S → Res (List D)} {G : D → S → Option S} {T : S → Res Bool} {F : S → Res D}
def tYesF : S → Res Bool := fun r => .ok true r
theorem tsx_nil : TsX X W [] tYes tYesF := ⟨pts_nil, fun γ Oc r σ H fs g Q hq => hq true H ⟨fs, g, rfl, Stp.refl _ _ _⟩⟩
theorem tsx_one (h : TX X W e tt T) : TsX X W [e] tt T := ⟨pts_one h.pe, h.sim⟩
theorem ex_lc (hp : PE X e (tLc wi g tt te (own.map (·.2)))) (hi : IX X W tg iter wi I) (hw : GWipe (own.map (·.2)) g)
    (hg : ∀ (s : Shared) (H : Hp) (C : Addr) (cl : List (Str × Addr)) (fp : List Addr), GX (X.blk s H scope (compEnvC scope cl C X.env) fp) tg g G)
    (ht : ∀ (s : Shared) (H : Hp) (C : Addr) (cl : List (Str × Addr)) (fp : List Addr), TsX (X.blk s H scope (compEnvC scope cl C X.env) fp) WN ifs tt T)
    (he : ∀ (s : Shared) (H : Hp) (C : Addr) (cl : List (Str × Addr)) (fp : List Addr), FX (X.blk s H scope (compEnvC scope cl C X.env) fp) WN elt te F) : EX X W e (tLc wi g tt te (own.map (·.2))) (fLc (own.map (·.2)) I G T F) :=
  ⟨hp, sim_lc hi.sim (hg X.s_0 X.H_0 0 [] []).sim hw (ht X.s_0 X.H_0 0 [] []).sim (he X.s_0 X.H_0 0 [] []).sim⟩
end
def REs (K : PySem.W.Frag) (γ : Gh) (O : List Addr) (H : Hp) : List D → List V → Prop
  | [], vs => vs = []
  | d :: ds, vs => ∃ v ws, vs = v :: ws ∧ RE K γ O H d v ∧ REs K γ O H ds ws
def PLb (K : PySem.W.Frag) : Pst (List D) (List V) := fun γ Oc r' σ H fs H' ds vs => ∃ fs', Good K γ Oc r' σ H' fs' ∧ REs K γ (fs' ++ Oc) H' ds vs ∧ Stp γ.T fs H fs' H'
instance {K : PySem.W.Frag} : PstT (PLb K) := ⟨fun s ⟨f, a, b, c⟩ => ⟨f, a, b, s.trans c⟩⟩
structure BAX (X : Cx) (W : WX) (es : List Expr) (t : TA) (F : S → Res (List D)) : Prop where
  pe : PA X es t
  sim : Sim X.K X.mg W (PLb X.K) t F
section
variable {X : Cx} {W : WX} {e a b c : Expr} {es : List Expr} {ta tb tc : TE} {tl : TA} {fa fb fc : S → Res D} {F : S → Res SV} {FL : S → Res (List D)} {x : Str} {p pos : Pos}
theorem bax_nil : BAX X W [] tNil aNil := ⟨pa_nil, fun γ Oc r σ H fs g Q hq => hq [] H ⟨fs, g, rfl, Stp.refl _ _ _⟩⟩
theorem bax_cons (h : BX X W e ta fa) (h' : BAX X W es tl FL) (hs : starEach (e :: es) X.env = (false, eval e X.env) :: starEach es X.env := by rfl) : BAX X W (e :: es) (tCons ta tl) (aCons fa FL) := by
  refine ⟨pa_cons h.pe h'.pe hs, fun γ Oc r σ H fs g => ?_⟩
  refine SimAt.bind (t2 := fun (x : V) (H1 : Hp) (Q : List V → Hp → Prop) => tl σ H1 fun xs H2 => Q (x :: xs) H2) (h.sim γ Oc r σ H fs g) fun d r1 v H1 ⟨fs1, g1, v1, s1⟩ => ?_
  refine SimAt.tr s1 (SimAt.bind (t2 := fun (xs : List V) (H2 : Hp) (Q : List V → Hp → Prop) => Q (v :: xs) H2) (h'.sim γ Oc r1 σ H1 fs1 g1) fun ds r2 vs H2 ⟨fs2, g2, v2, s2⟩ => ?_)
  exact SimAt.tr s2 fun Q hq => hq _ _ ⟨fs2, g2, ⟨v, vs, rfl, v1.keep g1 s2, v2⟩, Stp.refl _ _ _⟩
/-- a built-in's rule answers as op says -/
def OpB (K : PySem.W.Frag) (rr : List V → Hp → VK → Prop) (op : List D → Option OV) : Prop :=
  ∀ (γ : Gh) (O : List Addr) (H : Hp) (ds : List D) (vs : List V) (z : OV) (Q : VK), Own O H → REs K γ O H ds vs → op ds = some z → OVQ K O H z Q → rr vs H Q
def fCB (op : List D → Option OV) (FL : S → Res (List D)) : S → Res SV := fun r => (FL r).bind fun ds r => ovR (op ds) r
theorem sim_cb {K : PySem.W.Frag} {mg : Str → Option Value} {rr : List V → Hp → VK → Prop} {op : List D → Option OV} (ho : OpB K rr op) (h : Sim K mg W (PLb K) tl FL) : Sim K mg W (PV K) (tCB rr tl) (fCB op FL) := by
  intro γ Oc r σ H fs g
  refine SimAt.bind (t2 := fun (vs : List V) (H1 : Hp) (Q : VK) => rr vs H1 Q) (h γ Oc r σ H fs g) fun ds r1 vs H1 ⟨fs1, g1, v1, s1⟩ => ?_
  refine SimAt.tr s1 fun Q => ?_
  unfold ovR
  cases q : op ds with
  | none => trivial
  | some z => exact fun hq => ho γ (fs1 ++ Oc) H1 ds vs z Q g1.ow v1 q (ovq_of g1 hq)
theorem ex_cb {rr : List V → Hp → VK → Prop} {op : List D → Option OV} (hp : PE X e (tCB rr tl)) (ho : OpB X.K rr op) (ha : BAX X W es tl FL) : EX X W e (tCB rr tl) (fCB op FL) := ⟨hp, sim_cb ho ha.sim⟩
def dLen : List D → Option OV
  | [.str z] => if z.length ≤ sizeLine then some (.fz (.int z.length)) else none
  | [.list ds] => some (.fz (.int ds.length))
  | [.tuple ds] => some (.fz (.int ds.length))
  | _ => none
def rLen (K : PySem.W.Frag) : List V → Hp → VK → Prop := fun xs H Q => ∃ x n, xs = [x] ∧ LenV K x H n ∧ Q (.int n) H
theorem opb_len {K : PySem.W.Frag} : OpB K (rLen K) dLen := by
  intro γ O H ds vs z Q ow h e hq
  unfold dLen at e
  split at e
  · rename_i s
    split at e
    · rename_i hl
      cases e
      obtain ⟨v, ws, e1, r1, e2⟩ := h
      simp only [RE, R] at r1
      exact ⟨v, s.length, by rw [e1, e2], by rw [r1]; exact ⟨hl, rfl⟩, hq _ (by simp [R])⟩
    · cases e
  · rename_i xs
    cases e
    obtain ⟨v, ws, e1, r1, e2⟩ := h
    obtain ⟨a, us, q1, q2, q3⟩ := r1.tracked
    exact ⟨v, xs.length, by rw [e1, e2], by rw [q1]; exact .inl ⟨us, .inl (.inl q2), q3.len.symm⟩, hq _ (by simp [R])⟩
  · rename_i xs
    cases e
    obtain ⟨v, ws, e1, r1, e2⟩ := h
    simp only [RE, R] at r1
    obtain ⟨a, us, q1, q2, q3⟩ := r1
    exact ⟨v, xs.length, by rw [e1, e2], by rw [q1]; exact .inr ⟨us, TupAt.sq q2, q3.len.symm⟩, hq _ (by simp [R])⟩
  · cases e
def dInt : List D → Option OV
  | [.int i] => some (.fz (.int i))
  | [.bool b] => some (.fz (.int (if b then 1 else 0)))
  | _ => none
def rInt : List V → Hp → VK → Prop := fun xs H Q => (∃ i, xs = [.int i] ∧ Q (.int i) H) ∨ ∃ k, xs = [.bl k] ∧ Q (.int (if k then 1 else 0)) H
theorem opb_int {K : PySem.W.Frag} : OpB K rInt dInt := by
  intro γ O H ds vs z Q ow h e hq
  unfold dInt at e
  split at e
  · rename_i i
    cases e
    obtain ⟨v, ws, e1, r1, e2⟩ := h
    simp only [RE, R] at r1
    exact .inl ⟨i, by rw [e1, e2, r1], hq _ (by simp [R])⟩
  · rename_i i
    cases e
    obtain ⟨v, ws, e1, r1, e2⟩ := h
    simp only [RE, R] at r1
    exact .inr ⟨i, by rw [e1, e2, r1], hq _ (by simp [R])⟩
  · cases e
def dMax2 : List D → Option OV
  | [.int i, .int j] => some (.fz (.int (if j > i then j else i)))
  | _ => none
def dMin2 : List D → Option OV
  | [.int i, .int j] => some (.fz (.int (if j < i then j else i)))
  | _ => none
def rMM2 (f : Int → Int → Int) : List V → Hp → VK → Prop := fun xs H Q => ∃ i j, xs = [.int i, .int j] ∧ Q (.int (f i j)) H
/-- the least, the greatest of some ints -/
def minI : List Int → Int
  | [] => 0
  | [x] => x
  | x :: y :: r => min x (minI (y :: r))
def maxI : List Int → Int
  | [] => 0
  | [x] => x
  | x :: y :: r => max x (maxI (y :: r))
theorem minI_mem : ∀ {l : List Int}, l ≠ [] → minI l ∈ l
  | [], h => absurd rfl h
  | [x], _ => by simp [minI]
  | x :: y :: r, _ => by
    have := minI_mem (l := y :: r) (by simp)
    unfold minI
    rcases Int.le_total x (minI (y :: r)) with h | h
    · rw [Int.min_eq_left h]; simp
    · rw [Int.min_eq_right h]; exact List.mem_cons_of_mem _ this
theorem minI_le : ∀ {l : List Int} {y : Int}, y ∈ l → minI l ≤ y
  | [], y, h => by cases h
  | [x], y, h => by simp at h; simp [minI, h]
  | x :: y :: r, z, h => by
    unfold minI
    rcases List.mem_cons.mp h with h | h
    · rw [h]; exact Int.min_le_left _ _
    · exact Int.le_trans (Int.min_le_right _ _) (minI_le h)
def dMinL : List D → Option OV
  | [.list ds] => match intsD ds with
    | some (n :: ns) => some (.fz (.int (minI (n :: ns))))
    | _ => none
  | _ => none
def dMaxL : List D → Option OV
  | [.list ds] => match intsD ds with
    | some (n :: ns) => some (.fz (.int (maxI (n :: ns))))
    | _ => none
  | _ => none
def dTupOf : List D → Option OV
  | [.list ds] => some (.nt ds)
  | [.tuple ds] => some (.fz (.tuple ds))
  | _ => none
def tyN : D → String
  | .none => "NoneType"
  | .bool _ => "bool"
  | .int _ => "int"
  | .str _ => "str"
  | .list _ => "list"
  | .tuple _ => "tuple"
  | .dict _ => "dict"
def dIsi (T : String) : D → Option OV := fun d => match d with
  | .dict kvs => if T = "dict" then some (.fz (.bool (!isOb kvs))) else (kitB "dict" T).map fun b => .fz (.bool b)
  | d => (kitB (tyN d) T).map fun b => .fz (.bool b)
/-- what is asked of a built-in type -/
def sixT (T : String) : Bool := ["str", "int", "bool", "list", "tuple", "dict"].contains T
def rIsiD (K : PySem.W.Frag) (T : String) : List V → Hp → VK → Prop := fun xs H Q => ∃ (x : V) (b : Bool), xs = [x, .ty T] ∧ ((∃ t, PySem.W.kitOne K t (.type T) = some b ∧ TyX K H x t) ∨ (kitB "dict" T = some b ∧ ∃ a o kvs, x = .ref a ∧ H a = some (.frz o (.dT kvs)))) ∧ Q (.bl b) H
theorem call_isiD {T : String} : CallR X (.builtin "isinstance") (rIsiD X.K T) := by
  intro pins s σ H xs us Q I r h
  obtain ⟨x, b, ex, hty, q⟩ := h
  rcases hty with ⟨t, hk, hty⟩ | ⟨hk, a, o, kvs, e1, e2⟩
  · exact call_isi pins s σ H xs us Q I r ⟨x, .ty T, t, .type T, b, ex, .ty T, hty, hk, q⟩
  · subst ex e1
    obtain ⟨u1, u2, rfl, r1, r2⟩ := vals2 r
    cases (show u1 = Value.ref a from r1)
    cases (show u2 = Value.type T from r2)
    obtain ⟨_, _, _, xs', _, ob, es, ep, h1, h2, _⟩ := (show ObjOk X.prog X.w H s.heap a (.frz o (.dT kvs)) from I.hok a _ e2)
    exact PySem.W.kia_one PySem.W.kitx_dict I.kIn ⟨ob, h1, h2.1⟩ (kit_ty hk) (fun z => nomatch z) fun tk => ⟨.bl b, H, I.tok tk, rfl, q⟩
theorem RK.noOb {O : List Addr} {H : Hp} : ∀ {kvs : List (D × D)} {ws : List (Key × V)}, RK K O H kvs ws → isOb kvs = false
  | [], _, _ => rfl
  | (k, d) :: r, _, h => by
    simp only [RK] at h
    obtain ⟨c, v, ws, _, e, _⟩ := h
    subst e
    cases c <;> rfl
theorem RT.noOb {O : List Addr} {H : Hp} : ∀ {kvs : List (D × D)} {ws : List (List Key × V)}, RT K O H kvs ws → isOb kvs = false
  | [], _, _ => rfl
  | (k, d) :: r, _, h => by
    simp only [RT] at h
    obtain ⟨c, v, ws, _, e, _⟩ := h
    subst e
    rfl
theorem RO'.isOb {O : List Addr} {H : Hp} {C : Addr} : ∀ {kvs : List (D × D)} {ws : List (Str × V)}, RO' K O H C kvs ws → QL.isOb kvs = true ∧ ∃ c, ObC K c C
  | [], _, h => by simp only [RO'] at h
  | (k, d) :: r, _, h => by
    simp only [RO'] at h
    obtain ⟨e, ⟨c, _, hc⟩, _⟩ := h
    subst e
    exact ⟨rfl, c, hc⟩
theorem six_of {T : String} (h : sixT T = true) : T = "str" ∨ T = "int" ∨ T = "bool" ∨ T = "list" ∨ T = "tuple" ∨ T = "dict" := by
  unfold sixT at h
  simpa using h
theorem kit_dict {T : String} {b : Bool} (h : sixT T = true) (hn : T ≠ "dict") (e : kitB "dict" T = some b) : b = false := by
  have k1 : kitB "dict" "str" = some false := by decide +kernel
  have k2 : kitB "dict" "int" = some false := by decide +kernel
  have k3 : kitB "dict" "bool" = some false := by decide +kernel
  have k4 : kitB "dict" "list" = some false := by decide +kernel
  have k5 : kitB "dict" "tuple" = some false := by decide +kernel
  rcases six_of h with rfl | rfl | rfl | rfl | rfl | rfl
  · rw [k1] at e; exact (Option.some.inj e).symm
  · rw [k2] at e; exact (Option.some.inj e).symm
  · rw [k3] at e; exact (Option.some.inj e).symm
  · rw [k4] at e; exact (Option.some.inj e).symm
  · rw [k5] at e; exact (Option.some.inj e).symm
  · exact absurd rfl hn
theorem RE.isi {K : PySem.W.Frag} {γ : Gh} {O : List Addr} {H : Hp} {d : D} {v : V} {T : String} {z : OV} (h : RE K γ O H d v) (hT : sixT T = true) (e : dIsi T d = some z) :
    ∃ b, z = .fz (.bool b) ∧ ((∃ t, PySem.W.kitOne K t (.type T) = some b ∧ TyX K H v t) ∨ (kitB "dict" T = some b ∧ ∃ a o kvs, v = .ref a ∧ H a = some (.frz o (.dT kvs)))) := by
  have base : ∀ {n : String}, (kitB n T).map (fun b => OV.fz (.bool b)) = some z → TyX K H v (.type n) → ∃ b, z = .fz (.bool b) ∧ ((∃ t, PySem.W.kitOne K t (.type T) = some b ∧ TyX K H v t) ∨ (kitB "dict" T = some b ∧ ∃ a o kvs, v = .ref a ∧ H a = some (.frz o (.dT kvs)))) := fun e t => by
    obtain ⟨b, e1, e2⟩ := Option.map_eq_some_iff.mp e
    exact ⟨b, e2.symm, .inl ⟨_, kit_ty e1, t⟩⟩
  cases d with
  | none => simp only [RE, R] at h; subst h; exact base e (.base .non)
  | bool b => simp only [RE, R] at h; subst h; exact base e (.base (.bl b))
  | int b => simp only [RE, R] at h; subst h; exact base e (.base (.int b))
  | str b => simp only [RE, R] at h; subst h; exact base e (.base (.str b))
  | list ds =>
    obtain ⟨a, vs, e1, q, _⟩ := h.tracked
    subst e1
    exact base e (.base (.lst q))
  | tuple ds =>
    simp only [RE, R] at h
    obtain ⟨a, vs, e1, q, _⟩ := h
    subst e1
    exact base e (.base (.tup q))
  | dict kvs =>
    obtain ⟨a, e1, _, h⟩ := h
    subst e1
    have e : (if T = "dict" then some (OV.fz (.bool (!isOb kvs))) else (kitB "dict" T).map fun b => .fz (.bool b)) = some z := e
    have kdd : kitB "dict" "dict" = some true := by decide +kernel
    rcases h with ⟨ws, q, hk⟩ | ⟨ws, q, hk⟩ | ⟨C, dx, ws, q, hk⟩
    · have e2 : (kitB "dict" T).map (fun b => OV.fz (.bool b)) = some z := by
        by_cases hd : T = "dict"
        · subst hd
          rw [if_pos rfl, hk.noOb] at e
          rw [kdd]; exact e
        · rw [if_neg hd] at e; exact e
      rcases q with q | ⟨o, q⟩
      · exact base e2 (.base (.dK q))
      · exact base e2 (.fDict q)
    · have e2 : (kitB "dict" T).map (fun b => OV.fz (.bool b)) = some z := by
        by_cases hd : T = "dict"
        · subst hd
          rw [if_pos rfl, hk.noOb] at e
          rw [kdd]; exact e
        · rw [if_neg hd] at e; exact e
      rcases q with q | ⟨o, q⟩
      · exact base e2 (.base (.dT q))
      · obtain ⟨b, k1, k2⟩ := Option.map_eq_some_iff.mp e2
        exact ⟨b, k2.symm, .inr ⟨k1, a, o, ws, rfl, q⟩⟩
    · obtain ⟨hob, _, hc⟩ := hk.isOb
      have ty : TyX K H (.ref a) (.ref C) := .base (.ins q hc.ic.cl hc.ic.ha hc.ic.hn hc.ic.htk hc.ic.hm)
      have ez : z = .fz (.bool false) := by
        by_cases hd : T = "dict"
        · subst hd
          rw [if_pos rfl, hob] at e
          exact (Option.some.inj e).symm
        · rw [if_neg hd] at e
          obtain ⟨b, k1, k2⟩ := Option.map_eq_some_iff.mp e
          rw [kit_dict hT hd k1] at k2
          exact k2.symm
      exact ⟨false, ez, .inl ⟨_, hc.no T (by unfold sixT at hT; exact List.contains_iff_mem.mp hT), ty⟩⟩
theorem ex_isi {T : String} (hp : PE X e (tCB (rIsiD X.K T) (tCons ta (tCons (tC (.ty T)) tNil)))) (ha : BX X W a ta fa) (hT : sixT T = true := by decide) : EX X W e (tCB (rIsiD X.K T) (tCons ta (tCons (tC (.ty T)) tNil))) (fOp1 (dIsi T) fa) := by
  refine ⟨hp, sim_op1 (rr := fun (x : V) (H1 : Hp) (Q : VK) => rIsiD X.K T [x, .ty T] H1 Q) (fun γ O H d v z Q ow hx e hq => ?_) ha.sim⟩
  obtain ⟨b, e1, e2⟩ := hx.isi hT e
  subst e1
  exact ⟨v, b, rfl, e2, hq _ (by simp [R])⟩
def fMt (op : D → List D → Option OV) (fa : S → Res D) (FL : S → Res (List D)) : S → Res SV := fun r => (fa r).bind fun x r => match x with
  | .str z => (FL r).bind fun ds r => ovR (op (.str z) ds) r
  | _ => Res.bad
def OpM (K : PySem.W.Frag) (rr : V → List V → Hp → VK → Prop) (op : D → List D → Option OV) : Prop :=
  ∀ (γ : Gh) (O : List Addr) (H : Hp) (x : Str) (ds : List D) (vs : List V) (z : OV) (Q : VK), Own O H → REs K γ O H ds vs → op (.str x) ds = some z → OVQ K O H z Q → rr (.str x) vs H Q
theorem sim_mt {K : PySem.W.Frag} {mg : Str → Option Value} {rr : V → List V → Hp → VK → Prop} {op : D → List D → Option OV} (ho : OpM K rr op) (h : Sim K mg W (PB K) ta fa) (h2 : Sim K mg W (PLb K) tl FL) : Sim K mg W (PV K) (tBM K "str" rr ta tl) (fMt op fa FL) := by
  intro γ Oc r σ H fs g
  refine SimAt.bind (t2 := fun (x : V) (H1 : Hp) (Q : VK) => tyV K "str" x H1 ∧ tl σ H1 fun xs H2 => rr x xs H2 Q) (h γ Oc r σ H fs g) fun d r1 v H1 ⟨fs1, g1, v1, s1⟩ => ?_
  refine SimAt.tr s1 ?_
  cases d with
  | str z =>
    simp only [RE, R] at v1
    subst v1
    refine SimAt.imp (SimAt.bind (t2 := fun (xs : List V) (H2 : Hp) (Q : VK) => rr (.str z) xs H2 Q) (h2 γ Oc r1 σ H1 fs1 g1) fun ds r2 vs H2 ⟨fs2, g2, v2, s2⟩ => ?_) fun Q q => ⟨by first | rfl | trivial | simp [tyV], q⟩
    refine SimAt.tr s2 fun Q => ?_
    unfold ovR
    cases q : op (.str z) ds with
    | none => trivial
    | some y => exact fun hq => ho γ (fs2 ++ Oc) H2 z ds vs y Q g2.ow v2 q (ovq_of g2 hq)
  | _ => exact fun Q => trivial
theorem ex_mt {rr : V → List V → Hp → VK → Prop} {op : D → List D → Option OV} (hp : PE X e (tBM X.K "str" rr ta tl)) (ho : OpM X.K rr op) (ha : BX X W a ta fa) (hl : BAX X W es tl FL) : EX X W e (tBM X.K "str" rr ta tl) (fMt op fa FL) := ⟨hp, sim_mt ho ha.sim hl.sim⟩
def dFind3 : D → List D → Option OV
  | .str a, [.str b, .int i] => some (.fz (.int (QM.find3f a b i)))
  | _, _ => none
def rFind3 : V → List V → Hp → VK → Prop := fun x xs H Q => ∃ (a b : Str) (i : Int), x = .str a ∧ xs = [.str b, .int i] ∧ Q (.int (Txt.find3 a b i)) H
theorem opm_find3 {K : PySem.W.Frag} : OpM K rFind3 dFind3 := by
  intro γ O H x ds vs z Q ow h e hq
  unfold dFind3 at e
  split at e
  · rename_i a b i e1
    cases e1
    cases e
    obtain ⟨v, ws, e1, r1, v2, ws2, e2, r2, e3⟩ := h
    simp only [RE, R] at r1 r2
    exact ⟨_, b, i, rfl, by rw [e1, e2, e3, r1, r2], hq _ (by simp [R, QM.find3f_eq])⟩
  · cases e
def dRfind4 : D → List D → Option OV
  | .str a, [.str b, .int i, .int j] => some (.fz (.int (QM.rfind4f a b i j)))
  | _, _ => none
end
end QL
namespace QL
open PySem PySem.Spec L2
section
variable {K : PySem.W.Frag} {mg : Str → Option Value} {W : WX} {γ : Gh} {Oc : List Addr} {r r1 r2 : S} {σ : St} {H H' H1 H2 : Hp} {fs fs1 fp : List Addr}
/-- a slot's own object is written -/
theorem Good.mut {x x' : SV} {i : Nat} {a : Addr} {o : HO} {v : V} (g : Good K γ Oc r σ H fs) (h : r.sl[i]? = some (some x)) (hv : σ[i]? = some (some v)) (hx : ∀ u f, SVR K γ (fs ++ Oc) H x u f → u = v → f = [a])
    (ho : LD o) (hn : Stab (fs ++ Oc) H (fs ++ Oc) (upd H a o) → SVR K γ (fs ++ Oc) (upd H a o) x' v [a]) :
    Good K γ Oc { r with sl := r.sl.set i (some x') } σ (upd H a o) fs ∧ Evo fs H fs (upd H a o) := by
  obtain ⟨⟨f1, f2, e, sl, tp⟩, nd, ow, tt⟩ := id g
  have hi : i < r.sl.length := (List.getElem?_eq_some_iff.mp h).1
  obtain ⟨a1, a2, a3, e2, hy, hset, _⟩ := sl.upd hi
  obtain ⟨u, e3, hu⟩ := hy _ h
  rw [hv] at e3
  obtain rfl : v = u := Option.some.inj (Option.some.inj e3)
  have ea := hx _ _ hu rfl
  subst ea
  have ha : a ∈ fs := by rw [e, e2]; simp
  have ne : ∀ b, b ∉ fs ++ Oc → b ≠ a := fun b n z => n (by rw [z]; simp [ha])
  have st : Stab (fs ++ Oc) H (fs ++ Oc) (upd H a o) := fun b n _ => ⟨n, fun u _ q => by
    rcases q with q | ⟨w, q⟩
    · exact .inl (by rw [upd_ne (ne b n)]; exact q)
    · exact .inr ⟨w, by rw [upd_ne (ne b n)]; exact q⟩, fun u _ q => by rw [upd_ne (ne b n)]; exact q⟩
  have cnt := List.nodup_iff_count.mp nd
  have out : ∀ b, b ∈ a1 ++ a3 → b ≠ a := fun b hb z => by
    subst z
    have c := cnt b
    rw [e, e2] at c
    simp only [List.count_append, List.count_cons, List.count_nil, beq_self_eq_true, if_true] at c
    have : 0 < List.count b (a1 ++ a3) := List.count_pos_iff.mpr hb
    rw [List.count_append] at this
    omega
  have out2 : ∀ b, b ∈ f2 → b ≠ a := fun b hb z => by
    subst z
    have c := cnt b
    rw [e, e2] at c
    simp only [List.count_append, List.count_cons, List.count_nil, beq_self_eq_true, if_true] at c
    have : 0 < List.count b f2 := List.count_pos_iff.mpr hb
    omega
  have z := hset (x := x') (v := v) (f := [a]) ow st (fun b hb => upd_ne (out b hb)) (hn st)
  have eσ : σ.set i (some v) = σ := by
    obtain ⟨hj, e4⟩ := List.getElem?_eq_some_iff.mp hv
    rw [← e4, List.set_getElem_self]
  rw [eσ] at z
  refine ⟨⟨⟨_, f2, e.trans (by rw [e2]), z, ?_⟩, nd, fun b hb => ?_, tt.1, fun q hq => (by
    obtain ⟨w, hw, l⟩ := ow a (List.mem_append_left _ ha)
    exact tabs_upd hw l (tt.2 q hq))⟩, fun b hb => .inl hb, fun b w q n _ => ?_, fun b q => ?_, fun P h => (by
    obtain ⟨w, hw, l⟩ := ow a (List.mem_append_left _ ha)
    exact tabs_upd hw l h)⟩
  · cases q : r.tp with
    | none => rw [q] at tp; exact tp
    | some t =>
      rw [q] at tp
      obtain ⟨b, b1, b2, b3⟩ := tp
      exact ⟨b, b1, by rw [upd_ne (out2 b (by rw [b3]; simp))]; exact b2, b3⟩
  · by_cases hb' : b = a
    · subst hb'; exact ⟨_, upd_same, ho⟩
    · obtain ⟨w, hw, l⟩ := ow b hb
      exact ⟨w, by rw [upd_ne hb']; exact hw, l⟩
  · rw [upd_ne fun z => n (by rw [z]; exact ha)]; exact q
  · obtain ⟨w, hw, l⟩ := ow a (List.mem_append_left _ ha)
    exact nn_upd hw l.nt q
theorem Good.slotV (g : Good K γ Oc r σ H fs) {i : Nat} {x : SV} (h : r.sl[i]? = some (some x)) : ∃ v f, σ[i]? = some (some v) ∧ SVR K γ (fs ++ Oc) H x v f := by
  obtain ⟨⟨f1, f2, e, sl, tp⟩, nd, ow, tt⟩ := g
  obtain ⟨v, a1, a2, a3, e1, e2, e3⟩ := sl.at h
  exact ⟨v, a2, e1, e3⟩
end
def sApp (i : Nat) (FA : S → Res D) : S → RS := fun r => match r.sl[i]? with
  | some (some (.ol _)) => (FA r).bindS fun d r => match r.sl[i]? with
    | some (some (.ol xs)) => if xs.length < sizeLine then RS.nx { r with sl := r.sl.set i (some (.ol (xs ++ [d]))) } else RS.bad
    | _ => RS.bad
  | _ => .bad
section
variable {X : Cx} {W : WX} {e a b c : Expr} {es : List Expr} {ta tb tc : TE} {tl : TA} {fa fb fc : S → Res D} {F : S → Res SV} {FL : S → Res (List D)} {x : Str} {p pos : Pos} {i : Nat}
theorem sim_app {K : PySem.W.Frag} {mg : Str → Option Value} (h : Sim K mg W (PF K) ta fa) : SimS K mg W (tDrop (tBM K "list" rAppend (tVar i) (tCons ta tNil))) (sApp i fa) := by
  intro γ Oc r σ H fs g
  unfold sApp
  split
  · rename_i xs0 e0
    obtain ⟨v, f, ev, hv⟩ := g.slotV e0
    obtain ⟨a, us, eva, ha, rs0, ef⟩ := hv
    subst eva
    refine SimSAt.imp (SimSAt.bindE (t2 := fun (y : V) (H1 : Hp) (E : Ends) => rAppend (.ref a) [y] H1 fun _ H2 => E.nx σ H2) (h γ Oc r σ H fs g) fun d r1 y H1 ⟨fs1, g1, v1, s1⟩ => ?_) fun E q => ⟨.ref a, ev, .inl ⟨rfl, us, .inl (.inl ha)⟩, q⟩
    refine SimSAt.tr s1.evo ?_
    split
    · rename_i xs e1
      split
      · rename_i hl
        intro E hq
        obtain ⟨w, f', ew, hw⟩ := g1.slotV e1
        rw [ev] at ew
        cases ew
        obtain ⟨a', us', eva', ha', rs', ef'⟩ := hw
        cases eva'
        refine ⟨a, us', y, rfl, rfl, ha', by rw [rs'.len]; exact hl, hq σ _ ⟨fs1, ?_⟩⟩
        refine g1.mut (x' := .ol (xs ++ [d])) e1 ev (fun u f hu eu => ?_) (o := .lst (us' ++ [y])) trivial fun st => ⟨a, us' ++ [y], rfl, upd_same, Rs.stab g1.ow st _ _ (rs'.app (by simp only [Rs]; exact ⟨y, [], rfl, v1, rfl⟩)), rfl⟩
        obtain ⟨a2, us2, z1, z2, z3, z4⟩ := hu
        rw [eu] at z1; cases z1
        exact z4
      · exact fun E => trivial
    · exact fun E => trivial
  · exact fun E => trivial
def rgOk (a b : Int) : Bool := sml a && sml b && decide ((b - a).toNat ≤ 2 ^ 24)
def fLRg1 (fa : S → Res D) : S → Res SV := fun r => (fa r).bind fun d r => match d with
  | .int n => if rgOk 0 n = true then Res.ok (SV.ol (rngL 0 (n - 0).toNat)) r else Res.bad
  | _ => Res.bad
def fLRg2 (fa fb : S → Res D) : S → Res SV := fun r => (fa r).bind fun d r => (fb r).bind fun d2 r => match d, d2 with
  | .int i, .int j => if rgOk i j = true then Res.ok (SV.ol (rngL i (j - i).toNat)) r else Res.bad
  | _, _ => Res.bad
def fLRg3 (FL : S → Res (List D)) : S → Res SV := fun r => (FL r).bind fun ds r => match intsD ds with
  | some [i, j, c] => if rgOk i j = true ∧ (i - j).toNat ≤ 2 ^ 24 ∧ c = -1 then Res.ok (SV.ol ((List.range (i - j).toNat).map fun k => .int (i - ((k : Nat) : Int)))) r else Res.bad
  | _ => Res.bad
end
def tkS : Bool → Str
  | true => Str.ofString "digits"
  | false => Str.ofString "mixed"
def tkG (k : Bool) (t : Int × Int) : Int := if k then t.1 else t.2
def tkP (k : Bool) (t : Int × Int) (x : Int) : Int × Int := if k then (x, t.2) else (t.1, x)
def fTk (i : Nat) (k : Bool) : S → Res SV := fun r => match r.sl[i]? with
  | some (some .tape) => match r.tp with
    | some t => .ok (.fz (.int (tkG k t))) r
    | none => .bad
  | _ => .bad
def sTk (i : Nat) (k : Bool) (F : S → Res D) : S → RS := fun r => (F r).bindS fun d r => match r.sl[i]? with
  | some (some .tape) => match r.tp, d with
    | some t, .int x => RS.nx { r with tp := some (tkP k t x) }
    | _, _ => RS.bad
  | _ => RS.bad
section
variable {X : Cx} {W : WX} {e a b c o : Expr} {ta td : TE} {fa : S → Res D} {x : Str} {p pos : Pos} {i : Nat} {k : Bool}
theorem tk_ne : (Str.ofString "digits" : Str) ≠ Str.ofString "mixed" := by decide
theorem tk_val (t : Int × Int) : valV [((.inr (Str.ofString "digits") : Key), V.int t.1), (.inr (Str.ofString "mixed"), V.int t.2)] (.inr (tkS k)) = some (.int (tkG k t)) := by
  cases k with
  | true => exact valV_pos rfl
  | false => exact (valV_neg fun e => tk_ne (Sum.inr.inj e)).trans (valV_pos rfl)
theorem tk_put (t : Int × Int) (x : Int) : HO.dK (putK [((.inr (Str.ofString "digits") : Key), V.int t.1), (.inr (Str.ofString "mixed"), V.int t.2)] (.inr (tkS k)) (.int x)) = tapeO (tkP k t x) := by
  have n1 : ¬ ((.inr (Str.ofString "mixed") : Key) = .inr (Str.ofString "digits")) := fun e => tk_ne (Sum.inr.inj e).symm
  have n2 : ¬ ((.inr (Str.ofString "digits") : Key) = .inr (Str.ofString "mixed")) := fun e => tk_ne (Sum.inr.inj e)
  cases k with
  | true => simp [putK, tkS, tapeO, tkP, tk_ne, n1]
  | false => simp [putK, tkS, tapeO, tkP, tk_ne, n2]
theorem ex_tk (hp : PE X e (tDGet (tVar i) (tC (.str (tkS k))))) : EX X W e (tDGet (tVar i) (tC (.str (tkS k)))) (fTk i k) := by
  refine ⟨hp, fun γ Oc r σ H fs g => ?_⟩
  unfold fTk
  split
  · rename_i e0
    obtain ⟨v, f, ev, ⟨T, hT, eva⟩, _⟩ := g.slotV e0
    subst eva
    obtain ⟨hm, t, q1, q2⟩ := g.tape hT
    rw [q1]
    exact fun Q hq => ⟨.ref T, ev, T, .int (tkG k t), rfl, by have := DGet.k (k := .inr (tkS k)) (show H T = some (.dK _) from q2); rw [tk_val] at this; exact this, hq _ _ ⟨fs, [], g, ⟨by simp [R], rfl⟩, Stp.refl _ _ _, by simp⟩⟩
  · exact fun Q => trivial
theorem sx_tk {st : Stmt} (hp : PS X st (sDPut (tVar i) (tC (.str (tkS k))) ta)) (h : FX X W a ta fa) : SX X W st (sDPut (tVar i) (tC (.str (tkS k))) ta) (sTk i k fa) := by
  refine ⟨hp, fun γ Oc r σ H fs g => ?_⟩
  refine SimSAt.imp (SimSAt.bindE (t2 := fun (v : V) (H1 : Hp) (E : Ends) => ∃ x, σ[i]? = some (some x) ∧ ∃ a H4, x = .ref a ∧ DPut H1 a (.str (tkS k)) v H4 ∧ E.nx σ H4) (h.sim γ Oc r σ H fs g) fun d r1 v H1 ⟨fs1, g1, v1, s1⟩ => ?_) fun E h => h
  refine SimSAt.tr s1.evo ?_
  split
  · rename_i e0
    obtain ⟨u, f, ev, ⟨T, hT, eva⟩, _⟩ := g1.slotV e0
    subst eva
    obtain ⟨hm, t, q1, q2⟩ := g1.tape hT
    rw [q1]
    cases d with
    | int y =>
      simp only [R] at v1
      subst v1
      intro E hq
      refine ⟨.ref T, ev, T, _, rfl, DPut.k (k := .inr (tkS k)) (show H1 T = some (.dK _) from q2) (by show 2 < sizeLine; decide), hq σ _ ⟨fs1, ?_, ?_⟩⟩
      · rw [tk_put]; exact g1.tapeSet hT
      · refine ⟨fun a z => .inl z, fun a o q n _ => ?_, fun a q => ?_, fun P h => tabs_upd q2 trivial h⟩
        · rw [upd_ne fun z => n (by rw [z]; exact hm)]; exact q
        · exact nn_upd q2 rfl q
    | _ => exact fun E => trivial
  · exact fun E => trivial
end
end QL
namespace QL
open PySem PySem.Spec L2
theorem cx_none {P : Program} {w : World} {H : Hp} {s s' : Shared} {e : Value} {out : List Env} (h : L2.CX P w out H s (fun _ _ _ => False) e s') : False := by
  obtain ⟨_, _, _, _, _, _, _, _, _, _, _, _, z⟩ := h
  exact z
section
variable {P : Program} {w : World} {K : PySem.W.Frag} {mg mb : Str → Option Value} {k : Nat} {fa a : Addr} {fd : FuncData} {x : Str} {sp : Sp} {s1 : Shared} {vs : List Value} {ns : List Int}
/-- what the law's heap may be: nothing is tracked but the script -/
structure Heap0 (P : Program) (w : World) (K : PySem.W.Frag) (h : Heap) (a : Addr) (ns : List Int) (H : Hp) : Prop where
  only : Only H
  seq : SqL K H a (ns.map V.int)
  ok : HOk P w H h
  at_ : ∀ b, H b ≠ none → b = a
  nk : H a ≠ none → K.lookup a = none
theorem heap0 (kin : K.In s1.heap) (ha : s1.heap.get? a = some { cls := .type "list", data := .seq vs.toArray }) (hi : PyProof.Rows.IntsAre vs ns) (hl : ns.length ≤ sizeLine) : ∃ H, Heap0 P w K s1.heap a ns H := by
  have rv : Vals (ns.map V.int) vs := vals_ints hi
  have hvl : vs.length = ns.length := hi.length
  cases hk : K.lookup a with
  | some ob =>
    have e := kin a ob hk
    rw [ha] at e
    cases e
    refine ⟨fun _ => none, fun _ => .inl rfl, .inr ⟨_, vs.toArray, _, hk, rfl, rfl, rfl, by rw [List.size_toArray, hvl]; exact hl, by simpa using rv⟩, fun b u z => ?_, fun b z => absurd rfl z, fun z => absurd rfl z⟩
    have z' : (none : Option HO) = some u := z
    cases z'
  | none =>
    refine ⟨fun b => if b = a then some (.frz { cls := .type "list", data := .seq vs.toArray } (.lst (ns.map V.int))) else none, fun b => ?_, .inl (.inr ⟨{ cls := .type "list", data := .seq vs.toArray }, if_pos rfl⟩), fun b u z => ?_, fun b z => ?_, fun _ => hk⟩
    · by_cases hb : b = a
      · exact .inr ⟨_, _, if_pos hb⟩
      · exact .inl (if_neg hb)
    · by_cases hb : b = a
      · have y := (if_pos hb).symm.trans z
        cases y
        subst hb
        exact ⟨ha, by rw [List.length_map]; exact hl, vs, _, rv, ha⟩
      · have y := (if_neg hb).symm.trans z
        cases y
    · by_cases hb : b = a
      · exact hb
      · exact absurd (if_neg hb) z
theorem law_callG (kin : K.In s1.heap) (hns : s1.heap.Ns mainGlobals mg) (hb : s1.heap.Ns builtinsNs mb) (hbb : ∀ y : Str, y ≠ "__name__" → mb y = bootBuiltins y) (hlim : s1.heap.NoLimit) (hg : s1.gens = #[])
    (ha : s1.heap.get? a = some { cls := .type "list", data := .seq vs.toArray }) (hi : PyProof.Rows.IntsAre vs ns) (hl : ns.length ≤ sizeLine) (hr : Room k PySem.callerA)
    (F : ∀ base : Heap, K.In base → base.Ns mainGlobals mg → FnG P w K mg base k fa fd [x] sp) (hbind : ∀ (s : Shared) (u : Value), BindsTo s fd ⟨[u], []⟩ [(x, u)])
    (hsp : ∀ H : Hp, Only H → SqL K H a (ns.map V.int) → sp [.ref a] H (fun v _ => v = .bl true) fun _ _ _ => False) :
    codeAny (model P w) PySem.callerA (.call (.ref fa) ⟨[.ref a], []⟩) (fun r s' => r = .ok (.ret (.bool true)) ∧ OldK s1.heap s'.heap ∧ s'.os = s1.os ∧ PyProof.Rows.AllBare s'.gens) s1 := by
  obtain ⟨H, Z⟩ := heap0 (P := P) (w := w) kin ha hi hl
  have keep : ∀ {b : Addr} {o : Obj}, s1.heap.get? b = some o → H b = none → (hidT s1.heap H).get? b = some o := fun e n => hidT_get e n
  have nodict : ∀ {b : Addr} {o : Obj} {es : Array DictEntry} {ep : Nat}, s1.heap.get? b = some o → o.data = .dict es ep → H b = none := fun {b o es ep} e d => by
    cases q : H b with
    | none => rfl
    | some u =>
      obtain rfl : b = a := Z.at_ b (by rw [q]; simp)
      rw [ha] at e; cases e
      have d' : Data.seq vs.toArray _ = Data.dict es ep := d
      cases d'
  have nsk : ∀ {b : Addr} {m : Str → Option Value}, s1.heap.Ns b m → (hidT s1.heap H).Ns b m := fun {b m} ⟨o, es, ep, e, d, rest⟩ => ⟨o, es, ep, keep e (nodict e d), d, rest⟩
  have kin2 : K.In (hidT s1.heap H) := fun b o e => keep (kin b o e) (by
    cases q : H b with
    | none => rfl
    | some u =>
      obtain rfl : b = a := Z.at_ b (by rw [q]; simp)
      rw [Z.nk (by rw [q]; simp)] at e; cases e)
  obtain ⟨mc, l1, l2⟩ := hlim
  have md : Mod K mg (hidT s1.heap H) := ⟨kin2, nsk hns, ⟨mb, nsk hb, hbb⟩, mc, nsk l1, l2⟩
  have e0 : Env0 P w K mg (hidT s1.heap H) PySem.callerA [] s1 H := ⟨rfl, md, fun b o e => of_hidT e, Nat.le_of_eq (hidT_size _ _), trivial, fun b z => absurd (show b ∈ ([] : List Addr) from z) (by simp), Z.ok, .of_eq hg⟩
  refine codeAny_mono ((F _ kin2 (nsk hns)).run PySem.callerA [] s1 H ⟨[.ref a], []⟩ [.ref a] [.ref a] _ _ rfl hr e0 (hbind s1 (.ref a)) (.cons rfl .nil) (hsp H Z.only Z.seq)) fun res s' h => ?_
  cases res with
  | error e => exact (cx_none h).elim
  | ok fl =>
    cases fl with
    | next => exact False.elim h
    | brk => exact False.elim h
    | cont => exact False.elim h
    | ret u =>
      obtain ⟨v, H', hos, hbare, un, ok', ru, q⟩ := h
      obtain rfl : v = .bl true := q
      obtain rfl : u = Value.bool true := ru
      refine ⟨rfl, OldK.of_keep fun b o e => ?_, hos, hbare⟩
      cases q : H b with
      | none => exact un.keep b o e q (by intro z; exact absurd (show b ∈ ([] : List Addr) from z) (by simp)) (by simp)
      | some u =>
        rcases Z.only b with z | ⟨ob, xs, z⟩
        · rw [q] at z; cases z
        · obtain ⟨e1, _⟩ := Z.ok b _ z
          obtain ⟨e2, _⟩ := ok' b _ (un.frzs b ob _ z)
          rw [e] at e1; cases e1
          exact e2
end
/-- the goal that the head leaves -/
theorem walk_G {l : PySem.W.OpenLaw} {n k : Nat} {q : Program} {loose : List Str} {XP : (Str → Option Value) → Heap → Prop} {YP : World → Heap → Prop} {d : DefRec} {K : Params → PySem.W.Frag} {sp : World → Sp} {x : Str}
    (hn : l.most = some n) (hn2 : n ≤ sizeLine) (hdf : d.params.defaults = []) (hr : Room k PySem.callerA) (hY : ∀ (w : World) (h : Heap), YP w h → (K w.params).In h)
    (F : ∀ (w : World) (mg : Str → Option Value) (fa : Addr) (h : Heap), (K w.params).In h → h.Ns mainGlobals mg → mg d.name = some (.ref fa) →
      ∃ fd : FuncData, (∀ (s : Shared) (u : Value), BindsTo s fd ⟨[u], []⟩ [(x, u)]) ∧ ∀ base : Heap, (K w.params).In base → base.Ns mainGlobals mg → FnG l.prog w (K w.params) mg base k fa fd [x] (sp w))
    (hsp : ∀ (w : World) (H : Hp) (a : Addr) (ns : List Int), ns.length ≤ n → (∀ z ∈ ns, bitsI z ≤ 1048576) → Only H → SqL (K w.params) H a (ns.map V.int) → sp w [.ref a] H (fun v _ => v = .bl true) fun _ _ _ => False) :
    PySem.W.WalkO q loose XP YP l.row.toRowW d [] (fun f vs => PySem.call f vs) := by
  refine Att.attach_callB hn hdf fun w s₀ s₁ mg mb fa o pm cd doc a vs ns G Y ho hd hcd hmg hobj hints hlen hbits hg => ?_
  have kin := hY w _ Y
  obtain ⟨fd, hb, hF⟩ := F w mg fa _ kin G.T.g hmg
  exact law_callG kin G.T.g G.T.b G.T.builtins G.T.nolimit hg hobj hints (Nat.le_trans hlen hn2) hr hF hb fun H hO hS => hsp w H a ns hlen hbits hO hS
def TapeOk (t : Int × Int) : Bool := decide (0 ≤ t.1) && decide (bitsI t.1 ≤ 2097152) && decide (0 ≤ t.2) && decide (t.2 < 1099511627776)
/-- _law_tape(script, start) -/
def spTp (K : PySem.W.Frag) : Sp := fun vs H Q _ => ∃ (sc : Addr) (ns : List Int) (i : Int), vs = [.ref sc, .int i] ∧ SqL K H sc (ns.map V.int) ∧ ns.length ≤ 63 ∧ (∀ z ∈ ns, bitsI z ≤ 1048576) ∧ 0 ≤ i ∧ i < 64 ∧
  ∀ H' p t, Same H H' → H p = none → H' p = some (tapeO t) → TapeOk t = true → Q (.ref p) H'
/-- law(script) -/
def spLaw (K : PySem.W.Frag) (T : List Addr) : Sp := fun vs H Q _ => ∃ (sc : Addr) (ns : List Int), vs = [.ref sc] ∧ TabsL T H ∧ Scr K H sc (ns.map V.int) ∧ ns.length ≤ 63 ∧ (∀ z ∈ ns, bitsI z ≤ 1048576) ∧ ∀ H', Q (.bl true) H'
theorem spLaw_of {K : PySem.W.Frag} {H : Hp} {a : Addr} {ns : List Int} (hl : ns.length ≤ 63) (hb : ∀ z ∈ ns, bitsI z ≤ 1048576) (hO : Only H) (hS : SqL K H a (ns.map V.int)) : spLaw K [] [.ref a] H (fun v _ => v = .bl true) fun _ _ _ => False := by
  refine ⟨a, ns, rfl, tabs0, ?_, hl, hb, fun _ => rfl⟩
  rcases hS with (h | h) | h
  · rcases hO a with z | ⟨o, xs, z⟩ <;> rw [h] at z <;> cases z
  · exact .inl h
  · exact .inr h
/-- the slots at a tape's start: the script, the number of the start, the tape -/
def lawS (n : Nat) (T : List Addr) (i : Int) (t : Int × Int) : S := ⟨some (.scr T) :: some (.fz (.int i)) :: some .tape :: List.replicate n none, some t⟩
def lawE (n : Nat) (T : List Addr) : S := ⟨some (.scr T) :: none :: none :: List.replicate n none, none⟩
/-- what is to be shown of the mirrors: B of a tape's turn, G of the last word -/
structure LawOk (n : Nat) (T : List Addr) (B : S → RS) (G : S → Res SV) : Prop where
  turn : ∀ (i : Int) (t : Int × Int), 0 ≤ i → i < 64 → TapeOk t = true → ∃ r', B (lawS n T i t) = .nx r' ∧ r'.sl[0]? = some (some (.scr T)) ∧ r'.sl.length = n + 3
  last : ∃ r', G (lawE n T) = .ok (.fz (.bool true)) r'
theorem Scr.same {K : PySem.W.Frag} {H H' : Hp} {a : Addr} {xs : List V} (h : Scr K H a xs) (s : SameT H H') : Scr K H' a xs := by
  rcases h with ⟨o, h⟩ | h
  · exact .inl ⟨o, s.kp _ _ h⟩
  · exact .inr h
section
variable {X : Cx} {W : WX} {a b c e : Expr} {rest : List Stmt} {tB : TS} {tE : TE} {B : S → RS} {G : S → Res SV} {n : Nat} {cap : Int} {T : List Addr} {p1 pos : Pos}
def tLawRg (K : PySem.W.Frag) (cap : Int) : TA := tCons (tCB (rMM2 fun i j => if j > i then j else i) (tCons (tC (.int 1)) (tCons (tCB (rMM2 fun i j => if j < i then j else i) (tCons (tC (.int cap)) (tCons (tCB (rLen K) (tCons (tVar 0) tNil)) tNil))) tNil))) tNil
/-- the reading of law's body -/
def tLaw (K : PySem.W.Frag) (cap : Int) (tB : TS) (tE : TE) : TS := tSeq (tFor (iRng1 (tLawRg K cap)) (gName 1) (tSeq (tAsg (tCallS (spTp K) (WE WN) (tCons (tVar 0) (tCons (tVar 1) tNil))) (gName 2)) tB)) (tRet tE)
theorem law_read {K : PySem.W.Frag} {mg : Str → Option Value} (hcap : 0 < cap ∧ cap < 64) (hB : SimS K mg WN tB B) (hE : Sim K mg WN (PV K) tE G) (ok : LawOk n T B G) {vs : List V} {H : Hp} {Q : VK} {E : XK} (h : spLaw K T vs H Q E) (N : List Str) (hN : N.length = n + 3) :
    tLaw K cap tB tE { nx := fun _ H' => Q .non H', rt := Q } (L2.start N vs) H := by
  obtain ⟨sc, ns, ev, hTb, hS, hl, hb, hq⟩ := h
  subst ev
  have st0 : L2.start N [.ref sc] = some (.ref sc) :: List.replicate (n + 2) none := by
    unfold L2.start
    rw [hN]
    rfl
  rw [st0]
  -- how many tapes
  have e62 : (2 : Int) ^ 62 = 4611686018427387904 := by decide
  have hlen : (0 : Int) ≤ ns.length := Int.natCast_nonneg _
  have hlen2 : (ns.length : Int) ≤ 63 := by omega
  obtain ⟨m, hmeq⟩ : ∃ m : Int, m = (if (if (ns.length : Int) < cap then (ns.length : Int) else cap) > 1 then (if (ns.length : Int) < cap then (ns.length : Int) else cap) else 1) := ⟨_, rfl⟩
  have hm1 : 1 ≤ m ∧ m ≤ 63 := by
    rw [hmeq]
    split <;> split <;> omega
  have rg : ∀ (R : It → Hp → Prop), R (Itr 0 m.toNat) H → iRng1 (tLawRg K cap) (some (.ref sc) :: List.replicate (n + 2) none) H R := fun R hR => by
    refine ⟨.ref sc, rfl, ?_⟩
    refine ⟨.ref sc, ns.length, rfl, .inl ⟨ns.map V.int, hS.seq, by simp⟩, ?_⟩
    refine ⟨cap, ns.length, rfl, ?_⟩
    refine ⟨1, _, rfl, ?_⟩
    refine ⟨m, ?_, by rw [e62]; omega, by rw [e62]; omega, hR⟩
    rw [hmeq]
  unfold tLaw tSeq tFor
  refine rg _ ?_
  refine ⟨fun i k σ H' => k = m.toNat - i ∧ i ≤ m.toNat ∧ SameT H H' ∧ σ[0]? = some (some (.ref sc)) ∧ σ.length = n + 3, ⟨m.toNat, by simp, Nat.zero_le _, SameT.refl _, rfl, by simp⟩, ?_⟩
  rintro i k σ H' ⟨rfl, hi, hs, h0, hlσ⟩
  by_cases hlt : i < m.toNat
  · refine .inr ⟨hlt, fun σ' H2 => SameT H H2 ∧ σ'[0]? = some (some (.ref sc)) ∧ σ'.length = n + 3, fun σ' H2 ⟨z1, z2, z3⟩ => ⟨m.toNat - (i + 1), by omega, rfl, hlt, z1, z2, z3⟩, fun x H2 ⟨eH, ex⟩ => ?_⟩
    subst eH ex
    -- the tape
    refine ⟨.ref sc, by rw [List.getElem?_set_ne (by decide)]; exact h0, .int (0 + (i : Int)), by rw [List.getElem?_set_self (by omega)], ?_⟩
    refine ⟨sc, ns, 0 + (i : Int), rfl, (hS.same hs).seq, hl, hb, by omega, by omega, fun H3 p t s3 hp h3 ht => ?_⟩
    -- the turn
    obtain ⟨r', eB, e0, el⟩ := ok.turn (0 + (i : Int)) t (by omega) (by omega) ht
    have S3 : Scr K H3 sc (ns.map V.int) := (hS.same hs).same (.of s3)
    have shape : ∃ τ : St, τ.length = n ∧ ((σ.set 1 (some (.int (0 + (i : Int))))).set 2 (some (.ref p))) = some (.ref sc) :: some (.int (0 + (i : Int))) :: some (.ref p) :: τ := by
      match σ, hlσ, h0 with
      | s0 :: s1 :: s2 :: τ, hlσ, h0 =>
        simp at h0
        subst h0
        exact ⟨τ, by simpa using hlσ, rfl⟩
      | [_, _], hlσ, h0 => simp at hlσ
      | [_], hlσ, h0 => simp at hlσ
      | [], hlσ, h0 => simp at hlσ
    obtain ⟨τ, hτ, eσ⟩ := shape
    show tB _ ((σ.set 1 (some (.int (0 + (i : Int))))).set 2 (some (.ref p))) H3
    rw [eσ]
    have g : Good K ⟨some p, sc, ns, T⟩ [] (lawS n T (0 + (i : Int)) t) (some (.ref sc) :: some (.int (0 + (i : Int))) :: some (.ref p) :: τ) H3 [p] := by
      refine ⟨⟨[], [p], rfl, ⟨_, _, [], [], rfl, rfl, ⟨⟨rfl, rfl, S3⟩, rfl⟩, _, _, [], [], rfl, rfl, ⟨by simp [R], rfl⟩, _, _, [], [], rfl, rfl, ⟨⟨p, rfl, rfl⟩, rfl⟩, Slots.nones n τ hτ⟩, ⟨p, rfl, h3, rfl⟩⟩, by simp, fun a z => ?_, fun _ z => (by cases z), fun q hq => (hs.tb _ (hTb q hq)).ext s3⟩
      have : a = p := by simpa using z
      subst this
      exact ⟨_, h3, trivial⟩
    refine SimSAt.use (hB _ _ _ _ _ _ g) ?_
    rw [eB]
    rintro σ' H4 ⟨fs', g', ev⟩
    refine ⟨⟨fun b o hbo ht => ?_, fun b hb => ev.there b ((SameT.of s3).th b (hs.th b hb)), fun P h => ev.tb P ((hs.tb P h).ext s3)⟩, ?_, ?_⟩
    · exact ev.keep b o (s3 b o (hs.kp b o hbo ht)) (fun z => by
        have : b = p := by simpa using z
        subst this
        rw [hs.kp b o hbo ht] at hp; cases hp) ht
    · obtain ⟨v, f, e1, ⟨e2, _⟩, _⟩ := g'.slotV e0
      rw [e1, e2]
    · obtain ⟨⟨f1, f2, _, sl, _⟩, _⟩ := g'
      rw [sl.len, el]
  · refine .inl ⟨Nat.le_of_not_lt hlt, ?_⟩
    obtain ⟨r', eG⟩ := ok.last
    have shape : ∃ (s1 s2 : Option V) (τ : St), τ.length = n ∧ σ = some (.ref sc) :: s1 :: s2 :: τ := by
      match σ, hlσ, h0 with
      | s0 :: s1 :: s2 :: τ, hlσ, h0 =>
        simp at h0
        subst h0
        exact ⟨s1, s2, τ, by simpa using hlσ, rfl⟩
      | [_, _], hlσ, h0 => simp at hlσ
      | [_], hlσ, h0 => simp at hlσ
      | [], hlσ, h0 => simp at hlσ
    obtain ⟨s1, s2, τ, hτ, eσ⟩ := shape
    rw [eσ]
    have g : Good K ⟨none, sc, ns, T⟩ [] (lawE n T) (some (.ref sc) :: s1 :: s2 :: τ) H' [] := by
      refine ⟨⟨[], [], rfl, ⟨_, _, [], [], rfl, rfl, ⟨⟨rfl, rfl, hS.same hs⟩, rfl⟩, _, _, rfl, _, _, rfl, Slots.nones n τ hτ⟩, rfl⟩, by simp, by simp [Own], fun z => absurd rfl z, fun q hq => hs.tb _ (hTb q hq)⟩
    have z := hE _ _ _ _ _ _ g
    rw [eG] at z
    refine z _ fun v H4 ⟨fs', fp, g', hv, _⟩ => ?_
    obtain ⟨hv, _⟩ := hv
    simp only [R] at hv
    subst hv
    exact hq _
end
end QL
namespace QL
open PySem PySem.Spec L2
abbrev rAddI : R2 := rI0 fun i j => .int (i + j)
abbrev rSubI : R2 := rI0 fun i j => .int (i - j)
abbrev rMulI : R2 := rI CMulB fun i j => .int (i * j)
abbrev rModI : R2 := rI (fun _ j => 0 < j) fun i j => .int (i % j)
abbrev rPowI : R2 := rI CPowB fun i j => .int (i ^ j.toNat)
abbrev rLtI : R2 := rI0 fun i j => .bl (decide (i < j))
abbrev rGeI : R2 := rI0 fun i j => .bl (decide (j ≤ i))
def t1018 : TE := tOp rPowI (tC (.int 10)) (tC (.int 18))
def tTapeBody (K : PySem.W.Frag) : TS := tAsg (tOp rAddI (tOp rModI (tCB rInt (tCons (tOp rPowI (tOp rAddI (tOp rAddI (tOp rMulI (tVar 2) (tC (.int 30029))) (tOp rMulI (tVar 3) (tVar 3))) (tC (.int 13))) (tC (.int 2))) tNil)) (tC (.int 2147483563))) (tC (.int 2))) (gName 2)
def tTape (K : PySem.W.Frag) : TS := tSeq (tAsg (tOp rAddI (tC (.int 101)) (tOp rMulI (tVar 1) (tC (.int 53)))) (gName 2))
  (tSeq (tFor (iList K (tVar 0)) (gName 3) (tTapeBody K))
  (tSeq (tAsg (tIf (tAnd (tB (tOp rLtI (tVar 1) (tCB (rLen K) (tCons (tVar 0) tNil)))) (tB (tOp rGeI (tOp (rIx K) (tVar 0) (tVar 1)) t1018))) (tOp rSubI (tOp (rIx K) (tVar 0) (tVar 1)) t1018) (tC (.int 0))) (gName 4))
  (tRet (tDisp [(tC (.str (Str.ofString "digits")), tVar 4), (tC (.str (Str.ofString "mixed")), tVar 2)]))))
theorem tape_turn {m c : Int} (h0 : 0 ≤ m) (h1 : m < 4294967296) (hc : bitsI c ≤ 1048576) : CMulB m 30029 ∧ CMulB c c ∧ CPowB (m * 30029 + c * c + 13) 2 := by
  have bm : bitsI m ≤ 32 := PySem.intBits_le_iff.mpr (by omega)
  have b3 : bitsI 30029 ≤ 15 := by decide
  have b13 : bitsI 13 ≤ 4 := by decide
  have x1 := PySem.intBits_mul_le bm b3
  have x2 := PySem.intBits_mul_le hc hc
  have x3 := PySem.intBits_add_le x1 x2
  have x4 : bitsI (m * 30029 + c * c + 13) ≤ _ := PySem.intBits_add_le x3 b13
  refine ⟨by unfold CMulB; omega, by unfold CMulB; omega, by decide, ?_⟩
  have e : (2 : Int) ^ 27 = 134217728 := by decide
  rw [e]
  omega
theorem tk_disp (d m : Int) : HO.dK (mergeK [] [((.inr (Str.ofString "digits") : Key), V.int d), (.inr (Str.ofString "mixed"), V.int m)]) = tapeO (d, m) := by
  have n1 : ¬ ((.inr (Str.ofString "mixed") : Key) = .inr (Str.ofString "digits")) := fun e => tk_ne (Sum.inr.inj e).symm
  have n2 : ¬ ((.inr (Str.ofString "digits") : Key) = .inr (Str.ofString "mixed")) := fun e => tk_ne (Sum.inr.inj e)
  simp [mergeK, putK, tapeO, tk_ne]
theorem tape_read {K : PySem.W.Frag} {vs : List V} {H : Hp} {Q : VK} {E : XK} (h : spTp K vs H Q E) (N : List Str) (hN : N.length = 5) : tTape K { nx := fun _ H' => Q .non H', rt := Q } (L2.start N vs) H := by
  obtain ⟨sc, ns, i, ev, hS, hl, hb, hi0, hi1, hq⟩ := h
  subst ev
  have st0 : L2.start N [.ref sc, .int i] = [some (.ref sc), some (.int i), none, none, none] := by
    unfold L2.start
    rw [hN]
    rfl
  rw [st0]
  have b53 : CMulB i 53 := by
    have b1 : bitsI i ≤ 6 := PySem.intBits_le_iff.mpr (by omega)
    have b2 : bitsI 53 ≤ 6 := by decide
    unfold CMulB
    omega
  have e1018 : (10 : Int) ^ (18 : Int).toNat = 1000000000000000000 := by decide
  have p1018 : CPowB 10 18 := by
    refine ⟨by decide, ?_⟩
    have b10 : bitsI 10 = 4 := by decide
    rw [b10]
    decide
  refine ⟨.int i, rfl, i, 53, rfl, rfl, b53, 101, i * 53, rfl, rfl, ?_⟩
  refine ⟨.ref sc, rfl, sc, rfl, ⟨_, hS⟩, ?_⟩
  refine for_list (xs := ns.map V.int) (fun _ σ H' => H' = H ∧ ∃ (m : Int) (c : Option V), σ = [some (.ref sc), some (.int i), some (.int m), c, none] ∧ 0 ≤ m ∧ m < 4294967296) ⟨rfl, 101 + i * 53, none, rfl, by omega, by omega⟩ (fun j σ H' _ ⟨e, _⟩ => by rw [e]; exact hS) (fun j x σ H' hx ⟨e, m, c, eσ, m0, m1⟩ => ?_) (fun σ H' ⟨e, m, c, eσ, m0, m1⟩ => ?_)
  · subst e eσ
    rw [List.getElem?_map] at hx
    obtain ⟨z, hz, rfl⟩ := Option.map_eq_some_iff.mp hx
    obtain ⟨c1, c2, c3⟩ := tape_turn m0 m1 (hb z (List.mem_of_getElem? hz))
    refine ⟨.int m, rfl, m, 30029, rfl, rfl, c1, .int z, rfl, .int z, rfl, z, z, rfl, rfl, c2, m * 30029, z * z, rfl, rfl, m * 30029 + z * z, 13, rfl, rfl, m * 30029 + z * z + 13, 2, rfl, rfl, c3, .inl ⟨_, rfl, ?_⟩⟩
    refine ⟨_, 2147483563, rfl, rfl, (by show (0 : Int) < 2147483563; decide), _, 2, rfl, rfl, rfl, _, some (.int z), rfl, ?_, ?_⟩
    · have := Int.emod_nonneg ((m * 30029 + z * z + 13) ^ (2 : Int).toNat) (b := 2147483563) (by decide)
      omega
    · have := Int.emod_lt_of_pos ((m * 30029 + z * z + 13) ^ (2 : Int).toNat) (b := 2147483563) (by decide)
      omega
  · subst e eσ
    -- digits
    have fin : ∀ d : Int, 0 ≤ d → bitsI d ≤ 2097152 → (tRet (tDisp [(tC (.str (Str.ofString "digits")), tVar 4), (tC (.str (Str.ofString "mixed")), tVar 2)])) { nx := fun _ H' => Q .non H', rt := Q } [some (.ref sc), some (.int i), some (.int m), c, some (.int d)] H' := fun d d0 d1 p hp => by
      refine ⟨.int d, rfl, .int m, rfl, upd_same, [((.inr (Str.ofString "digits") : Key), V.int d), (.inr (Str.ofString "mixed"), V.int m)], rfl, (by show 2 ≤ 15; decide), ?_⟩
      rw [tk_disp]
      refine hq _ p (d, m) (fun b o e => ?_) hp upd_same ?_
      · have nb : b ≠ p := fun z => by rw [z, hp] at e; cases e
        rw [upd_ne nb, upd_ne nb]; exact e
      · unfold TapeOk
        simp only [Bool.and_eq_true, decide_eq_true_eq]
        exact ⟨⟨⟨d0, d1⟩, m0⟩, by omega⟩
    refine ⟨.int i, rfl, .ref sc, rfl, ⟨.ref sc, ns.length, rfl, .inl ⟨_, hS, by simp⟩, i, ns.length, rfl, rfl, _, rfl, ?_⟩⟩
    by_cases hlt : i < ns.length
    · rw [decide_eq_true hlt]
      refine iteT ?_
      have hn : i.toNat < ns.length := by omega
      have hat : atI (ns.map V.int) i = some (.int ns[i.toNat]) := by
        have h1 : atI (ns.map V.int) ((i.toNat : Nat) : Int) = some (.int ns[i.toNat]) := atI_nat (by rw [List.getElem?_map, List.getElem?_eq_getElem hn]; rfl)
        rwa [show ((i.toNat : Nat) : Int) = i by omega] at h1
      have ix : ∀ (Q' : VK), Q' (.int ns[i.toNat]) H' → rIx K (.ref sc) (.int i) H' Q' := fun Q' q => .inl ⟨sc, ns.map V.int, i, _, rfl, rfl, hS, hat, q⟩
      refine ⟨.ref sc, rfl, .int i, rfl, ix _ ⟨10, 18, rfl, rfl, p1018, ns[i.toNat], _, rfl, rfl, _, rfl, ?_⟩⟩
      by_cases hge : (10 : Int) ^ (18 : Int).toNat ≤ ns[i.toNat]
      · rw [decide_eq_true hge]
        refine iteT ?_
        refine ⟨.ref sc, rfl, .int i, rfl, ix _ ⟨10, 18, rfl, rfl, p1018, ns[i.toNat], _, rfl, rfl, ?_⟩⟩
        have b1 := hb _ (List.getElem_mem hn)
        have b2 : bitsI ((10 : Int) ^ (18 : Int).toNat) ≤ 60 := by rw [e1018]; decide
        have b3 : bitsI (ns[i.toNat] - (10 : Int) ^ (18 : Int).toNat) ≤ _ := PySem.intBits_sub_le b1 b2
        exact fin _ (by omega) (by omega)
      · rw [decide_eq_false hge]
        refine iteF ?_
        exact fin 0 (by omega) (by decide)
    · rw [decide_eq_false hlt]
      refine iteF (iteF ?_)
      exact fin 0 (by omega) (by decide)
end QL
namespace QL
open PySem PySem.Spec L2
structure DefF (P : Program) (w : World) (K : PySem.W.Frag) (mg : Str → Option Value) (base : Heap) (x : Str) (k n : Nat) (F : List D → FR) : Prop where
  ex : ∃ f fd ps, FnG P w K mg base k f fd ps (spF K mg n F) ∧ mg x = some (.ref f) ∧ PySem.W.keepIn K (.ref f) = true ∧ Binds K fd ps []
structure DefT (P : Program) (w : World) (K : PySem.W.Frag) (mg : Str → Option Value) (base : Heap) (x : Str) (k n : Nat) (F : Int × Int → List D → FR) : Prop where
  ex : ∃ f fd ps, FnG P w K mg base k f fd ps (spT K mg n F) ∧ mg x = some (.ref f) ∧ PySem.W.keepIn K (.ref f) = true ∧ Binds K fd ps []
section
variable {X : Cx} {W : WX} {e a b c tg iter elt : Expr} {es ifs : List Expr} {body rest : List Stmt} {t t2 ta tb tc te : TE} {tA tt : TT} {tl : TA} {tS u : TS} {g : TG} {gs : TGs} {wi : TI} {fa fb fc FF : S → Res D} {F F1 F2 : S → Res SV} {FL : S → Res (List D)} {FS : S → Res (List SV)} {FA T : S → Res Bool} {B : S → RS} {I : S → Res (List D)} {G : D → S → Option S} {Gs : List D → S → Option S}
  {x y z : Str} {p p2 p3 pos py : Pos} {i j l k k2 n : Nat} {scope : Scope} {own : List (Str × Nat)}
theorem ex_callD {FD : List D → FR} (h : DefF X.prog X.w X.K X.mg X.base x k n FD) (hG : X.A.guards = some []) (hr : Room k2 X.A) (tk : Takes X W) (ha : AX X W (e :: es) tl FL) (hk : k ≤ k2 := by decide) (hg : Gl X x := by rfl)
    (hdb : (x == ("__debug__" : Str)) = false := by decide) (he : starEach (e :: es) X.env = (false, eval e X.env) :: starEach es X.env := by rfl) (hpl : (backTo pos (starEach es X.env)).any (·.1) = false := by rfl) :
    EX X W (.Call (.Name x p) (e :: es) [] pos) (tCallS (spF X.K X.mg n FD) (WE W) tl) (fCall n FD FL) := by
  obtain ⟨f, fd, ps, h1, h2, h3, h4⟩ := h.ex
  exact ex_call h1 hG (hr.mono hk) hg h2 h3 h4 tk ha hdb he hpl
theorem ex_callDT {FD : Int × Int → List D → FR} (h : DefT X.prog X.w X.K X.mg X.base x k n FD) (hG : X.A.guards = some []) (hr : Room k2 X.A) (tk : Takes X W) (hv : PE X e (tVar i)) (ha : AX X W es tl FL) (hk : k ≤ k2 := by decide) (hg : Gl X x := by rfl)
    (hdb : (x == ("__debug__" : Str)) = false := by decide) (he : starEach (e :: es) X.env = (false, eval e X.env) :: starEach es X.env := by rfl) (hpl : (backTo pos (starEach es X.env)).any (·.1) = false := by rfl) :
    EX X W (.Call (.Name x p) (e :: es) [] pos) (tCallS (spT X.K X.mg n FD) (WE W) (tCons (tVar i) tl)) (fCallT i n FD FL) := by
  obtain ⟨f, fd, ps, h1, h2, h3, h4⟩ := h.ex
  exact ex_callT h1 hG (hr.mono hk) hg h2 h3 h4 tk hv ha hdb he hpl
theorem ex_len (hm : X.mg "len" = none) (ha : BAX X W [e] tl FL) (hg : Gl X "len" := by rfl) (he : starEach [e] X.env = (false, eval e X.env) :: starEach [] X.env := by rfl) : EX X W (.Call (.Name "len" p) [e] [] pos) (tCB (rLen X.K) tl) (fCB dLen FL) :=
  ex_cb (pe_callB call_len hg hm PySem.boot_len ha.pe (by decide) (by decide) he (by rfl)) opb_len ha
theorem ex_int (hm : X.mg "int" = none) (ha : BAX X W [e] tl FL) (hg : Gl X "int" := by rfl) (he : starEach [e] X.env = (false, eval e X.env) :: starEach [] X.env := by rfl) : EX X W (.Call (.Name "int" p) [e] [] pos) (tCB rInt tl) (fCB dInt FL) :=
  ex_cb (pe_callTy call_int1 hg hm PyProof.Rows.boot_int ha.pe (by decide) (by decide) he (by rfl)) opb_int ha
theorem ex_isiT {Ty : String} (hm : X.mg "isinstance" = none) (hy : X.mg y = none) (hb : bootBuiltins y = some (.type Ty)) (ha : BX X W a ta fa) (hg : Gl X "isinstance" := by rfl) (hgy : Gl X y := by rfl) (hn : y ≠ "__name__" := by decide) (hd : (y == ("__debug__" : Str)) = false := by decide)
    (he : starEach [a, .Name y py] X.env = (false, eval a X.env) :: starEach [.Name y py] X.env := by rfl) (he2 : starEach [.Name y py] X.env = (false, eval (.Name y py) X.env) :: starEach [] X.env := by rfl) (hpl : (backTo pos (starEach [.Name y py] X.env)).any (·.1) = false := by rfl) (hT : sixT Ty = true := by decide) :
    EX X W (.Call (.Name "isinstance" p) [a, .Name y py] [] pos) (tCB (rIsiD X.K Ty) (tCons ta (tCons (tC (.ty Ty)) tNil))) (fOp1 (dIsi Ty) fa) :=
  ex_isi (pe_callB call_isiD hg hm PyProof.Rows.boot_isinstance (pa_cons ha.pe (pa_cons (pe_bltn (v := .ty Ty) hgy hy hb rfl hn hd) pa_nil he2) he) (by decide) (by decide) he hpl) ha hT
theorem sim_tv {K : PySem.W.Frag} {mg : Str → Option Value} (h : Sim K mg W (PB K) ta fa) : Sim K mg W (PTt K) (tTest ta) (tV fa) := by
  intro γ Oc r σ H fs g
  refine SimAt.bind (t2 := fun (x : V) (H1 : Hp) (Q : Bool → Hp → Prop) => ∃ c, x = .bl c ∧ Q c H1) (h γ Oc r σ H fs g) fun d r1 v H1 ⟨fs1, g1, v1, s1⟩ => ?_
  refine SimAt.tr s1 fun Q => ?_
  cases d with
  | bool b =>
    simp only [RE, R] at v1
    exact fun hq => ⟨b, v1, hq b H1 ⟨fs1, g1, rfl, Stp.refl _ _ _⟩⟩
  | _ => trivial
theorem tx_cmp {op : D → D → Option OV} {o : CmpOp} {rr : R2} (ho : OpR X (compareOp o) rr) (hs : OpS X.K rr op) (ha : BX X W a ta fa) (hb : BX X W b tb fb) (hm : behindInMarks o b = false) : TX X W (.Compare a [o] [b] pos) (tTest (tOp rr ta tb)) (tV (fD (fOp op fa fb))) :=
  ⟨pt_cmpR ho ha.pe hb.pe hm, sim_tv (EX.toB (ex_cmp (pos := pos) ho hs ha hb hm)).sim⟩
theorem gx_nm (hN : X.N.Nodup) (hi : X.N[i]? = some x := by rfl) (hx : Loc X.env.scope x := by first | exact Or.inl rfl | exact Or.inr rfl) (hf : X.fn x = true ∨ X.env.scope.names.lookup x = some .local := by first | exact .inl rfl | exact .inr rfl) : GX X (.Name x pos) (gName i) (gNm i) := gx_name (pg_name hN hi hx hf)
theorem gx_tp {k0 : Nat} (hc : X.calm = true) (h : GXs X es gs Gs) (hn : (assignEach es X.env).length = n := by rfl) (hst : (assignEach es X.env).findIdx? (·.1) = none := by rfl) : GX X (.Tuple es k0 pos) (gTup X.K n gs) (gTupF n Gs) := gx_tup h (pg_tup hc h.pg hn hst)
theorem sx_set (hN : X.N.Nodup) (h : EX X W e ta F) (hi : X.N[i]? = some x := by rfl) (hx : Loc X.env.scope x := by first | exact Or.inl rfl | exact Or.inr rfl) (hs : swapsWith e (some (.Name x py)) pos.line X.env = pure false := by rfl)
    (hf : X.fn x = true ∨ X.env.scope.names.lookup x = some .local := by first | exact .inl rfl | exact .inr rfl) : SX X W (.Assign [.Name x py] e pos) (tAsg ta (gName i)) (sAsg i F) := sx_asg h (ps_set hN hi hx h.pe hs hf)
theorem ex_lcW (hc : X.calm = true) (hN : X.N.Nodup) (ok : BlkOk X.N X.env.scope scope own) (hi : IX X W tg iter wi I) (hw : GWipe (own.map (·.2)) g)
    (hg : ∀ (s : Shared) (H : Hp) (C : Addr) (cl : List (Str × Addr)) (fp : List Addr), GX (X.blk s H scope (compEnvC scope cl C X.env) fp) tg g G)
    (ht : ∀ (s : Shared) (H : Hp) (C : Addr) (cl : List (Str × Addr)) (fp : List Addr), TsX (X.blk s H scope (compEnvC scope cl C X.env) fp) WN ifs tt T)
    (he : ∀ (s : Shared) (H : Hp) (C : Addr) (cl : List (Str × Addr)) (fp : List Addr), FX (X.blk s H scope (compEnvC scope cl C X.env) fp) WN elt te FF) (hs : ∀ x, foldedSetIterable iter X.env x = pure x := by intro _; rfl) :
    EX X W (.ListComp elt [⟨tg, iter, ifs, 0⟩] scope pos) (tLc wi g tt te (own.map (·.2))) (fLc (own.map (·.2)) I G T FF) :=
  ex_lc (pe_lc hc hN hi.pi ok (fun s H C cl fp => (hg s H C cl fp).pg) (fun s H C cl fp => (ht s H C cl fp).pe) (fun s H C cl fp => (he s H C cl fp).pe) hs) hi hw hg ht he
/-- name = [..] on one line -/
theorem sx_setLc (hc : X.calm = true) (hN : X.N.Nodup) (ok : BlkOk X.N X.env.scope scope own) (hi : IX X W tg iter wi I) (hw : GWipe (own.map (·.2)) g)
    (hg : ∀ (s : Shared) (H : Hp) (C : Addr) (cl : List (Str × Addr)) (fp : List Addr), GX (X.blk s H scope (compEnvC scope cl C X.env) fp) tg g G)
    (ht : ∀ (s : Shared) (H : Hp) (C : Addr) (cl : List (Str × Addr)) (fp : List Addr), TsX (X.blk s H scope (compEnvC scope cl C X.env) fp) WN ifs tt T)
    (he : ∀ (s : Shared) (H : Hp) (C : Addr) (cl : List (Str × Addr)) (fp : List Addr), FX (X.blk s H scope (compEnvC scope cl C X.env) fp) WN elt te FF)
    (hix : X.N[i]? = some y := by rfl) (hyl : X.env.scope.names.lookup y = some .local := by rfl) (hsw : swapsWith (.ListComp elt [⟨tg, iter, ifs, 0⟩] scope pos) (some (.Name y py)) p.line X.env = pure true := by rfl) (hs : ∀ x, foldedSetIterable iter X.env x = pure x := by intro _; rfl) :
    SX X W (.Assign [.Name y py] (.ListComp elt [⟨tg, iter, ifs, 0⟩] scope pos) p) (tAsg (tLc wi g tt te (own.map (·.2))) (gName i)) (sAsg i (fLc (own.map (·.2)) I G T FF)) :=
  sx_asg (ex_lcW hc hN ok hi hw hg ht he hs) (ps_setLc hc hN hix hyl hsw hi.pi ok (fun s H C cl fp => (hg s H C cl fp).pg) (fun s H C cl fp => (ht s H C cl fp).pe) (fun s H C cl fp => (he s H C cl fp).pe) hs)
theorem sx_p2 {px pt : Pos} {kt k0 : Nat} {pt2 : Pos} (hc : X.calm = true) (hN : X.N.Nodup) (h : OAX X W [a, b] tl FS) (hi : X.N[i]? = some x := by rfl) (hj : X.N[j]? = some y := by rfl) (hij : i ≠ j := by decide)
    (hx : X.env.scope.names.lookup x = some .local := by rfl) (hy : X.env.scope.names.lookup y = some .local := by rfl) (hw : swappedStores [.Tuple [.Name x px, .Name y py] kt pt] (.Tuple [a, b] k0 pt2) X.env = pure (some [x, y]) := by rfl)
    (hs : swapsWithSole [.Tuple [.Name x px, .Name y py] kt pt] (.Tuple [a, b] k0 pt2) pos.line X.env = pure false := by rfl) :
    SX X W (.Assign [.Tuple [.Name x px, .Name y py] kt pt] (.Tuple [a, b] k0 pt2) pos) (tPar i j tl) (sPar2 i j FS) := sx_par2 h (ps_par hc hN hi hj hij hx hy h.pe hw hs)
section
variable {apos : Pos} {id : String} {op : D → List D → Option OV} {rr : V → List V → Hp → VK → Prop}
theorem ex_ms (slot : Slot "str" x id) (hty : typeOf (.builtin id) = pure (.type "method_descriptor")) (hm : MtR X id rr) (ho : OpM X.K rr op) (ha : BX X W a ta fa) (hl : BAX X W (e :: es) tl FL) (hbase : attributeBase a x X.env (eval a X.env) = eval a X.env := by rfl)
    (hfew : ((backTo pos (starEach (e :: es) X.env)).all (fun x => !x.1) && (backToKw pos (keywordEach [] X.env)).all (fun x => x.1.isSome) && decide ((e :: es).length + ([] : List Keyword).length + (if ([] : List Keyword).isEmpty then 0 else 1) < 30)) = true := by rfl)
    (hline : (apos.endLine == pos.line) = true := by rfl) (hs : starEach (e :: es) X.env = (false, eval e X.env) :: starEach es X.env := by rfl) (hpl : (backTo pos (starEach es X.env)).any (·.1) = false := by rfl) :
    EX X W (.Call (.Attribute a x apos) (e :: es) [] pos) (tBM X.K "str" rr ta tl) (fMt op fa FL) := ex_mt (pe_bm PySem.F.plainAttrs_str slot hty hm ha.pe hl.pe hbase hfew hline hs hpl) ho ha hl
theorem sx_append (hv : PE X a (tVar i)) (h : FX X W e te FF) (hbase : attributeBase a "append" X.env (eval a X.env) = eval a X.env := by rfl)
    (hfew : ((backTo pos (starEach [e] X.env)).all (fun x => !x.1) && (backToKw pos (keywordEach [] X.env)).all (fun x => x.1.isSome) && decide (([e] : List Expr).length + ([] : List Keyword).length + (if ([] : List Keyword).isEmpty then 0 else 1) < 30)) = true := by rfl)
    (hline : (apos.endLine == pos.line) = true := by rfl) (hs : starEach [e] X.env = (false, eval e X.env) :: starEach [] X.env := by rfl) (hpl : (backTo pos (starEach [] X.env)).any (·.1) = false := by rfl)
    (hsw : swapsWith (.Call (.Attribute a "append" apos) [e] [] pos) none p.line X.env = pure false := by rfl) : SX X W (.Expr (.Call (.Attribute a "append" apos) [e] [] pos) p) (tDrop (tBM X.K "list" rAppend (tVar i) (tCons te tNil))) (sApp i FF) :=
  ⟨ps_expr (pe_bm PySem.F.plainAttrs_list PySem.F.slot_list_append PySem.F.type_list_append mt_append hv (pa_cons h.pe pa_nil hs) hbase hfew hline hs hpl) hsw, sim_app h.sim⟩
end
theorem ex_tkW {kk : Bool} {j0 : Nat} (hu : X.A.units + 1 < cLine) (hv : PE X a (tVar i)) (hs : NoSl (.Constant (.str (tkS kk)) j0 p) := by exact fun _ _ => rfl) : EX X W (.Subscript a (.Constant (.str (tkS kk)) j0 p) pos) (tDGet (tVar i) (tC (.str (tkS kk)))) (fTk i kk) := ex_tk (pe_dget hu hv pe_str hs)
theorem sx_tkW {kk : Bool} {j0 : Nat} (hu : X.A.units + 1 < cLine) (hv : PE X a (tVar i)) (h : FX X W e te FF) (hs : swapsWith e (some (.Subscript a (.Constant (.str (tkS kk)) j0 p) p2)) pos.line X.env = pure false := by rfl) :
    SX X W (.Assign [.Subscript a (.Constant (.str (tkS kk)) j0 p) p2] e pos) (sDPut (tVar i) (tC (.str (tkS kk))) te) (sTk i kk FF) := sx_tk (ps_dput hu hv pe_str h.pe hs) h
/-- text constants of the module -/
theorem fx_gs {zt : Str} (hm : ∃ tk, X.mg x = some (.str zt tk)) (hg : Gl X x := by rfl) (hd : (x == ("__debug__" : Str)) = false := by decide) : FX X W (.Name x pos) (tC (.str zt)) (fC (.str zt)) := by
  obtain ⟨tk, hm⟩ := hm
  exact fx_glob (u := .str zt tk) hg hm ⟨tk, rfl⟩ (fun K O H => by simp [R]) hd
end
section
variable {X : Cx} {W : WX} {es : List Expr} {tl : TA} {FL : S → Res (List D)} {x1 : Nat} {pos : Pos}
theorem ex_tp (h : AX X W es tl FL) : EX X W (.Tuple es x1 pos) (tTup tl) (eTup FL) := ex_tup (tp := none) h (pe_tup h.pe)
end
/-- the law, by its mirrors -/
theorem fg_law {P : Program} {w : World} {K : PySem.W.Frag} {mg : Str → Option Value} {base : Heap} {k n : Nat} {f : Addr} {fd : FuncData} {N : List Str} {qual x : Str} {st : Stmt} {B : S → RS} {G : S → Res SV} {cap : Int} {T : List Addr} (F : Fun K x qual st f fd) (Sc : FnScope N ["script"] (defScope st)) (hN : N.length = n + 3)
    (hcap : 0 < cap ∧ cap < 64) (ok : LawOk n T B G)
    (hb : ∀ (cdv : Value) (A : Around) (out : List Env) (s : Shared) (H : Hp) (E : XK), A.guards = some [] → Room k (A.deeper (PyProof.Rows.envOfC qual (defScope st) s.heap.objs.size f cdv)) →
      ∃ tB tE, SimS K mg WN tB B ∧ Sim K mg WN (PV K) tE G ∧ PSs (cxOf (L2.CX P w) P w K mg base N qual (defScope st) f cdv A out s H E) (defBody st) (tLaw K cap tB tE)) : FnG P w K mg base (k + 1) f fd ["script"] (spLaw K T) := by
  refine fg_of F Sc (fun vs H Q E h => ?_) fun cdv A out s H vs Q E hG hr h => ?_
  · obtain ⟨sc, ns, e, _⟩ := h
    rw [e]; rfl
  · obtain ⟨tB, tE, h1, h2, h3⟩ := hb cdv A out s H E hG hr
    exact ⟨_, h3, law_read hcap h1 h2 ok h N hN⟩
/-- _law_tape -/
theorem fg_tape {P : Program} {w : World} {K : PySem.W.Frag} {mg : Str → Option Value} {base : Heap} {k : Nat} {f : Addr} {fd : FuncData} {N : List Str} {qual x : Str} {st : Stmt} (F : Fun K x qual st f fd) (Sc : FnScope N ["script", "start"] (defScope st)) (hN : N.length = 5)
    (hb : ∀ (cdv : Value) (A : Around) (out : List Env) (s : Shared) (H : Hp) (E : XK), Room k (A.deeper (PyProof.Rows.envOfC qual (defScope st) s.heap.objs.size f cdv)) → PSs (cxOf (L2.CX P w) P w K mg base N qual (defScope st) f cdv A out s H E) (defBody st) (tTape K)) : FnG P w K mg base (k + 1) f fd ["script", "start"] (spTp K) := by
  refine fg_of F Sc (fun vs H Q E h => ?_) fun cdv A out s H vs Q E hG hr h => ?_
  · obtain ⟨sc, ns, i, e, _⟩ := h
    rw [e]; rfl
  · exact ⟨_, hb cdv A out s H E hr, tape_read h N hN⟩
def setAll : List Nat → List SV → S → RS
  | [], [], r => .nx r
  | i :: is, x :: xs, r => (setS i x r).go (setAll is xs)
  | _, _, _ => .bad
def gNs : List Nat → TGs
  | [] => gNil
  | i :: is => gCons (gName i) (gNs is)
def sParN (is : List Nat) (F : S → Res (List SV)) : S → RS := fun r => (F r).bindS fun xs r => if xs.length = is.length then setAll is xs r else RS.bad
theorem SVRs.mono {K : PySem.W.Frag} {γ : Gh} {O O' : List Addr} {H : Hp} {xs : List SV} {vs : List V} {fp : List Addr} (ow : Own O H) (s : ∀ a ∈ O', a ∈ O) (h : SVRs K γ O H xs vs fp) : SVRs K γ O' H xs vs fp := h.stab ow (Stab.weak s fun _ _ z => z) fun _ _ => rfl
theorem SVRs.len {K : PySem.W.Frag} {γ : Gh} {O : List Addr} {H : Hp} : ∀ {xs : List SV} {vs : List V} {fp : List Addr}, SVRs K γ O H xs vs fp → vs.length = xs.length
  | [], vs, fp, h => by rw [h.1]; rfl
  | x :: xs, vs, fp, h => by
    obtain ⟨v, ws, f1, f2, e1, _, _, h2⟩ := h
    rw [e1, List.length_cons, List.length_cons, h2.len]
theorem sim_setAll {K : PySem.W.Frag} {mg : Str → Option Value} {W : WX} {γ : Gh} {Oc fs0 : List Addr} {H H0 : Hp} : ∀ (is : List Nat) (xs : List SV) (vs : List V) (fp fs : List Addr) (r : S) (σ : St), Good K γ (fp ++ Oc) r σ H fs → SVRs K γ (fs ++ (fp ++ Oc)) H xs vs fp → Evo fs0 H0 (fs ++ fp) H →
    SimSAt K mg W γ Oc H0 fs0 (fun E => gNs is vs σ H E.nx) (setAll is xs r)
  | [], [], vs, fp, fs, r, σ, g, hv, ev => by
    obtain ⟨e1, e2⟩ := hv
    subst e1 e2
    exact fun E q => ⟨rfl, q _ _ ⟨fs, g, by simpa using ev⟩⟩
  | [], _ :: _, vs, fp, fs, r, σ, g, hv, ev => fun E => trivial
  | _ :: _, [], vs, fp, fs, r, σ, g, hv, ev => fun E => trivial
  | i :: is, x :: xs, vs, fp, fs, r, σ, g, hv, ev => by
    obtain ⟨v, ws, f1, f2, e1, e2, h1, h2⟩ := hv
    subst e1 e2
    refine SimSAt.imp (t := fun E => gNs is ws (σ.set i (some v)) H E.nx) ?_ fun E q => ⟨v, ws, rfl, q⟩
    refine sim_set2 (k := fun σ' E => gNs is ws σ' H E.nx) g h1 ev fun fs2 g2 sub ev2 => ?_
    refine sim_setAll is xs ws f2 fs2 _ _ g2 (h2.mono g.ow fun a z => ?_) ev2
    simp only [List.mem_append] at z ⊢
    rcases z with z | z | z
    · rcases List.mem_append.mp (sub a z) with z | z <;> simp [z]
    · simp [z]
    · simp [z]
section
variable {X : Cx} {W : WX} {es tgs : List Expr} {tl : TA} {FS : S → Res (List SV)} {is : List Nat} {k1 k2 n : Nat} {p1 p2 pos : Pos}
theorem sim_parN {K : PySem.W.Frag} {mg : Str → Option Value} (hn : is.length = n) (h10 : n ≤ 100) (h : Sim K mg W (POL K) tl FS) : SimS K mg W (tAsg (tTup tl) (gTup K n (gNs is))) (sParN is FS) := by
  intro γ Oc r σ H fs g
  refine SimSAt.imp (SimSAt.bindE (t2 := fun (vs : List V) (H1 : Hp) (E : Ends) => vs.length ≤ sizeLine ∧ ∀ p, H1 p = none → gTup K n (gNs is) (.ref p) σ (upd H1 p (.tup vs)) E.nx) (h γ Oc r σ H fs g) fun xs r1 vs H1 ⟨fs1, fp, g1, v1, s1, n1⟩ => ?_) fun E h => h
  split
  · rename_i hl
    have hvl := v1.len
    refine SimSAt.mk fun E hE => ⟨by rw [hvl, hl, hn]; exact Nat.le_trans h10 (by decide), fun p hp => ⟨p, vs, rfl, .inl (.inl upd_same), by rw [hvl, hl, hn], ?_⟩⟩
    have kp := upd_kept (o := .tup vs) hp
    have g2 : Good K γ (fp ++ Oc) r1 σ (upd H1 p (.tup vs)) fs1 := g1.kept kp
    have v2 : SVRs K γ (fs1 ++ (fp ++ Oc)) (upd H1 p (.tup vs)) xs vs fp := v1.stab g1.ow (Stab.weak (fun _ z => z) kp) fun a z => by
      obtain ⟨o, ho, _⟩ := g1.ow a (by simp [z])
      rw [kp a o ho, ho]
    exact (sim_setAll (mg := mg) (W := W) is xs vs fp fs1 r1 σ g2 v2 ((s1.evo2 n1).trans (Evo.kept kp))).use hE
  · exact fun E => trivial
theorem sx_pN (hc : X.calm = true) (h : OAX X W es tl FS) (hg : PGs X tgs (gNs is)) (hn : is.length = n := by rfl) (h10 : n ≤ 100 := by decide) (hl : (assignEach tgs X.env).length = n := by rfl) (hst : (assignEach tgs X.env).findIdx? (·.1) = none := by rfl)
    (hs : swapsWithSole [.Tuple tgs k1 p1] (.Tuple es k2 p2) pos.line X.env = pure false := by rfl) (hw : swappedStores [.Tuple tgs k1 p1] (.Tuple es k2 p2) X.env = pure none := by rfl)
    (ha : (assignEach [.Tuple tgs k1 p1] X.env).map (·.2) = [assign (.Tuple tgs k1 p1) X.env] := by rfl) :
    SX X W (.Assign [.Tuple tgs k1 p1] (.Tuple es k2 p2) pos) (tAsg (tTup tl) (gTup X.K n (gNs is))) (sParN is FS) := ⟨ps_asg (pe_tup h.pe) (pg_tup hc hg hl hst) hs hw ha, sim_parN hn h10 h.sim⟩
end
/-- the parts of law's body -/
def lawRest : List Stmt → List Stmt
  | .For _ _ (_ :: r) _ _ :: _ => r
  | _ => []
def lawLast : List Stmt → Expr
  | [_, .Return (some e) _] => e
  | _ => .Constant .none 0 ⟨0, 0, 0, 0⟩
/-- a def by its mirror, the mirror's name given -/
theorem fgF {P : Program} {w : World} {K : PySem.W.Frag} {mg : Str → Option Value} {base : Heap} {k n m : Nat} {f : Addr} {fd : FuncData} {ps N : List Str} {qual x : Str} {st : Stmt} {B : S → RS} {FF : List D → FR} (Fu : Fun K x qual st f fd) (Sc : FnScope N ps (defScope st)) (hF : FF = bodyF m B) (hm : N.length = m) (hn : ps.length = n)
    (hb : ∀ (cdv : Value) (A : Around) (out : List Env) (s : Shared) (H : Hp) (E : XK), A.guards = some [] → Room k (A.deeper (PyProof.Rows.envOfC qual (defScope st) s.heap.objs.size f cdv)) → Takes (cxOf (L2.CX P w) P w K mg base N qual (defScope st) f cdv A out s H E) (fun c d _ H' => E c d H') →
      ∃ t, SSX (cxOf (L2.CX P w) P w K mg base N qual (defScope st) f cdv A out s H E) (fun c d _ H' => E c d H') (defBody st) t B) : FnG P w K mg base (k + 1) f fd ps (spF K mg n FF) := by
  subst hF hm
  exact fg_body Fu Sc hn fun cdv A out s H E hG hr => hb cdv A out s H E hG hr (takes_of rfl rfl rfl rfl)
theorem fgT {P : Program} {w : World} {K : PySem.W.Frag} {mg : Str → Option Value} {base : Heap} {k n m : Nat} {f : Addr} {fd : FuncData} {ps N : List Str} {qual x : Str} {st : Stmt} {B : S → RS} {FF : Int × Int → List D → FR} (Fu : Fun K x qual st f fd) (Sc : FnScope N ps (defScope st)) (hF : FF = bodyT m B) (hm : N.length = m) (hn : ps.length = n + 1)
    (hb : ∀ (cdv : Value) (A : Around) (out : List Env) (s : Shared) (H : Hp) (E : XK), A.guards = some [] → Room k (A.deeper (PyProof.Rows.envOfC qual (defScope st) s.heap.objs.size f cdv)) → Takes (cxOf (L2.CX P w) P w K mg base N qual (defScope st) f cdv A out s H E) (fun c d _ H' => E c d H') →
      ∃ t, SSX (cxOf (L2.CX P w) P w K mg base N qual (defScope st) f cdv A out s H E) (fun c d _ H' => E c d H') (defBody st) t B) : FnG P w K mg base (k + 1) f fd ps (spT K mg n FF) := by
  subst hF hm
  exact fg_bodyT Fu Sc hn fun cdv A out s H E hG hr => hb cdv A out s H E hG hr (takes_of rfl rfl rfl rfl)
abbrev hLt : R2 := rOrd (fun i j => decide (i < j)) (fun x y => decide (x < y))
end QL
namespace QL
open PySem PySem.Spec L2
def ItZ (K : PySem.W.Frag) (c d : Sr) : It :=
  ⟨fun i H => ∃ xs ys, SrAt K H c xs ∧ SrAt K H d ys ∧ i < xs.length ∧ i < ys.length,
    fun i H v H' => ∃ T x y, v = .ref T ∧ H T = none ∧ H' = upd H T (.tup [x, y]) ∧ (∀ xs, SrAt K H c xs → xs[i]? = some x) ∧ ∀ ys, SrAt K H d ys → ys[i]? = some y,
    fun i H => ∃ xs ys, SrAt K H c xs ∧ SrAt K H d ys ∧ min xs.length ys.length = i⟩
theorem Sr.addr_lt {X : Cx} {pins : List (Addr × Obj)} {σ : St} {H : Hp} {s : Shared} {c : Sr} {xs : List V} (I : Inv X pins σ H s) (h : SrAt X.K H c xs) : ∀ b ∈ c.addr, b < s.heap.objs.size := by
  cases c with
  | l a =>
    obtain ⟨its, rv, p, hz⟩ := I.list h
    intro b hb
    rw [List.mem_singleton.mp hb]
    exact p.lt
  | t a =>
    obtain ⟨its, rv, p, hz⟩ := I.tuple h
    obtain ⟨o, e, _⟩ := id p
    intro b hb
    rw [List.mem_singleton.mp hb]
    exact Heap.lt_size e
  | s x => exact fun b hb => nomatch hb
theorem turn_zipS {P : Program} {w : World} {K : PySem.W.Frag} {elts : List Expr} {kk : Nat} {tpos : Pos} {c d : Sr} {z TI TO i1 i2 : Addr} (S : ZipSep2 z TI TO i1 i2 (i1 :: c.addr) (i2 :: d.addr)) (n1 : i1 ∉ c.addr) (n2 : i2 ∉ d.addr) :
    Turn P w K (.Tuple elts kk tpos) (ItZ K c d) [z, TI, TO, i1, i2] z (fun i h => IsZip h z TI TO .none ∧ IsTupOf2 h TI (.ref i1) (.ref i2) ∧ (∃ a1 a2, IsTupOf2 h TO a1 a2) ∧ SrIt c i1 i h ∧ SrIt d i2 i h) where
  mem := by simp
  obj := fun i h st b hb => by
    obtain ⟨hz, hTI, ⟨x, y, hTO⟩, h1, h2⟩ := st
    have e' : b = z ∨ b = TI ∨ b = TO ∨ b = i1 ∨ b = i2 := by simpa using hb
    rcases e' with q | q | q | q | q
    · rw [q]; exact ⟨_, hz, fun v q => nomatch q⟩
    · rw [q]; exact ⟨_, hTI, fun v q => nomatch q⟩
    · rw [q]; exact ⟨_, hTO, fun v q => nomatch q⟩
    · rw [q]; exact h1.lives
    · rw [q]; exact h2.lives
  keep := fun i h h' st k => by
    obtain ⟨hz, hTI, ⟨x, y, hTO⟩, h1, h2⟩ := st
    exact ⟨k z (by simp) _ hz, k TI (by simp) _ hTI, ⟨x, y, k TO (by simp) _ hTO⟩, h1.keep fun o q => k i1 (by simp) o q, h2.keep fun o q => k i2 (by simp) o q⟩
  item := by
    intro X hP hw hK hc i pins s σ H E I hf st hg
    subst hP hw hK
    obtain ⟨xs, ys, hax, hay, hi1, hi2⟩ := hg
    obtain ⟨hz, hTI, hTO, h1, h2⟩ := st
    obtain ⟨P1, T1, D1, T10, T1it, hv1⟩ := src_draws I (I.ok.hd hc) hax h1 n1
    obtain ⟨P2, T2, D2, T20, T2it, hv2⟩ := src_draws I (I.ok.hd hc) hay h2 n2
    have G := GoesN.zip2 (elts := elts) (x1 := kk) (pos := tpos) S D1 D2
    have hlt : ∀ b ∈ [z, TI, TO, i1, i2], b < s.heap.objs.size := fun b hb => by
      obtain ⟨x, y, hTO⟩ := hTO
      have e' : b = z ∨ b = TI ∨ b = TO ∨ b = i1 ∨ b = i2 := by simpa using hb
      rcases e' with q | q | q | q | q
      · rw [q]; exact Heap.lt_size hz
      · rw [q]; exact Heap.lt_size hTI
      · rw [q]; exact Heap.lt_size hTO
      · rw [q]; obtain ⟨o, e, _⟩ := h1.lives; exact Heap.lt_size e
      · rw [q]; obtain ⟨o, e, _⟩ := h2.lives; exact Heap.lt_size e
    refine G.goes i s _ E (by omega) ⟨hz, hTI, hTO, T10, T20⟩ fun v h' tk hY st' hk _ => ?_
    obtain ⟨T, x, y, ev, hT, hx, hy, htup⟩ := hY
    subst ev
    obtain ⟨u, hu, ru⟩ := hv1 x hx
    obtain ⟨v, hv, rv⟩ := hv2 y hy
    have new : ObjOk X.prog X.w (upd H T (.tup [u, v])) h' T (.tup [u, v]) :=
      ⟨by show 2 ≤ sizeLine; decide, [x, y], .cons ru (.cons rv .nil), htup⟩
    have hk2 : ∀ b o, b ∉ [z, TI, TO, i1, i2] → s.heap.get? b = some o → h'.get? b = some o := fun b o hb e => hk b o (fun q => hb (by
      simp only [List.mem_cons, List.mem_nil_iff, or_false] at q ⊢
      rcases q with q | q | q | q
      · exact .inl q
      · exact .inr (.inr (.inl q))
      · exact .inr (.inr (.inr (.inl q)))
      · exact .inr (.inr (.inr (.inr q))))) e
    refine ⟨.ref T, _, I.turnedNew (t' := tk) (ch := [z, TI, TO, i1, i2]) hk2 hf hT new, rfl, ⟨T, u, v, rfl, I.hok.fresh hT, rfl, fun l hl => by rw [← SrAt.uniq I hax hl]; exact hu, fun l hl => by rw [← SrAt.uniq I hay hl]; exact hv⟩, ⟨st'.1, st'.2.1, st'.2.2.1, T1it _ _ st'.2.2.2.1, T2it _ _ st'.2.2.2.2⟩, fun b hb => ?_⟩
    rw [upd_ne (Nat.ne_of_lt (Nat.lt_of_lt_of_le (hlt b hb) hT))]
    exact (hf b hb).1
  done := by
    intro X hP hw hK hc i pins s σ H E I hf st hg
    subst hP hw hK
    obtain ⟨xs, ys, hax, hay, hi⟩ := hg
    subst hi
    obtain ⟨hz, hTI, hTO, h1, h2⟩ := st
    obtain ⟨P1, T1, D1, T10, T1it, hv1⟩ := src_draws I (I.ok.hd hc) hax h1 n1
    obtain ⟨P2, T2, D2, T20, T2it, hv2⟩ := src_draws I (I.ok.hd hc) hay h2 n2
    have G := GoesN.zip2 (elts := elts) (x1 := kk) (pos := tpos) S D1 D2
    refine G.stops s _ E ⟨hz, hTI, hTO, T10, T20⟩ fun h' tk hk _ => ?_
    refine I.turnedL (t' := tk) (ch := [z, TI, TO, i1, i2]) (fun b o hb e => hk b o (fun q => hb (by
      simp only [List.mem_cons, List.mem_nil_iff, or_false] at q ⊢
      rcases q with q | q | q | q
      · exact .inl q
      · exact .inr (.inr (.inl q))
      · exact .inr (.inr (.inr (.inl q)))
      · exact .inr (.inr (.inr (.inr q))))) e) hf
  self := fun A i s Q E st h => wpAny_pyIter_zip st.1 h
def SrIs (v : V) : Sr → Prop
  | .l a => v = .ref a
  | .t a => v = .ref a
  | .s x => v = .str x
/-- what iter makes of a source -/
theorem src_begins {X : Cx} {pins : List (Addr × Obj)} {σ : St} {H : Hp} {s : Shared} {c : Sr} {xs : List V} {v : V} {u : Value} (I : Inv X pins σ H s) (h : SrAt X.K H c xs) (hv : SrIs v c) (r : RelV v u) :
    ∃ (o : Obj) (Hy : Heap → Prop), Begins u o Hy ∧ Hy s.heap ∧ ∀ h' it, h'.get? it = some o → SrIt c it 0 h' := by
  cases c with
  | l a =>
    have hv : v = .ref a := hv
    subst hv
    cases r
    obtain ⟨its, rv, p, hz⟩ := I.list h
    exact ⟨_, _, begins_list a its.toArray, p.isList, fun h' it e => ⟨_, e, rfl, rfl⟩⟩
  | t a =>
    have hv : v = .ref a := hv
    subst hv
    cases r
    obtain ⟨its, rv, p, hz⟩ := I.tuple h
    exact ⟨_, _, begins_tuple a its.toArray, p, fun h' it e => ⟨_, e, rfl, rfl⟩⟩
  | s x =>
    have hv : v = .str x := hv
    subst hv
    obtain ⟨t, rfl⟩ := r
    exact ⟨_, _, begins_text x t, trivial, fun h' it e => ⟨t, _, e, rfl, rfl⟩⟩
section
variable {X : Cx} {e e2 e3 : Expr} {te : TE} {tl : TA} {p pos tpos : Pos} {elts : List Expr} {kk : Nat}
/-- a value as a source -/
def SrV (K : PySem.W.Frag) (H : Hp) (v : V) (c : Sr) : Prop := SrIs v c ∧ ∃ xs, SrAt K H c xs
/-- zip of two -/
def iZipS (K : PySem.W.Frag) (ta : TA) : TI := fun σ H R => ta σ H fun vs H1 => ∃ v1 v2 c d, vs = [v1, v2] ∧ SrV K H1 v1 c ∧ SrV K H1 v2 d ∧ R (ItZ K c d) H1
theorem pi_zipS (hg : Gl X "zip") (hm : X.mg "zip" = none) (ha : PA X [e, e2] tl) (hs : starEach [e, e2] X.env = (false, eval e X.env) :: starEach [e2] X.env := by rfl) (hpl : (backTo pos (starEach [e2] X.env)).any (·.1) = false := by rfl) :
    PI X (.Tuple elts kk tpos) (.Call (.Name "zip" p) [e, e2] [] pos) (iZipS X.K tl) := by
  refine ⟨fun pins s σ H R I h => ?_⟩
  refine PyProof.Rows.Call_ (ld_blt I hg hm PyProof.Rows.boot_zip (PyProof.Rows.callWith_type1 (thn (ha.run pos pins s σ H _ I h) fun us s1 ⟨vs, H1, I1, rv, q1⟩ => ?_) hs hpl))
  obtain ⟨v1, v2, c, d, ev, ⟨w1, xs, ax⟩, ⟨w2, ys, ay⟩, q⟩ := q1
  subst ev
  cases rv with
  | cons r1 rr =>
    cases rr with
    | cons r2 rr =>
      cases rr
      obtain ⟨o1, Y1, B1, y1, f1⟩ := src_begins I1 ax w1 r1
      obtain ⟨o2, Y2, B2, y2, f2⟩ := src_begins I1 ay w2 r2
      have l1 := Sr.addr_lt I1 ax
      have l2 := Sr.addr_lt I1 ay
      have fp2 : ∀ b, b ∈ [s1.heap.objs.size + 4, s1.heap.objs.size + 2, s1.heap.objs.size + 3, s1.heap.objs.size, s1.heap.objs.size + 1] → FpOk X pins H1 b := fun b hb => by
        have hle : s1.heap.objs.size ≤ b := by
          simp only [List.mem_cons, List.mem_nil_iff, or_false] at hb
          rcases hb with q | q | q | q | q
          · rw [q]; exact Nat.le_add_right _ _
          · rw [q]; exact Nat.le_add_right _ _
          · rw [q]; exact Nat.le_add_right _ _
          · rw [q]; exact Nat.le_refl _
          · rw [q]; exact Nat.le_add_right _ _
        exact I1.fpOk hle (I1.hok.fresh hle)
      refine zip_begins2 B1 B2 y1 y2 fun h' hz hTI hTO g1 g2 hsz hk => wpAny_pyIter_zip hz ?_
      exact ⟨s1.heap.objs.size + 4, [s1.heap.objs.size + 4, s1.heap.objs.size + 2, s1.heap.objs.size + 3, s1.heap.objs.size, s1.heap.objs.size + 1], _, _, H1, rfl, I1.kept (t' := s1.toks) hk,
        turn_zipS (zip_sep2 l1 l2) (fun z => absurd (l1 _ z) (Nat.lt_irrefl _)) (fun z => absurd (l2 _ z) (Nat.not_lt.mpr (Nat.le_succ _))), ⟨hz, hTI, ⟨_, _, hTO⟩, f1 _ _ g1, f2 _ _ g2⟩, fp2, q⟩
end
def zipL (ds es : List D) : List D := List.zipWith (fun d e => .tuple [d, e]) ds es
def fZip (FL : S → Res (List D)) : S → Res (List D) := fun r => (FL r).bind fun ds r => match ds with
  | [x, y] => match itemsD x, itemsD y with
    | some ds, some es => Res.ok (zipL ds es) r
    | _, _ => Res.bad
  | _ => Res.bad
theorem zipL_len (ds es : List D) : (zipL ds es).length = min ds.length es.length := by simp [zipL]
theorem zipL_get {ds es : List D} {i : Nat} {x : D} (h : (zipL ds es)[i]? = some x) : ∃ d e, ds[i]? = some d ∧ es[i]? = some e ∧ x = .tuple [d, e] := by
  unfold zipL at h
  rw [List.getElem?_zipWith] at h
  cases e1 : ds[i]? with
  | none => rw [e1] at h; cases h
  | some d =>
    cases e2 : es[i]? with
    | none => rw [e1, e2] at h; cases h
    | some e => rw [e1, e2] at h; cases h; exact ⟨d, e, rfl, rfl, rfl⟩
theorem ylds_zip {K : PySem.W.Frag} {O : List Addr} {H : Hp} {c d : Sr} {ds es : List D} (ow : Own O H) (h : SrD K O H c ds) (h2 : SrD K O H d es) : Ylds K O H (ItZ K c d) (zipL ds es) := by
  intro O' H' ow' st i
  have h' := h.stab ow st
  have h2' := h2.stab ow st
  obtain ⟨vs, ha, rs⟩ := h'.at
  obtain ⟨ws, hb, rt⟩ := h2'.at
  rw [zipL_len]
  refine ⟨fun hi => ⟨⟨vs, ws, ha, hb, by rw [rs.len]; omega, by rw [rt.len]; omega⟩, fun x H2 ⟨T, y, z, ex, hT, eH, hy, hz⟩ => ?_⟩, fun hi => ⟨vs, ws, ha, hb, by rw [rs.len, rt.len, hi]⟩⟩
  subst ex eH
  refine ⟨upd_kept hT, fun q hq => ?_⟩
  obtain ⟨d', e', hd', he', ed⟩ := zipL_get hq
  subst ed
  obtain ⟨u, hu, ru⟩ := rs.get hd'
  obtain ⟨v, hv, rv⟩ := rt.get he'
  have q1 := hy vs ha
  have q2 := hz ws hb
  rw [hu] at q1
  rw [hv] at q2
  obtain rfl : u = y := Option.some.inj q1
  obtain rfl : v = z := Option.some.inj q2
  have st2 : Stab O' H' O' (upd H' T (.tup [u, v])) := Stab.weak (fun _ z => z) (upd_kept hT)
  simp only [R]
  refine ⟨T, _, rfl, upd_same, ?_⟩
  simp only [Rs]
  exact ⟨_, _, rfl, R.stab ow' st2 _ _ ru, _, _, rfl, R.stab ow' st2 _ _ rv, rfl⟩
section
variable {X : Cx} {W : WX} {e e2 e3 : Expr} {te : TE} {tl : TA} {FL : S → Res (List D)} {p pos tpos : Pos} {elts : List Expr} {kk : Nat}
theorem srV_of {K : PySem.W.Frag} {O : List Addr} {H : Hp} {d : D} {ds : List D} {v : V} (h : R K O H d v) (e : itemsD d = some ds) : ∃ c, SrV K H v c ∧ SrD K O H c ds := by
  rcases srD_of h e with ⟨a, ev, q, _⟩ | ⟨a, ev, q, _⟩ | ⟨x, ev, q, _⟩
  · obtain ⟨vs, q1, _⟩ := q.at
    exact ⟨.l a, ⟨ev, vs, q1⟩, q⟩
  · obtain ⟨vs, q1, _⟩ := q.at
    exact ⟨.t a, ⟨ev, vs, q1⟩, q⟩
  · obtain ⟨vs, q1, _⟩ := q.at
    exact ⟨.s x, ⟨ev, vs, q1⟩, q⟩
theorem sim_zip {K : PySem.W.Frag} {mg : Str → Option Value} (h : Sim K mg W (PL K) tl FL) : Sim K mg W (PIt K) (iZipS K tl) (fZip FL) := by
  intro γ Oc r σ H fs g
  refine SimAt.bind (t2 := fun (vs : List V) (H1 : Hp) (R : It → Hp → Prop) => ∃ v1 v2 c d, vs = [v1, v2] ∧ SrV K H1 v1 c ∧ SrV K H1 v2 d ∧ R (ItZ K c d) H1) (h γ Oc r σ H fs g) fun ds r1 vs H1 pp => ?_
  split
  · split
    · rename_i x y xs ys ex ey
      obtain ⟨fs1, g1, v1, s1⟩ := pp
      simp only [Rs] at v1
      obtain ⟨v, ws, e1, r1, v', ws', e2, r2, e3⟩ := v1
      subst e1 e2 e3
      obtain ⟨c, c1, c2⟩ := srV_of r1 ex
      obtain ⟨d, d1, d2⟩ := srV_of r2 ey
      exact fun Q hq => ⟨_, _, c, d, rfl, c1, d1, hq _ _ ⟨fs1, g1, ylds_zip g1.ow c2 d2, s1⟩⟩
    · exact fun Q => trivial
  · exact fun Q => trivial
theorem ix_zip (hg : Gl X "zip") (hm : X.mg "zip" = none) (ha : AX X W [e, e2] tl FL) (hs : starEach [e, e2] X.env = (false, eval e X.env) :: starEach [e2] X.env := by rfl) (hpl : (backTo pos (starEach [e2] X.env)).any (·.1) = false := by rfl) : IX X W (.Tuple elts kk tpos) (.Call (.Name "zip" p) [e, e2] [] pos) (iZipS X.K tl) (fZip FL) := ⟨pi_zipS hg hm ha.pe hs hpl, sim_zip ha.sim⟩
end
end QL
namespace QS
open PySem PySem.Spec PyProof.Rows L2
abbrev kT (P : Program) (w : World) := PySem.strKind P w
def tkOf (e : Int × Value) : Str := match e.2 with
  | .str k _ => k
  | _ => Str.empty
def OkE (P : Program) (w : World) (e : Int × Value) : Prop := ∃ z u, e.2 = Value.str z u ∧ e.1 = (kT P w).hash z
/-- the set at b has the texts of zs -/
def SetS (P : Program) (w : World) (h : Heap) (b : Addr) (zs : List Str) : Prop :=
  ∃ ob ents ep tab, h.get? b = some ob ∧ ob.ExactSet ∧ ob.data = .set ents ep tab ∧ (∀ e ∈ ents.toList, OkE P w e) ∧ (ents.toList.map tkOf).Perm zs ∧ zs.Nodup ∧
    ents.size < scanBound ∧ tab.fits ents.size = true ∧ Ris tab.place.toList ∧ (w.params.followText "set-order" = true ∨ tab.led = true)
section
variable {P : Program} {w : World} {h h' : Heap} {b : Addr} {zs : List Str}
theorem SetS.keep (G : SetS P w h b zs) (k : ∀ o, h.get? b = some o → h'.get? b = some o) : SetS P w h' b zs := by
  obtain ⟨ob, ents, ep, tab, g1, gs⟩ := G
  exact ⟨ob, ents, ep, tab, k ob g1, gs⟩
theorem OkE.elems {l : List (Int × Value)} (g : ∀ e ∈ l, OkE P w e) : ElemsOf (kT P w) l := fun e he => by
  obtain ⟨z, u, q1, q2⟩ := g e he
  exact ⟨⟨z, by rw [q1]; exact strKind_is P w z u, q2⟩, by rw [q1] <;> rfl⟩
theorem OkE.is {e : Int × Value} (g : OkE P w e) (z : Str) : (kT P w).is z e.2 = true ↔ tkOf e = z := by
  obtain ⟨z0, u, q1, _⟩ := g
  unfold tkOf
  rw [q1]
  constructor
  · intro q
    obtain ⟨u', q2⟩ := Value.isStrOf_shape (show Value.isStrOf z (.str z0 u) = true from q)
    cases q2; rfl
  · intro q
    subst q
    exact strKind_is P w _ u
theorem OkE.mem {l : List (Int × Value)} (g : ∀ e ∈ l, OkE P w e) (z : Str) : z ∈ l.map tkOf ↔ ∃ e ∈ l, (kT P w).is z e.2 = true := by
  constructor
  · intro q
    obtain ⟨e, he, q⟩ := List.mem_map.mp q
    exact ⟨e, he, ((g e he).is z).2 q⟩
  · rintro ⟨e, he, q⟩
    exact List.mem_map.mpr ⟨e, he, ((g e he).is z).1 q⟩
end
section
variable {P : Program} {w : World} {A : Around} {E : Value → Shared → Prop} {s : Shared} {b : Addr} {zs : List Str}
theorem add_rest {gv : Bool → Sem Unit} (hgv : ∀ (c : Bool) (s₁ : Shared) (Q1 : Unit → Shared → Prop), Q1 () s₁ → wpAny (model P w) A (gv c) Q1 E s₁)
    {ob : Obj} {ents : Array (Int × Value)} {ep : Nat} {tab : SetTable} (h1 : s.heap.get? b = some ob) (h2 : ob.ExactSet) (h3 : ob.data = .set ents ep tab)
    {en1 : Array (Int × Value)} {tb2 : SetTable} {zs1 : List Str} (g1 : ∀ e ∈ en1.toList, OkE P w e) (pm1 : (en1.toList.map tkOf).Perm zs1) (nd1 : zs1.Nodup)
    (b1 : en1.size < scanBound) (f2 : tb2.fits en1.size = true) (r2 : Ris tb2.place.toList) (l2 : w.params.followText "set-order" = true ∨ tb2.led = true) {dum : Bool} {Z : Option Bool → Shared → Prop}
    (hZ : ∀ h', Heap.SameBut b s.heap h' → SetS P w h' b zs1 → Z (some true) { s with heap := h' }) :
    wpAny (model P w) A (do
        storeSet b en1 tb2
        if (!dum && tb2.tooFull) = true then do
            gv (relayAll tb2 en1 (SetTable.grown en1.size)).2.2
            storeSet b (relayAll tb2 en1 (SetTable.grown en1.size)).1 (relayAll tb2 en1 (SetTable.grown en1.size)).2.1
            pure (some true)
          else pure (some true)) Z E s := by
  refine wpAny_bind (wpAny_storeSet_of h1 h3 ?_ (fits_of_scanBound b1))
  have k1 := store_at (es' := en1) (t' := tb2) h1 h3
  have s1 := Heap.SameBut.update s.heap b (Obj.putSet en1 tb2)
  split
  · have pm := relayAll_perm tb2 en1 (SetTable.grown en1.size)
    have f3 := relayAll_fits tb2 en1 (SetTable.grown en1.size)
    have r3 := relayAll_ris tb2 en1 (SetTable.grown en1.size)
    have l3 := relayAll_led tb2 en1 (SetTable.grown en1.size)
    generalize relayAll tb2 en1 (SetTable.grown en1.size) = W at pm f3 r3 l3 ⊢
    obtain ⟨en2, tb3, gave⟩ := W
    dsimp only at pm f3 r3 l3 ⊢
    have sz : en2.size = en1.size := by
      have := pm.length_eq
      simpa using this
    have b2 : en2.size < scanBound := by omega
    refine wpAny_bind (hgv _ _ _ ?_)
    refine wpAny_bind (wpAny_storeSet_of k1 rfl ?_ (fits_of_scanBound b2))
    have k2 := store_at (es' := en2) (t' := tb3) k1 rfl
    refine wpAny_pure (hZ _ (s1.trans (Heap.SameBut.update _ b _)) ?_)
    refine ⟨_, en2, _, tb3, k2, h2, rfl, fun e he => g1 e (pm.mem_iff.mp he), (pm.map tkOf).trans pm1, nd1, b2, f3, r3, ?_⟩
    rcases l2 with z | z
    · exact .inl z
    · exact .inr (l3.trans z)
  · exact wpAny_pure (hZ _ s1 ⟨_, en1, _, tb2, k1, h2, rfl, g1, pm1, nd1, b1, f2, r2, l2⟩)
/-- one more -/
def addS (zs : List Str) (z : Str) : List Str := if z ∈ zs then zs else z :: zs
theorem addS_nodup {zs : List Str} (h : zs.Nodup) (z : Str) : (addS zs z).Nodup := by
  unfold addS
  split
  · exact h
  · rename_i q
    exact List.nodup_cons.mpr ⟨q, h⟩
theorem add_hashed {z : Str} {u : Tok} {Q : Bool → Shared → Prop} (G : SetS P w s.heap b zs) (room : zs.length + 1 < scanBound)
    (hQ : ∀ c h', Heap.SameBut b s.heap h' → SetS P w h' b (addS zs z) → Q c { s with heap := h' }) :
    wpAny (model P w) A (setAddHashed b (.str z u) ((kT P w).hash z)) Q E s := by
  obtain ⟨ob, ents, ep, tab, h1, h2, h3, g, pm0, nd, bd, ft, rs, ld⟩ := G
  have key : (kT P w).is z (.str z u) = true := strKind_is P w z u
  have scn : (Value.str z u).scannable = true := rfl
  have els : ElemsOf (kT P w) ents.toList := OkE.elems g
  unfold setAddHashed setAddHashedIn
  refine wpAny_holding (wpAny_bind (wpAny_setState_of h1 h3 ft ?_))
  dsimp only
  rw [byScan_of scn bd els]
  simp only [↓reduceIte]
  unfold setAddByScan
  refine wpAny_bind ?_
  refine wpAny_bind (wpAny_rule ?_)
  refine wpAny_bind (wpAny_setScan_of key h1 h3 ft els ?_)
  cases fi : List.findIdx? (fun e => (kT P w).is z e.2) ents.toList with
  | some j =>
    dsimp only
    obtain ⟨hj, pj, _⟩ := List.findIdx?_eq_some_iff_getElem.mp fi
    have mz : z ∈ zs := pm0.mem_iff.mp ((OkE.mem g z).2 ⟨ents.toList[j], List.getElem_mem hj, pj⟩)
    refine wpAny_pure (wpAny_pure ?_)
    have ea : addS zs z = zs := by unfold addS; rw [if_pos mz]
    exact hQ _ s.heap (Heap.SameBut.refl b s.heap) (by rw [ea]; exact ⟨ob, ents, ep, tab, h1, h2, h3, g, pm0, nd, bd, ft, rs, ld⟩)
  | none =>
    dsimp only
    have nz : z ∉ ents.toList.map tkOf := fun q => by
      obtain ⟨e, he, q⟩ := (OkE.mem g z).1 q
      have c := List.findIdx?_eq_none_iff.mp fi e he
      rw [q] at c
      cases c
    have mz : z ∉ zs := fun q => nz (pm0.mem_iff.mpr q)
    have gw : ∀ (c : Bool) {s₁ : Shared} {Q' : Unit → Shared → Prop}, Q' () s₁ → wpAny (model P w) A (match c with | true => rule "set.scan.the-table-gave-way" | false => pure ()) Q' E s₁ :=
      fun c s₁ Q' q => by cases c <;> first | exact wpAny_pure q | exact wpAny_rule q
    have pm := layNew_perm tab ents ((kT P w).hash z) (.str z u)
    have f1 := layNew_fits tab ents ((kT P w).hash z) (.str z u)
    have r1 := layNew_ris tab ents ((kT P w).hash z) (.str z u) rs
    have l1 := layNew_led tab ents ((kT P w).hash z) (.str z u)
    generalize layNew tab ents ((kT P w).hash z) (.str z u) = W at pm f1 r1 l1 ⊢
    obtain ⟨en1, tb1, dum, gave⟩ := W
    dsimp only at pm f1 r1 l1 ⊢
    rw [Array.toList_push] at pm
    have pc : en1.toList.Perm (((kT P w).hash z, Value.str z u) :: ents.toList) := pm.trans (List.perm_append_singleton _ _)
    have ea : addS zs z = z :: zs := by unfold addS; rw [if_neg mz]
    have pk : (en1.toList.map tkOf).Perm (addS zs z) := by
      rw [ea]
      exact (pc.map tkOf).trans (List.Perm.cons z pm0)
    have g1 : ∀ e ∈ en1.toList, OkE P w e := fun e he => by
      rcases List.mem_cons.mp (pc.mem_iff.mp he) with q | q
      · rw [q]; exact ⟨z, u, rfl, rfl⟩
      · exact g e q
    have sz : en1.size = zs.length + 1 := by
      have := pk.length_eq
      rw [ea] at this
      simpa using this
    have b1 : en1.size < scanBound := by rw [sz]; exact room
    have led1 : w.params.followText "set-order" = true ∨ tb1.led = true := by
      rcases ld with q | q
      · exact .inl q
      · exact .inr (l1.trans q)
    have nd1 := addS_nodup nd z
    refine wpAny_bind (gw _ ?_)
    split
    · refine wpAny_bind ?_
      rw [hashByValue_scannable 8 scn]
      refine wpAny_pure ?_
      refine add_rest ?_ h1 h2 h3 g1 pk nd1 b1 ?_ ?_ ?_ ?_
      · intro c s₁ Q' q; cases c <;> first | exact wpAny_pure q | exact wpAny_rule q
      · first | (split <;> first | exact f1 | exact SetTable.fits_plain_off f1) | exact f1
      · first | (split <;> exact r1) | exact r1
      · first | (split <;> exact led1) | exact led1
      · intro h' sb r; dsimp only; exact wpAny_pure (hQ _ h' sb r)
    · refine wpAny_bind (wpAny_pure ?_)
      simp only [↓reduceIte]
      refine add_rest ?_ h1 h2 h3 g1 pk nd1 b1 f1 r1 led1 ?_
      · intro c s₁ Q' q; cases c <;> first | exact wpAny_pure q | exact wpAny_rule q
      · intro h' sb r; dsimp only; exact wpAny_pure (hQ _ h' sb r)
/-- the texts met up to i -/
def metS (ys : List Str) : List Str := ys.foldl addS []
theorem metS_snoc (ys : List Str) (y : Str) : metS (ys ++ [y]) = addS (metS ys) y := by unfold metS; rw [List.foldl_append]; rfl
theorem metS_nodup (ys : List Str) : (metS ys).Nodup := by
  unfold metS
  suffices ∀ (ys acc : List Str), acc.Nodup → (ys.foldl addS acc).Nodup from this ys [] List.nodup_nil
  intro ys
  induction ys with
  | nil => exact fun acc h => h
  | cons y ys ih => exact fun acc h => ih _ (addS_nodup h y)
theorem metS_mem (ys : List Str) (z : Str) : z ∈ metS ys ↔ z ∈ ys := by
  unfold metS
  suffices ∀ (ys acc : List Str), z ∈ ys.foldl addS acc ↔ z ∈ acc ∨ z ∈ ys by simpa using this ys []
  intro ys
  induction ys with
  | nil => intro acc; simp
  | cons y ys ih =>
    intro acc
    rw [List.foldl_cons, ih, List.mem_cons]
    unfold addS
    split
    · rename_i q
      constructor
      · rintro (a | a)
        · exact .inl a
        · exact .inr (.inr a)
      · rintro (a | a | a)
        · exact .inl a
        · exact .inl (a ▸ q)
        · exact .inr a
    · rw [List.mem_cons]
      constructor
      · rintro ((a | a) | a)
        · exact .inr (.inl a)
        · exact .inl a
        · exact .inr (.inr a)
      · rintro (a | a | a)
        · exact .inl (.inr a)
        · exact .inl (.inl a)
        · exact .inr a
theorem metS_le (ys : List Str) (i : Nat) : (metS (ys.take i)).length ≤ (metS ys).length :=
  List.Nodup.length_le_of_subset (metS_nodup _) fun z hz => (metS_mem ys z).mpr (List.mem_of_mem_take ((metS_mem _ z).mp hz))
/-- the walk of set.update -/
theorem upd_loop {I : Addr} {fp wr : List Addr} {n : Nat} {Pv : Nat → Value → Prop} {St : Nat → Heap → Prop} {Z : Result → Shared → Prop}
    (W : Walks P w A.in1 I fp wr n Pv St) (S : Addr) (hS : S ∉ fp) (ys : List Str) (hn : ys.length = n) (hb : (metS ys).length + 1 < scanBound) (hv : ∀ i v, Pv i v → ∃ z u, ys[i]? = some z ∧ v = .str z u) :
    ∀ (k i : Nat) (s : Shared), n - i = k → i ≤ n → St i s.heap → SetS P w s.heap S (metS (ys.take i)) →
      (∀ h' tk, (∀ b o, b ≠ S → b ∉ wr → s.heap.get? b = some o → h'.get? b = some o) → SetS P w h' S (metS ys) → Z (.ok (.ret .none)) { s with heap := h', toks := tk }) →
      codeAny (model P w) A (.builtin "set.update.loop" ⟨[.ref S, .ref I], []⟩) Z s := by
  have hSw : S ∉ wr := fun q => hS (W.sub _ q)
  intro k
  induction k with
  | zero =>
    intro i s hk hi hst G hZ
    have e : i = n := by omega
    subst e
    refine codeAny_builtin F.entry_set_update_loop ?_
    rw [Around.under_plainId F.plain_set_update_loop _]
    show wpAny _ A.in1 (pyNext (.ref I) >>= _) _ _ s
    refine wpAny_bind (W.done s _ _ hst fun h' tk hm => ?_)
    show wpAny _ A.in1 (ret Value.none) _ _ _
    refine wpAny_pure (hZ h' tk (fun c o _ hc e => hm c o hc e) ?_)
    have et : ys.take i = ys := List.take_of_length_le (by omega)
    rw [et] at G
    exact G.keep fun o e => hm S o hSw e
  | succ k ih =>
    intro i s hk hi hst G hZ
    have hlt : i < n := by omega
    refine codeAny_builtin F.entry_set_update_loop ?_
    rw [Around.under_plainId F.plain_set_update_loop _]
    show wpAny _ A.in1 (pyNext (.ref I) >>= _) _ _ s
    refine wpAny_bind (W.item i s _ _ hlt hst fun v h1 tk hP hst1 hm => ?_)
    obtain ⟨z, u, hz, ev⟩ := hv i v hP
    subst ev
    have G1 : SetS P w h1 S (metS (ys.take i)) := G.keep fun o e => hm S o hSw e
    show wpAny _ A.in1 (holding [Value.str z u] (setAdd S (.str z u)) >>= _) _ _ _
    refine wpAny_bind (wpAny_holding ?_)
    unfold setAdd
    refine wpAny_holding ?_
    refine wpAny_bind ((kT P w).pyHash (k := z) (strKind_is _ _ _ _) ?_)
    refine add_hashed (s := { s with heap := h1, toks := tk + 1 }) G1 (by have := metS_le ys i; omega) fun c h2 hsb G2 => ?_
    have et : ys.take (i + 1) = ys.take i ++ [z] := by rw [List.take_add_one, hz]; rfl
    refine wpAny_pure ⟨plainId_quiet F.plain_set_update_loop _, ih (i + 1) _ (by omega) hlt (W.frame _ h1 _ hst1 fun b hb o e => ?_) (by rw [et, metS_snoc]; exact G2) fun h' tk' hm' G' => ?_⟩
    · exact (hsb.2 b (fun q : b = S => hS (by rw [← q]; exact hb))).trans e
    · exact hZ h' tk' (fun b o q1 q2 e => hm' b o q1 q2 ((hsb.2 b q1).trans (hm b o q2 e))) G'
/-- a new set -/
theorem new_set {h : Heap} {a : Addr} (ho : h.get? a = some { cls := .type "set", dict := none, data := .set #[] 0 (.fresh 0 0 (!w.params.followText "set-order")) }) : SetS P w h a [] :=
  ⟨_, #[], 0, _, ho, ⟨rfl, rfl, rfl⟩, rfl, (fun e he => by simp at he), (by simp), List.nodup_nil, (by decide), (by rfl), List.Pairwise.nil, by
    show _ ∨ (!w.params.followText "set-order") = true
    cases w.params.followText "set-order"
    · exact .inr rfl
    · exact .inl rfl⟩
set_option maxHeartbeats 3200000 in
/-- set(text) -/
theorem call_set_text {x : Str} {u : Tok} {Q : Value → Shared → Prop} (hh : A.handled = none) (hb : (metS (x.cps.toList.map fun c => (⟨#[c]⟩ : Str))).length + 1 < scanBound)
    (h : ∀ (h' : Heap) (tk : Nat), SetS P w h' s.heap.objs.size (metS (x.cps.toList.map fun c => (⟨#[c]⟩ : Str))) → (∀ b o, s.heap.get? b = some o → h'.get? b = some o) → Q (.ref s.heap.objs.size) { s with heap := h', toks := tk }) :
    wpAny (model P w) A (call (.type "set") [.str x u]) Q E s := by
  obtain ⟨c, tl, mro⟩ := F.called_set.mro
  have made := F.called_set.made
  have subs := F.called_set.sub
  refine wpAny_call (codeAny_of_tree ?_)
  show wpAny _ _ (callAny (.type "set") _) _ _ _
  refine wpAny_pure ⟨Code.quiet_builtin _ (by decide +kernel), codeAny_builtin F.entry_type_call ?_⟩
  rw [Around.under_plain (weight_type_call_type "set" [.str x u] []) rfl]
  have h1 := F.called_set.notType
  have h2 := F.called_set.canCreate
  have hct := F.typeCall_set_1 (.str x u)
  repeat (any_goals (first | assumption | wp_step))
  refine codeAny_mono (code_set_led1 (.str x u) (E := E) (Q₁ := fun ob s₁ => ob = .ref s.heap.objs.size ∧ s₁ = { s with heap := s.heap.push { cls := .type "set", dict := none, data := .set #[] 0 (.fresh 0 0 (!w.params.followText "set-order")) } }) ⟨rfl, rfl⟩) fun r s₁ hr => ?_
  cases r with
  | error e => exact hr
  | ok fl =>
    cases fl with
    | ret ob =>
      obtain ⟨rfl, rfl⟩ := hr
      have hS : (s.heap.push { cls := .type "set", dict := none, data := .set #[] 0 (.fresh 0 0 (!w.params.followText "set-order")) }).get? s.heap.objs.size = some { cls := .type "set", dict := none, data := .set #[] 0 (.fresh 0 0 (!w.params.followText "set-order")) } := Heap.get?_push_size _ rfl
      have hT : Shared.TypeIs { s with heap := s.heap.push { cls := .type "set", dict := none, data := .set #[] 0 (.fresh 0 0 (!w.params.followText "set-order")) } } (.ref s.heap.objs.size) "set" := ⟨_, hS, rfl⟩
      have hli := F.called_set.init.lookup
      have hbi := F.called_set.init.bind (.ref s.heap.objs.size)
      repeat (any_goals (first | assumption | wp_step))
      refine codeAny_mono (codeAny_call_builtin (R := wants (fun r s₂ => r = .none ∧ ∃ h' tk, s₂ = { s with heap := h', toks := tk } ∧ SetS P w h' s.heap.objs.size (metS (x.cps.toList.map fun c => (⟨#[c]⟩ : Str))) ∧
          (∀ b o, s.heap.get? b = some o → h'.get? b = some o)) E) F.called_set.init.plain F.entry_set_init (check_set_init_1 hT ?_)) fun r₂ s₂ hr₂ => ?_
      · have hne : (Value.type "str" == Value.type "dict") = false := by decide
        unfold Builtin.«set.__init__» noKeywords Builtin.Frozenset.updateFrom
        generalize hPI : pyIter = PI
        have qa : ∀ {A' : Around} {E' : Value → Shared → Prop} {Q' : Bool → Shared → Prop} {s' : Shared}, Q' false s' → wpAny (model P w) A' (Builtin.Frozenset.isAnySet (.str x u)) Q' E' s' := fun q => Fz.anySet q
        wp_walk using qa
        subst hPI
        refine wpAny_pyIter_str fun o St W h0 => ?_
        refine wpAny_bind (wpAny_runValue ?_)
        have hz1 : (s.heap.push { cls := .type "set", dict := none, data := .set #[] 0 (.fresh 0 0 (!w.params.followText "set-order")) }).objs.size = s.heap.objs.size + 1 := Heap.size_push ..
        have hSf : s.heap.objs.size ∉ [(s.heap.push { cls := .type "set", dict := none, data := .set #[] 0 (.fresh 0 0 (!w.params.followText "set-order")) }).objs.size] := by
          rw [hz1]; simp
        have none_of : ∀ b, s.heap.objs.size ≤ b → s.heap.get? b = none := fun b hb => by
          cases q : s.heap.get? b with
          | none => rfl
          | some o => exact absurd (Nat.lt_of_lt_of_le (Heap.lt_size q) hb) (Nat.lt_irrefl _)
        refine upd_loop (W _ (by simp [hh])) s.heap.objs.size hSf (x.cps.toList.map fun c => (⟨#[c]⟩ : Str)) (by simp) hb (fun i v hv => ?_) x.cps.size 0 _ (by omega) (Nat.zero_le _) h0 ?_ fun h' tk hm G' => ?_
        · obtain ⟨c, u', hc, ev⟩ := hv
          exact ⟨_, u', by rw [List.getElem?_map, Array.getElem?_toList, hc] <;> rfl, ev⟩
        · have := new_set (P := P) (w := w) hS
          exact this.keep fun o e => Heap.get?_push_of_some _ e
        · refine wpAny_pure ?_
          refine wpAny_pure ⟨rfl, h', tk, rfl, G', fun b o e => ?_⟩
          refine hm b o ?_ ?_ (Heap.get?_push_of_some _ (Heap.get?_push_of_some _ e))
          · intro q; rw [q, none_of _ (Nat.le_refl _)] at e; cases e
          · intro q; rw [List.mem_singleton.mp q, hz1, none_of _ (Nat.le_succ _)] at e; cases e
      · cases r₂ with
        | error e => exact hr₂
        | ok fl₂ =>
          cases fl₂ with
          | ret r =>
            obtain ⟨rfl, h', tk, rfl, hS', hk'⟩ := hr₂
            repeat (any_goals (first | assumption | wp_step))
            exact h _ _ hS' hk'
          | _ => exact hr₂.elim
    | _ => exact hr.elim
end
end QS
namespace QS
open PySem PySem.Spec PyProof.Rows L2
theorem strs_of : ∀ vs : List Value, (∀ v ∈ vs, ∃ z u, v = Value.str z u) → ∃ ss, StrsAre vs ss
  | [], _ => ⟨[], .nil⟩
  | v :: vs, h => by
    obtain ⟨z, u, e⟩ := h v List.mem_cons_self
    obtain ⟨ss, q⟩ := strs_of vs fun x hx => h x (List.mem_cons_of_mem _ hx)
    subst e
    exact ⟨z :: ss, .cons z u q⟩
def strOf0 : Value → Str
  | .str k _ => k
  | _ => Str.empty
theorem strs_map : ∀ {vs : List Value} {ss : List Str}, StrsAre vs ss → vs.map strOf0 = ss
  | _, _, .nil => rfl
  | _, _, .cons y t q => by rw [List.map_cons, strs_map q] <;> rfl
theorem strs_vals : ∀ {vs : List Value} {ss : List Str}, StrsAre vs ss → Vals (ss.map V.str) vs
  | _, _, .nil => .nil
  | _, _, .cons y t q => .cons ⟨t, rfl⟩ (strs_vals q)
section
variable {P : Program} {w : World} {A : Around} {E : Value → Shared → Prop} {s : Shared}
theorem sorted_setS {b : Addr} {zs : List Str} {Q : Value → Shared → Prop} (G : SetS P w s.heap b zs) (hh : A.handled = none)
    (hQ : ∀ s' p (out : Array Value) (c : Nat) (ss : List Str), (∀ b o, s.heap.get? b = some o → s'.heap.get? b = some o) → s'.gens = s.gens → s'.os = s.os → s.heap.objs.size ≤ p →
      s'.heap.get? p = some (seqObj "list" out c) → StrsAre out.toList ss → ss.Perm zs → sortedS ss = true → Q (.ref p) s') :
    wpAny (model P w) A (call (.builtin "sorted") [.ref b]) Q E s := by
  obtain ⟨ob, ents, ep, tab, h1, h2, h3, g, pm0, nd, bd, ft, rs, ld⟩ := G
  refine Calls.call_function_entry kind_sorted plain_sorted entry_sorted (args_sorted1 _) ?_
  unfold Builtin.«sorted»
  refine wpAny_bind (m := checkCount "sorted" 1 1 _) (wpAny_pure ?_)
  refine wpAny_bind (collect_set (A := A.in1) hh ⟨ob, h1, h2.1, h3⟩ ft bd rs ld fun s1 vs k1 hz g1 o1 pm => ?_)
  have hvl : vs.length < scanBound := by rw [pm.length_eq, List.length_map, Array.length_toList]; exact bd
  have hsl : vs.length ≤ sizeLine := Nat.le_trans (Nat.le_of_lt hvl) (by decide)
  obtain ⟨s0, hS⟩ := strs_of vs fun v hv => by
    obtain ⟨e, he, q⟩ := List.mem_map.mp (pm.mem_iff.mp hv)
    obtain ⟨z, u, q1, _⟩ := g e he
    exact ⟨z, u, by rw [← q]; exact q1⟩
  have p0 : s0.Perm zs := by
    rw [← strs_map hS]
    refine (pm.map strOf0).trans ?_
    rw [List.map_map]
    exact pm0
  refine wpAny_bind (wpAny_newList ?_ hsl)
  have hoL : (s1.heap.push (seqObj "list" vs.toArray 0)).get? s1.heap.objs.size = some (seqObj "list" vs.toArray 0) := Heap.get?_push_size _ rfl
  refine wpAny_bind (wpAny_holding (wpAny_call_entry slot_list_sort ⟨_, hoL, rfl⟩ entry_list_sort (list_sort_treeKAny strKind_oneLt hoL hS.keysOf (fun v₁ v₂ rest e => keyKind_strs (by rw [← e]; exact hS)) hsl fun st' a1 a2 => ⟨_, rfl, ?_⟩) (args_list_sort _)))
  obtain ⟨ss', b1, b2, b3⟩ := sorted_out_str hS a1 a2
  obtain ⟨c, hc⟩ := sortedHeap_at (vs := vs) (out := (arrOf st').map (·.2)) hoL
  refine wpAny_pure ⟨_, rfl, hQ _ s1.heap.objs.size _ c ss' (fun b u e => ?_) g1 o1 hz hc b1 (b2.trans p0) b3⟩
  have q := k1 b u e
  have hlt := Heap.lt_size q
  show (sortedHeap (s1.heap.push (seqObj "list" vs.toArray 0)) s1.heap.objs.size vs _).get? b = some u
  rw [sortedHeap_old (Nat.ne_of_lt hlt) (by rw [size_push']; exact Nat.lt_succ_of_lt hlt)]
  exact Heap.get?_push_of_some _ q
end
def insU (c : Nat) : List Nat → List Nat
  | [] => [c]
  | d :: r => if c < d then c :: d :: r else if c = d then d :: r else d :: insU c r
def sortU (l : List Nat) : List Nat := l.foldr insU []
theorem insU_mem (c x : Nat) : ∀ l, x ∈ insU c l ↔ x = c ∨ x ∈ l
  | [] => by simp [insU]
  | d :: r => by
    unfold insU
    split
    · simp
    · split
      · rename_i e; subst e; simp
      · simp only [List.mem_cons, insU_mem c x r]
        constructor
        · rintro (h | h | h) <;> simp [h]
        · rintro (h | h | h) <;> simp [h]
theorem insU_asc (c : Nat) : ∀ l : List Nat, l.Pairwise (· < ·) → (insU c l).Pairwise (· < ·)
  | [], _ => by simp [insU]
  | d :: r, h => by
    obtain ⟨h1, h2⟩ := List.pairwise_cons.mp h
    unfold insU
    split
    · rename_i hc
      refine List.pairwise_cons.mpr ⟨fun x hx => ?_, h⟩
      rcases List.mem_cons.mp hx with e | e
      · omega
      · have := h1 x e; omega
    · split
      · exact h
      · refine List.pairwise_cons.mpr ⟨fun x hx => ?_, insU_asc c r h2⟩
        rcases (insU_mem c x r).mp hx with e | e
        · omega
        · exact h1 x e
theorem sortU_asc (l : List Nat) : (sortU l).Pairwise (· < ·) := by
  induction l with
  | nil => exact .nil
  | cons c l ih => exact insU_asc c _ ih
theorem sortU_mem (l : List Nat) (x : Nat) : x ∈ sortU l ↔ x ∈ l := by
  induction l with
  | nil => simp [sortU]
  | cons c l ih =>
    show x ∈ insU c (sortU l) ↔ _
    rw [insU_mem, ih, List.mem_cons]
theorem asc_uniq : ∀ l m : List Nat, l.Pairwise (· < ·) → m.Pairwise (· < ·) → (∀ x, x ∈ l ↔ x ∈ m) → l = m
  | [], [], _, _, _ => rfl
  | [], c :: m, _, _, h => by have := (h c).mpr (by simp); simp at this
  | c :: l, [], _, _, h => by have := (h c).mp (by simp); simp at this
  | c :: l, d :: m, h1, h2, h => by
    obtain ⟨a1, a2⟩ := List.pairwise_cons.mp h1
    obtain ⟨b1, b2⟩ := List.pairwise_cons.mp h2
    have e : c = d := by
      have p := (h c).mp (by simp)
      have q := (h d).mpr (by simp)
      rcases List.mem_cons.mp p with p | p
      · exact p
      · rcases List.mem_cons.mp q with q | q
        · exact q.symm
        · have := a1 d q; have := b1 c p; omega
    subst e
    rw [asc_uniq l m a2 b2 fun x => ?_]
    have := h x
    simp only [List.mem_cons] at this
    constructor
    · intro hx
      rcases this.mp (.inr hx) with q | q
      · have := a1 x hx; omega
      · exact q
    · intro hx
      rcases this.mpr (.inr hx) with q | q
      · have := b1 x hx; omega
      · exact q
theorem sortedS_asc : ∀ l : List Nat, l.Nodup → sortedS (l.map fun c => (⟨#[c]⟩ : Str)) = true → l.Pairwise (· < ·)
  | [], _, _ => .nil
  | [c], _, _ => by simp
  | c :: d :: r, nd, h => by
    have h' : risingS (⟨#[c]⟩ : Str) ((⟨#[d]⟩ : Str) :: r.map fun c => (⟨#[c]⟩ : Str)) = true := h
    simp only [risingS, Bool.and_eq_true] at h'
    obtain ⟨h1, h2⟩ := h'
    have ih := sortedS_asc (d :: r) (List.nodup_cons.mp nd).2 h2
    have ne : c ≠ d := fun q => (List.nodup_cons.mp nd).1 (by rw [q]; simp)
    have h3 : c < d := by
      simp [ltCps] at h1
      omega
    refine List.pairwise_cons.mpr ⟨fun x hx => ?_, ih⟩
    rcases List.mem_cons.mp hx with e | e
    · omega
    · have := (List.pairwise_cons.mp ih).1 x e; omega
theorem nodup_back {α β : Type} {f : α → β} {l : List α} (h : (l.map f).Nodup) : l.Nodup := (List.pairwise_map.mp h).imp fun ne e => ne (by rw [e])
/-- the only list -/
theorem sorted_one {l : List Nat} {ss : List Str} (h1 : ss.Perm (metS (l.map fun c => (⟨#[c]⟩ : Str)))) (h2 : sortedS ss = true) : ss = (sortU l).map fun c => (⟨#[c]⟩ : Str) := by
  have mem : ∀ z, z ∈ ss ↔ z ∈ l.map fun c => (⟨#[c]⟩ : Str) := fun z => by rw [h1.mem_iff, metS_mem]
  have nd : ss.Nodup := h1.nodup_iff.mpr (metS_nodup _)
  have form : ss = (ss.map fun z => z.cps.toList.headD 0).map fun c => (⟨#[c]⟩ : Str) := by
    rw [List.map_map]
    have : ss.map id = ss.map ((fun c => (⟨#[c]⟩ : Str)) ∘ fun z => z.cps.toList.headD 0) := List.map_congr_left fun z hz => by
      obtain ⟨c, _, e⟩ := List.mem_map.mp ((mem z).mp hz)
      subst e
      rfl
    rw [List.map_id] at this
    exact this
  have nd2 : (ss.map fun z => z.cps.toList.headD 0).Nodup := by
    rw [form] at nd
    exact QS.nodup_back nd
  have h3 := sortedS_asc _ nd2 (by rw [← form]; exact h2)
  rw [form]
  congr 1
  refine asc_uniq _ _ h3 (sortU_asc l) fun x => ?_
  rw [sortU_mem, List.mem_map]
  constructor
  · rintro ⟨z, hz, e⟩
    obtain ⟨c, hc, e'⟩ := List.mem_map.mp ((mem z).mp hz)
    subst e'
    have : c = x := e
    rw [← this]; exact hc
  · intro hx
    exact ⟨⟨#[x]⟩, (mem _).mpr (List.mem_map.mpr ⟨x, hx, rfl⟩), rfl⟩
end QS
namespace QL
open PySem PySem.Spec L2
section
variable {X : Cx} {W : WX} {a : Expr} {ta : TE} {fa : S → Res D} {p p2 q pos : Pos}
/-- sorted(set(text)) -/
def tSortSet (te : TE) : TE := fun σ H Q => te σ H fun x H1 => ∃ z : Str, x = .str z ∧ z.length < 4000 ∧ ∀ b, H1 b = none → Q (.ref b) (upd H1 b (.lst (((QS.sortU z.cps.toList).map fun c => (⟨#[c]⟩ : Str)).map V.str)))
theorem pe_sortSet (hc : X.calm = true) (hg : Gl X "sorted") (hm : X.mg "sorted" = none) (hg2 : Gl X "set") (hm2 : X.mg "set" = none) (ha : PE X a ta)
    (na : starEach [a] X.env = (false, eval a X.env) :: starEach [] X.env := by rfl) : PE X (.Call (.Name "sorted" p) [.Call (.Name "set" p2) [a] [] q] [] pos) (tSortSet ta) := by
  refine ⟨fun pins s σ H Q I h => ?_⟩
  refine PyProof.Rows.Call_ (ld_blt I hg hm PyProof.Rows.boot_sorted ?_)
  refine PyProof.Rows.callWith_builtin1 (PyProof.Rows.args_cons ?_ rfl) rfl rfl
  refine PyProof.Rows.Call_ (ld_blt I hg2 hm2 PyProof.Rows.boot_set ?_)
  refine PyProof.Rows.callWith_type1 (PyProof.Rows.args_cons (thn (ha.run pins s σ H _ I h) fun v s1 ⟨x, H1, I1, r1, q1⟩ => PyProof.Rows.args_nil ?_) na) na rfl
  obtain ⟨z, rfl, hz, q1⟩ := q1
  obtain ⟨u, rfl⟩ := r1
  have hl : (QS.metS (z.cps.toList.map fun c => (⟨#[c]⟩ : Str))).length ≤ z.length := by
    refine Nat.le_trans (List.Nodup.length_le_of_subset (QS.metS_nodup _) fun y hy => (QS.metS_mem _ y).mp hy) ?_
    rw [List.length_map, Array.length_toList]
    exact Nat.le_refl _
  refine QS.call_set_text (P := X.prog) (w := X.w) (I1.ok.hd hc) (by unfold scanBound; omega) fun h' tk hS hk => ?_
  refine PyProof.Rows.args_nil ?_
  have I2 : Inv X pins σ H1 { s1 with heap := h', toks := tk } := I1.kept fun b o e => hk b o e
  refine QS.sorted_setS (s := { s1 with heap := h', toks := tk }) hS (I1.ok.hd hc) fun s' p out c ss k g o hp hgp hss pm sd => ?_
  have es := QS.sorted_one pm sd
  have hle : ss.length ≤ z.length := by rw [pm.length_eq]; exact hl
  have hlen : (ss.map V.str).length ≤ sizeLine := by rw [List.length_map, sizeLine_eq]; omega
  have hn : H1 p = none := I2.hok.fresh hp
  have J : Inv X pins σ (upd H1 p (.lst (ss.map V.str))) { { s1 with heap := h', toks := tk } with heap := s'.heap, gens := s'.gens, drawn := s'.drawn, toks := s'.toks } :=
    Inv.call (s := { s1 with heap := h', toks := tk }) (ch := []) I2 (Un.laid k hp hn) (I2.hok.laid k hp ⟨hlen, out.toList, c, QS.strs_vals hss, hgp⟩) (by rw [g]; exact I2.bare) (fun _ z => nomatch z)
  have e : s' = { s1 with heap := s'.heap, gens := s'.gens, drawn := s'.drawn, toks := s'.toks } := by
    cases s'
    cases s1
    cases o
    rfl
  rw [e]
  refine ⟨.ref p, _, J, rfl, ?_⟩
  rw [es]
  exact q1 p hn
def dSortSet : D → Option OV
  | .str z => if z.length < 4000 then some (.nl ((QS.sortU z.cps.toList).map fun c => .str (tx [c]))) else none
  | _ => none
theorem ex_sortSet (hc : X.calm = true) (hm : X.mg "sorted" = none) (hm2 : X.mg "set" = none) (ha : BX X W a ta fa) (hg : Gl X "sorted" := by rfl) (hg2 : Gl X "set" := by rfl)
    (na : starEach [a] X.env = (false, eval a X.env) :: starEach [] X.env := by rfl) : EX X W (.Call (.Name "sorted" p) [.Call (.Name "set" p2) [a] [] q] [] pos) (tSortSet ta) (fOp1 dSortSet fa) := by
  refine ⟨pe_sortSet hc hg hm hg2 hm2 ha.pe na, sim_op1 (rr := fun (x : V) (H1 : Hp) (Q : VK) => ∃ z : Str, x = .str z ∧ z.length < 4000 ∧ ∀ b, H1 b = none → Q (.ref b) (upd H1 b (.lst (((QS.sortU z.cps.toList).map fun c => (⟨#[c]⟩ : Str)).map V.str)))) (fun γ O H x v z Q ow hx e hq => ?_) ha.sim⟩
  unfold dSortSet at e
  split at e
  · rename_i zz
    split at e
    · rename_i hl
      cases e
      simp only [RE, R] at hx
      refine ⟨zz, hx, hl, fun b hb => hq b _ hb ?_⟩
      rw [List.map_map]
      have := Rs.ofStrs (K := X.K) (H := H) (O := O) ((QS.sortU zz.cps.toList).map fun c => (⟨#[c]⟩ : Str))
      rw [List.map_map, List.map_map] at this
      exact this
    · cases e
  · cases e
end
end QL
namespace QZ
open PySem PySem.Spec PyProof.Rows L2
/-- the zip, at turn k: its tuple free, or still out -/
def ZAt (h : Heap) (z TI TO i1 i2 l1 l2 q : Addr) (k : Nat) : Prop := IsPair h TI (.ref i1) (.ref i2) ∧ h.IsListIter i1 l1 k ∧ h.IsListIter i2 l2 k ∧
  ((IsZip h z TI TO .none ∧ ∃ a b, IsPair h TO a b) ∨ ∃ T f oT, IsZipHeld h z TI TO T f ∧ h.get? T = some oT ∧ T ≠ z ∧ T ≠ TO ∧ T ≠ i1 ∧ T ≠ i2 ∧ T ≠ q)
section
variable {P : Program} {w : World} {A : Around} {E : Value → Shared → Prop} {s : Shared} {z TI TO i1 i2 l1 l2 q : Addr} {k : Nat} {xs ys : Array Value}
theorem ZAt.type (Z : ZAt s.heap z TI TO i1 i2 l1 l2 q k) : s.TypeIs (.ref z) "zip" := by
  obtain ⟨_, _, _, ⟨h, _⟩ | ⟨T, f, oT, h, _⟩⟩ := Z
  · exact ⟨_, h, rfl⟩
  · exact ⟨_, h, rfl⟩
theorem ZAt.keep {h h' : Heap} (Z : ZAt h z TI TO i1 i2 l1 l2 q k) (kp : ∀ b o, b ≠ q → h.get? b = some o → h'.get? b = some o) (n1 : z ≠ q) (n2 : TI ≠ q) (n3 : TO ≠ q) (n4 : i1 ≠ q) (n5 : i2 ≠ q) : ZAt h' z TI TO i1 i2 l1 l2 q k := by
  obtain ⟨a, b, c, d⟩ := Z
  refine ⟨kp _ _ n2 a, b.at fun o e => kp _ o n4 e, c.at fun o e => kp _ o n5 e, ?_⟩
  rcases d with ⟨d, u, v, e⟩ | ⟨T, f, oT, d, e, r⟩
  · exact .inl ⟨kp _ _ n1 d, u, v, kp _ _ n3 e⟩
  · exact .inr ⟨T, f, oT, kp _ _ n1 d, kp _ _ r.2.2.2.2 e, r⟩
end
theorem SqL.mono {K : PySem.W.Frag} {H H' : Hp} {a : Addr} {xs : List V} (h : SqL K H a xs) (k : ∀ b o, H b = some o → H' b = some o) : SqL K H' a xs := by
  rcases h with (h | ⟨o, h⟩) | h
  · exact .inl (.inl (k _ _ h))
  · exact .inl (.inr ⟨o, k _ _ h⟩)
  · exact .inr h
end QZ
namespace QL
open PySem PySem.Spec L2
section
variable {X : Cx} {W : WX} {e e2 : Expr} {tl : TA} {FL : S → Res (List D)} {p p2 q pos : Pos}
def fListZip (FL : S → Res (List D)) : S → Res SV := fun r => (FL r).bind fun ds r => match ds with
  | [.list xs, .list ys] => Res.ok (SV.ol (zipL xs ys)) r
  | _ => Res.bad
def sAug (i : Nat) (op : Int → Int → Int) (F : S → Res D) : S → RS := fun r => match r.sl[i]? with
  | some (some (.fz (.int a))) => (F r).bindS fun d r => match d with
    | .int b => setS i (.fz (.int (op a b))) r
    | _ => RS.bad
  | _ => RS.bad
variable {te : TE} {FF : S → Res D} {i : Nat} {x : Str} {op : Operator} {f : Int → Int → Int} {p3 : Pos}
def sUnp (F : S → Res D) (G : D → S → Option S) : S → RS := fun r => (F r).bindS fun d r => match G d r with
  | some r => RS.nx r
  | none => RS.bad
end
end QL
namespace QL
open PySem PySem.Spec L2
section
variable {K : PySem.W.Frag} {mg : Str → Option Value} {W : WX} {γ : Gh} {Oc : List Addr} {r r' : S} {σ σ' : St} {H H' : Hp} {fs fs' f2 fp : List Addr}
theorem TapeR.keep {t : Option (Int × Int)} (tp : TapeR γ H t f2) (k : ∀ a ∈ f2, ∀ o, H a = some o → isTbl o = false → H' a = some o) : TapeR γ H' t f2 := by
  cases t with
  | none => exact tp
  | some t =>
    obtain ⟨a, e1, e2, e3⟩ := tp
    exact ⟨a, e1, k a (by rw [e3]; simp) _ e2 rfl, e3⟩
end
end QL
namespace QL
open PySem PySem.Spec L2
theorem CallR.or {X : Cx} {f : Value} {r1 r2 : List V → Hp → VK → Prop} (h1 : CallR X f r1) (h2 : CallR X f r2) : CallR X f (fun vs H Q => r1 vs H Q ∨ r2 vs H Q) := fun pins s σ H xs us Q I r q => by
  rcases q with q | q
  · exact h1 pins s σ H xs us Q I r q
  · exact h2 pins s σ H xs us Q I r q
def dSumA : List D → Option OV
  | [.list ds] => match intsD ds with
    | some ns => some (.fz (.int ns.sum))
    | _ => none
  | [.tuple ds] => match intsD ds with
    | some ns => some (.fz (.int ns.sum))
    | _ => none
  | _ => none
/-- keys -/
def keyD : D → Option Key
  | .int i => some (.inl i)
  | .str x => some (.inr x)
  | _ => none
theorem keyD_kD (c : Key) : keyD (kD c) = some c := by cases c <;> rfl
def keysOk (kvs : List (D × D)) : Bool := kvs.all fun p => (keyD p.1).isSome
theorem RK.keys {K : PySem.W.Frag} {O : List Addr} {H : Hp} : ∀ {kvs : List (D × D)} {ws : List (Key × V)}, RK K O H kvs ws → ws.length = kvs.length ∧ keysOk kvs = true
  | [], _, h => by simp only [RK] at h; subst h; exact ⟨rfl, rfl⟩
  | (k, d) :: r, _, h => by
    simp only [RK] at h
    obtain ⟨c, v, ws, e, e2, h1, h2⟩ := h
    subst e e2
    obtain ⟨a, b⟩ := RK.keys h2
    exact ⟨by rw [List.length_cons, List.length_cons, a], by
      unfold keysOk at b ⊢
      rw [List.all_cons, b, keyD_kD] <;> rfl⟩
def putD (kvs : List (D × D)) (c : Key) (v : D) : List (D × D) :=
  if (kvs.any fun p => decide (keyD p.1 = some c)) = true then kvs.map (fun p => if keyD p.1 = some c then (p.1, v) else p) else kvs ++ [(kD c, v)]
section
variable {K : PySem.W.Frag} {O : List Addr} {H : Hp}
theorem RK.any (c : Key) : ∀ {kvs : List (D × D)} {ws : List (Key × V)}, RK K O H kvs ws → (kvs.any fun p => decide (keyD p.1 = some c)) = ws.any fun p => decide (p.1 = c)
  | [], _, h => by simp only [RK] at h; subst h; rfl
  | (k, d) :: r, _, h => by
    simp only [RK] at h
    obtain ⟨c', v, ws, e, e2, h1, h2⟩ := h
    subst e e2
    rw [List.any_cons, List.any_cons, RK.any c h2, keyD_kD]
    simp
theorem RK.repl (c : Key) {x : D} {y : V} (hx : R K O H x y) : ∀ {kvs : List (D × D)} {ws : List (Key × V)}, RK K O H kvs ws → RK K O H (kvs.map fun p => if keyD p.1 = some c then (p.1, x) else p) (ws.map fun p => if p.1 = c then (p.1, y) else p)
  | [], _, h => by simp only [RK] at h; subst h; simp [RK]
  | (k, d) :: r, _, h => by
    simp only [RK] at h
    obtain ⟨c', v, ws, e, e2, h1, h2⟩ := h
    subst e e2
    rw [List.map_cons, List.map_cons]
    by_cases q : c' = c
    · subst q
      simp only [keyD_kD, if_true, RK]
      exact ⟨c', y, _, rfl, rfl, hx, RK.repl c' hx h2⟩
    · have q' : ¬ (keyD (kD c') = some c) := by rw [keyD_kD]; simpa using q
      simp only [if_neg q', if_neg q, RK]
      exact ⟨c', v, _, rfl, rfl, h1, RK.repl c hx h2⟩
theorem RK.snoc (c : Key) {x : D} {y : V} (hx : R K O H x y) : ∀ {kvs : List (D × D)} {ws : List (Key × V)}, RK K O H kvs ws → RK K O H (kvs ++ [(kD c, x)]) (ws ++ [(c, y)])
  | [], _, h => by
    simp only [RK] at h; subst h
    simp only [List.nil_append, RK]
    exact ⟨c, y, [], rfl, rfl, hx, rfl⟩
  | (k, d) :: r, _, h => by
    simp only [RK] at h
    obtain ⟨c', v, ws, e, e2, h1, h2⟩ := h
    subst e e2
    simp only [List.cons_append, RK]
    exact ⟨c', v, _, rfl, rfl, h1, RK.snoc c hx h2⟩
theorem RK.put (c : Key) {x : D} {y : V} (hx : R K O H x y) {kvs : List (D × D)} {ws : List (Key × V)} (h : RK K O H kvs ws) : RK K O H (putD kvs c x) (putK ws c y) := by
  unfold putD putK
  rw [RK.any c h]
  split
  · exact RK.repl c hx h
  · exact RK.snoc c hx h
end
def sPutK (i : Nat) (FV FK : S → Res D) : S → RS := fun r => (FV r).bindS fun v r => match r.sl[i]? with
  | some (some (.od _)) => (FK r).bindS fun k r => match keyD k, r.sl[i]? with
    | some c, some (some (.od kvs)) => if kvs.length < sizeLine then RS.nx { r with sl := r.sl.set i (some (.od (putD kvs c v))) } else RS.bad
    | _, _ => RS.bad
  | _ => RS.bad
section
variable {X : Cx} {W : WX} {a b e : Expr} {ta tv tk : TE} {fv fk : S → Res D} {i : Nat} {pos pos' : Pos}
/-- len of a slot's dict -/
def fLenK (i : Nat) : S → Res SV := fun r => match r.sl[i]? with
  | some (some (.od kvs)) => .ok (.fz (.int (kvs.length : Nat))) r
  | _ => .bad
end
end QL
namespace QL
open PySem PySem.Spec L2
def dIndex : D → List D → Option OV
  | .list ds, [d] => if okD (.list ds) = true ∧ okD d = true ∧ SeqAt.shaped (.list ds) = true ∧ SeqAt.shaped d = true then (ds.findIdx? fun z => PyData.eqv z d).map fun j => .fz (.int (j : Nat)) else none
  | _, _ => none
def fMtL (op : D → List D → Option OV) (fa : S → Res D) (FL : S → Res (List D)) : S → Res SV := fun r => (fa r).bind fun x r => match x with
  | .list xs => (FL r).bind fun ds r => ovR (op (.list xs) ds) r
  | _ => Res.bad
end QL
namespace QL
open PySem PySem.Spec L2
section
variable {X : Cx} {W : WX} {tg a b c : Expr} {tl : TA} {FL : S → Res (List D)} {p pos : Pos} {tA tB tC : TT} {FA FB FC : S → Res Bool}
def eIfT (T A B : S → Res Bool) : S → Res Bool := fun r => (T r).bind fun b r => if b then A r else B r
end
end QL
namespace QL
open PySem PySem.Spec L2
def flat1 : D → Bool
  | .list _ => false
  | .dict _ => false
  | .tuple ds => ds.all flat0
  | _ => true
def flatD : D → Bool
  | .list _ => false
  | .dict _ => false
  | .tuple ds => ds.all flat1
  | _ => true
def flatAll (ds : List D) : Bool := ds.all flatD
section
variable {K : PySem.W.Frag} {mg : Str → Option Value} {W : WX} {γ : Gh} {Oc : List Addr} {O : List Addr} {H : Hp} {tl : TA} {n : Nat} {F : List D → FR} {FL : S → Res (List D)}
theorem REs.all (ow : Own O H) : ∀ {ds : List D} {vs : List V}, REs K γ O H ds vs → Rs K [] H ds vs
  | [], vs, h => by
    have h : vs = [] := h
    subst h; simp [Rs]
  | d :: ds, vs, h => by
    obtain ⟨v, ws, e, h1, h2⟩ := h
    simp only [Rs]
    exact ⟨v, ws, e, h1.all ow, REs.all ow h2⟩
end
end QL
namespace QL
open PySem PySem.Spec L2
end QL
namespace QL
open PySem PySem.Spec L2
section
variable {X : Cx} {W : WX} {a b c e2 : Expr} {tl : TA} {te : TE} {FL : S → Res (List D)} {fe : S → Res D} {p p2 q pos tpos : Pos} {elts : List Expr} {kk : Nat}
def downL (i : Int) (n : Nat) : List D := (List.range n).map fun k => .int (i - (k : Nat))
def fZipR (FL : S → Res (List D)) (fe : S → Res D) : S → Res (List D) := fun r => (FL r).bind fun ds r => match intsD ds with
  | some [i, j, c] => if sml i = true ∧ sml j = true ∧ c = -1 then (fe r).bind fun d r => match itemsD d with
    | some es => Res.ok (zipL (downL i (i - j).toNat) es) r
    | _ => Res.bad else Res.bad
  | _ => Res.bad
instance {K : PySem.W.Frag} : PstT (PIt K) := ⟨fun s ⟨f, a, b, c⟩ => ⟨f, a, b, s.trans c⟩⟩
end
end QL
namespace QL
open PySem PySem.Spec L2
end QL
namespace QL
open PySem PySem.Spec L2
def showOk (d : D) : Bool := d.plain && d.showable && decide (d.depth ≤ 60) && decide (d.shown.length ≤ sizeLine)
def dRepr : List D → Option OV
  | [d] => if showOk d = true then some (.fz (.str d.shown)) else none
  | _ => none
def dJoin : D → List D → Option OV
  | .str a, [.list ds] => (strsD ds).bind fun ys => if (ys.map (·.length)).sum + ys.length * a.length ≤ 1000000 then some (.fz (.str (Txt.join a ys))) else none
  | _, _ => none
end QL
namespace QL
open PySem PySem.Spec L2
structure KX (X : Cx) (W : WX) (kws : List Keyword) (t : TA) (F : S → Res (List D)) : Prop where
  pk : PK X kws t
  sim : Sim X.K X.mg W (PL X.K) t F
end QL
namespace QL
open PySem PySem.Spec L2
def dListA : List D → Option OV
  | [.list ds] => some (.nl ds)
  | [.tuple ds] => some (.nl ds)
  | [.str z] => if z.length ≤ sizeLine then some (.nl (z.cps.toList.map fun c => .str (tx [c]))) else none
  | [.dict kvs] => if isOb kvs then none else some (.nl (kvs.map (·.1)))
  | _ => none
theorem R.key {K : PySem.W.Frag} {O : List Addr} {H : Hp} (c : Key) : R K O H (kD c) (kV c) := by
  cases c with
  | inl i => simp [kD, kV, R]
  | inr x => simp [kD, kV, R]
def leS (x y : Str) : Bool := !decide (y.cps.toList < x.cps.toList)
def insS (x : Str) : List Str → List Str
  | [] => [x]
  | y :: r => if leS x y then x :: y :: r else y :: insS x r
def sortS (l : List Str) : List Str := l.foldr insS []
theorem leS_total {x y : Str} (h : leS x y = false) : leS y x = true := by
  unfold leS at *
  simp only [Bool.not_eq_false', decide_eq_true_eq] at h
  simp only [Bool.not_eq_true', decide_eq_false_iff_not]
  intro h2
  exact absurd (List.lt_trans h h2) (List.lt_irrefl _)
theorem leS_trans {x y z : Str} (h : leS x y = true) (h2 : leS y z = true) : leS x z = true := by
  unfold leS at *
  simp only [Bool.not_eq_true', decide_eq_false_iff_not] at *
  have a : x.cps.toList ≤ y.cps.toList := List.not_lt.mp h
  have b : y.cps.toList ≤ z.cps.toList := List.not_lt.mp h2
  exact List.not_lt.mpr (List.le_trans a b)
theorem insS_perm (x : Str) : ∀ l, (insS x l).Perm (x :: l)
  | [] => List.Perm.refl _
  | y :: r => by
    unfold insS
    split
    · exact List.Perm.refl _
    · exact ((insS_perm x r).cons y).trans (List.Perm.swap x y r)
theorem sortS_perm : ∀ l, (sortS l).Perm l
  | [] => List.Perm.refl _
  | x :: r => (insS_perm x (sortS r)).trans ((sortS_perm r).cons x)
theorem insS_sorted (x : Str) : ∀ l, l.Pairwise (fun a b => leS a b = true) → (insS x l).Pairwise (fun a b => leS a b = true)
  | [], _ => List.pairwise_singleton _ _
  | y :: r, h => by
    unfold insS
    obtain ⟨h1, h2⟩ := List.pairwise_cons.mp h
    split
    · rename_i hx
      refine List.pairwise_cons.mpr ⟨fun z hz => ?_, h⟩
      rcases List.mem_cons.mp hz with e | e
      · rw [e]; exact hx
      · exact leS_trans hx (h1 z e)
    · rename_i hx
      refine List.pairwise_cons.mpr ⟨fun z hz => ?_, insS_sorted x r h2⟩
      rcases List.mem_cons.mp ((insS_perm x r).mem_iff.mp hz) with e | e
      · rw [e]; exact leS_total (by simpa using hx)
      · exact h1 z e
theorem sortS_sorted : ∀ l, (sortS l).Pairwise (fun a b => leS a b = true)
  | [] => List.Pairwise.nil
  | x :: r => insS_sorted x _ (sortS_sorted r)
def insZ (x : Int) : List Int → List Int
  | [] => [x]
  | y :: r => if x ≤ y then x :: y :: r else y :: insZ x r
def sortZ (l : List Int) : List Int := l.foldr insZ []
def dSortA : List D → Option OV
  | [.list ds] => match strsD ds with
    | some ys => some (.nl ((sortS ys).map .str))
    | none => match intsD ds with
      | some ns => some (.nl ((sortZ ns).map .int))
      | none => none
  | _ => none
end QL
namespace QL
open PySem PySem.Spec L2
section
variable {K : PySem.W.Frag} {mg : Str → Option Value} {W : WX} {γ : Gh} {Oc : List Addr} {r : S} {σ : St} {H H' : Hp} {fs : List Addr}
theorem Good.setTmpO {p : Addr} {o : HO} (ld : LD o) (g : Good K γ ([p] ++ Oc) r σ H fs) : Good K γ ([p] ++ Oc) r σ (upd H p o) fs ∧ Stab (fs ++ ([p] ++ Oc)) H (fs ++ ([p] ++ Oc)) (upd H p o) ∧ p ∉ fs := by
  have g' := g
  obtain ⟨⟨f1, f2, e, sl, tp⟩, nd, ow, tt⟩ := g
  have np : p ∉ fs := fun z => (List.nodup_append.mp nd).2.2 p z p (by simp) rfl
  have ne : ∀ a, a ∉ fs ++ ([p] ++ Oc) → a ≠ p := fun a n z => n (by rw [z]; simp)
  have st : Stab (fs ++ ([p] ++ Oc)) H (fs ++ ([p] ++ Oc)) (upd H p o) := fun a n _ => ⟨n, fun u _ q => by
    rcases q with q | ⟨o, q⟩
    · exact .inl (by rw [upd_ne (ne a n)]; exact q)
    · exact .inr ⟨o, by rw [upd_ne (ne a n)]; exact q⟩, fun u _ q => by rw [upd_ne (ne a n)]; exact q⟩
  have nf : ∀ a ∈ fs, a ≠ p := fun a z y => np (y ▸ z)
  refine ⟨⟨⟨f1, f2, e, sl.stab ow st fun a z => upd_ne (nf a (by rw [e]; simp [z])), ?_⟩, nd, fun a z => ?_, tt.1, fun q hq => (by
    obtain ⟨o, ho, l⟩ := ow p (by simp)
    exact tabs_upd ho l (tt.2 q hq))⟩, st, np⟩
  · cases q : r.tp with
    | none => rw [q] at tp; exact tp
    | some t =>
      rw [q] at tp
      obtain ⟨a, e1, e2, e3⟩ := tp
      exact ⟨a, e1, by rw [upd_ne (nf a (by rw [e, e3]; simp))]; exact e2, e3⟩
  · by_cases ha : a = p
    · subst ha; exact ⟨_, upd_same, ld⟩
    · obtain ⟨o, ho, l⟩ := ow a z
      exact ⟨o, by rw [upd_ne ha]; exact ho, l⟩
end
def RPs (K : PySem.W.Frag) (O : List Addr) (H : Hp) : List (D × D) → List (V × V) → Prop
  | [], vs => vs = []
  | (k, d) :: r, vs => ∃ x y ws, vs = (x, y) :: ws ∧ R K O H k x ∧ R K O H d y ∧ RPs K O H r ws
theorem RPs.stab {K : PySem.W.Frag} {O O' : List Addr} {H H' : Hp} (ow : Own O H) (st : Stab O H O' H') : ∀ {ps : List (D × D)} {vs : List (V × V)}, RPs K O H ps vs → RPs K O' H' ps vs
  | [], vs, h => h
  | (k, d) :: r, vs, h => by
    obtain ⟨x, y, ws, e, h1, h2, h3⟩ := h
    exact ⟨x, y, ws, e, R.stab ow st _ _ h1, R.stab ow st _ _ h2, RPs.stab ow st h3⟩
def PPr (K : PySem.W.Frag) : Pst (List (D × D)) (List (V × V)) := fun γ Oc r' σ H fs H' ds vs => ∃ fs', Good K γ Oc r' σ H' fs' ∧ RPs K (fs' ++ Oc) H' ds vs ∧ Stp γ.T fs H fs' H'
instance {K : PySem.W.Frag} : PstT (PPr K) := ⟨fun s ⟨f, a, b, c⟩ => ⟨f, a, b, s.trans c⟩⟩
structure PX (X : Cx) (W : WX) (pos : Pos) (keys : List (Option Expr)) (values : List Expr) (trs : List (TE × TE)) (F : S → Res (List (D × D))) : Prop where
  pe : PPs X pos keys values trs
  sim : Sim X.K X.mg W (PPr X.K) (tPairs trs) F
def pNil : S → Res (List (D × D)) := fun r => .ok [] r
def pCons (fk fv : S → Res D) (F : S → Res (List (D × D))) : S → Res (List (D × D)) := fun r => (fk r).bind fun k r => (fv r).bind fun v r => (F r).bind fun ps r => .ok ((k, v) :: ps) r
section
variable {X : Cx} {W : WX} {pos : Pos} {k v e : Expr} {keys : List (Option Expr)} {values : List Expr} {tk tv : TE} {trs : List (TE × TE)} {fk fv : S → Res D} {F : S → Res (List (D × D))}
theorem px_nil : PX X W pos [] [] [] pNil := ⟨pps_nil, fun γ Oc r σ H fs g Q hq => hq [] H ⟨fs, g, rfl, Stp.refl _ _ _⟩⟩
theorem px_cons (hk : FX X W k tk fk) (hv : FX X W v tv fv) (h : PX X W pos keys values trs F) : PX X W pos (some k :: keys) (v :: values) ((tk, tv) :: trs) (pCons fk fv F) := by
  refine ⟨pps_cons hk.pe hv.pe h.pe, fun γ Oc r σ H fs g => ?_⟩
  refine SimAt.bind (t2 := fun x H1 Q => tv σ H1 fun y H2 => tPairs trs σ H2 fun ps H3 => Q ((x, y) :: ps) H3) (hk.sim γ Oc r σ H fs g) fun dk r1 x H1 ⟨fs1, g1, v1, s1⟩ => ?_
  refine SimAt.tr s1 (SimAt.bind (t2 := fun y H2 Q => tPairs trs σ H2 fun ps H3 => Q ((x, y) :: ps) H3) (hv.sim γ Oc r1 σ H1 fs1 g1) fun dv r2 y H2 ⟨fs2, g2, v2, s2⟩ => ?_)
  refine SimAt.tr s2 (SimAt.bind (t2 := fun ps H3 Q => Q ((x, y) :: ps) H3) (h.sim γ Oc r2 σ H2 fs2 g2) fun ps r3 us H3 ⟨fs3, g3, v3, s3⟩ => ?_)
  exact SimAt.tr s3 fun Q hq => hq _ _ ⟨fs3, g3, ⟨x, y, us, rfl, R.stab g2.ow (g2.stabSub s3) _ _ (R.stab g1.ow (g1.stabSub s2) _ _ v1), R.stab g2.ow (g2.stabSub s3) _ _ v2, v3⟩, Stp.refl _ _ _⟩
/-- the pairs by their keys -/
def keysD : List (D × D) → Option (List (Key × D))
  | [] => some []
  | (k, d) :: r => match keyD k, keysD r with
    | some c, some cs => some ((c, d) :: cs)
    | _, _ => none
def mergeD (kvs : List (D × D)) (more : List (Key × D)) : List (D × D) := more.foldl (fun acc kv => putD acc kv.1 kv.2) kvs
def eDisp (F : S → Res (List (D × D))) : S → Res SV := fun r => (F r).bind fun ps r => match keysD ps with
  | some cs => if ps.length ≤ 15 then Res.ok (SV.od (mergeD [] cs)) r else Res.bad
  | none => Res.bad
end
def popD (xs : List D) (k : Int) : Option (D × List D) := if -(2 ^ 62) ≤ k ∧ k < 2 ^ 62 then (ixN xs.length k).bind fun n => (xs[n]?).map fun d => (d, xs.eraseIdx n) else none
def fPop (j : Nat) (fe : S → Res D) : S → Res D := fun r => match r.sl[j]? with
  | some (some (.ol _)) => (fe r).bind fun d r => match d, r.sl[j]? with
    | .int k, some (some (.ol xs)) => (match popD xs k with
      | some p => Res.ok p.1 { r with sl := r.sl.set j (some (.ol p.2)) }
      | none => Res.bad)
    | _, _ => Res.bad
  | _ => .bad
theorem Rs.erase {K : PySem.W.Frag} {O : List Addr} {H : Hp} : ∀ {ds : List D} {vs : List V} (n : Nat), Rs K O H ds vs → Rs K O H (ds.eraseIdx n) (vs.eraseIdx n)
  | [], vs, n, h => by simp only [Rs] at h; rw [h]; simp [Rs]
  | d :: ds, vs, 0, h => by
    simp only [Rs] at h
    obtain ⟨v, us, q, h1, h⟩ := h
    rw [q]
    exact h
  | d :: ds, vs, n + 1, h => by
    simp only [Rs, List.eraseIdx_cons_succ] at h ⊢
    obtain ⟨v, us, q, h1, h⟩ := h
    rw [q]
    exact ⟨v, us.eraseIdx n, rfl, h1, h.erase n⟩
end QL
namespace QL
open PySem PySem.Spec L2
section
variable {prog : Program} {w : World} {K : Type} [DecidableEq K] {knd : HeapKind prog w K} {A : Around} {E : Value → Shared → Prop} {s : Shared} {env : Env}
theorem wpAny_Dict_walkH {keys : List (Option Expr)} {values : List Expr} {pos : Pos} {Q : Value → Shared → Prop} (hu : knd.room A)
    (hall : keys.all (·.isSome) = true) (hl : keys.length = values.length) (h0 : keys ≠ []) (hlen : keys.length ≤ 15)
    (h : wpAny (model prog w) A (evalPairs (pairTrees keys values env pos)) (fun vs s₁ => ∃ ps, CarriesH knd s₁.heap vs ps ∧ s₁.heap.DictOfH knd s.heap.objs.size [] ∧
      ∀ h' tk, h'.DictOfH knd s.heap.objs.size (storedAllH [] ps) → Heap.SameBut s.heap.objs.size s₁.heap h' → Q (.ref s.heap.objs.size) { s₁ with heap := h', toks := tk }) E
      { s with heap := s.heap.push { cls := .type "dict", data := .dict #[] } }) :
    wpAny (model prog w) A (eval (.Dict keys values pos) env) Q E s := by
  have hn := pairTrees_length keys values env pos hall hl
  have hne : pairTrees keys values env pos ≠ [] := fun he => by
    rw [he] at hn
    exact h0 (List.length_eq_zero_iff.mp hn.symm)
  rw [arm_eval_Dict, zip_pairTrees keys values env pos hall hl, dictDisplay_pairs _ hne (by rw [hn]; omega)]
  exact wpAny_bind (wpAny_standAt (wpAny_bind (wpAny_subDictH (knd := knd) (Q := fun d s' => wpAny (model prog w) A (pure (Value.ref d)) Q E s') hu (by rw [hn]; exact hlen)
    (wpAny_mono h (fun vs s₁ h₁ => by obtain ⟨ps, hc, hm, hq⟩ := h₁; exact ⟨ps, hc, hm, fun h' tk a b => wpAny_pure (hq h' tk a b)⟩) fun _ _ e => e))))
end
def mergeT (kvs : List (List Key × V)) (more : List (List Key × Addr × V)) : List (List Key × V) := more.foldl (fun acc kv => putK acc kv.1 kv.2.2) kvs
theorem KT.merge {H : Hp} : ∀ {more : List (List Key × Addr × V)} {rs : List (List Key × Addr × Value)} {kvs : List (List Key × V)} {vs : List (List Key × Addr × Value)},
    Paired (fun p q => p.1 = q.1 ∧ p.2.1 = q.2.1 ∧ H p.2.1 = some (.tup (p.1.map kV)) ∧ RelV p.2.2 q.2.2) more rs → KT H kvs vs → KT H (mergeT kvs more) (storedAllH vs rs) := by
  intro more rs kvs vs r
  induction r generalizing kvs vs with
  | nil => intro q; exact q
  | @cons p q ps qs h t ih =>
    intro r0
    obtain ⟨h1, h2, h3, h4⟩ := h
    have e := r0.put p.1 h3 h4
    rw [show mergeT kvs (p :: ps) = mergeT (putK kvs p.1 p.2.2) ps from rfl, show storedAllH vs (q :: qs) = storedAllH (storedH vs q.1 q.2.1 q.2.2) qs from rfl, ← h1, ← h2]
    exact ih e
theorem length_mergeT : ∀ (more : List (List Key × Addr × V)) (kvs : List (List Key × V)), (mergeT kvs more).length ≤ kvs.length + more.length
  | [], kvs => by show kvs.length ≤ kvs.length + 0; omega
  | p :: r, kvs => by
    have h1 := length_mergeT r (putK kvs p.1 p.2.2)
    have h2 := length_putK kvs p.1 p.2.2
    show (mergeT (putK kvs p.1 p.2.2) r).length ≤ _
    rw [List.length_cons]; omega
theorem carriesT_of {P : Program} {w : World} {H : Hp} {h : Heap} (ok : HOk P w H h) : ∀ {kvs : List (List Key × Addr × V)} {ws : List (Value × Value)}, (∀ kv ∈ kvs, H kv.2.1 = some (.tup (kv.1.map kV))) →
    VV (kvs.map fun kv => (V.ref kv.2.1, kv.2.2)) ws → ∃ rs, CarriesH (tupleKind (mixKind P w)) h ws rs ∧ Paired (fun p q => p.1 = q.1 ∧ p.2.1 = q.2.1 ∧ H p.2.1 = some (.tup (p.1.map kV)) ∧ RelV p.2.2 q.2.2) kvs rs
  | [], _, _, r => by rw [List.map_nil] at r; cases r; exact ⟨[], True.intro, .nil⟩
  | p :: kvs, _, a, r => by
    rw [List.map_cons] at r
    cases r with
    | @cons x b as bs h2 t =>
      obtain ⟨rs, c, q⟩ := carriesT_of ok (kvs := kvs) (fun kv z => a kv (by simp [z])) t
      obtain ⟨b1, b2⟩ := b
      have e1 : b1 = .ref p.2.1 := h2.1
      have e2 := a p (by simp)
      exact ⟨(p.1, p.2.1, b2) :: rs, ⟨e1, rfl, key_of ok e2, c⟩, .cons ⟨rfl, rfl, e2, h2.2⟩ q⟩
def tDispT (trs : List (TE × TE)) : TE := fun σ H Q => ∀ p, H p = none → tPairs trs σ (upd H p (.dT [])) fun ps H2 => H2 p = some (.dT []) ∧ ∃ kvs : List (List Key × Addr × V),
  ps = kvs.map (fun kv => (V.ref kv.2.1, kv.2.2)) ∧ (∀ kv ∈ kvs, H2 kv.2.1 = some (.tup (kv.1.map kV))) ∧ kvs.length ≤ 15 ∧ Q (.ref p) (upd H2 p (.dT (mergeT [] kvs)))
theorem pe_dispT {X : Cx} {pos : Pos} {keys : List (Option Expr)} {values : List Expr} {trs : List (TE × TE)} (hu : X.A.units < cLine) (h : PPs X pos keys values trs) (hall : keys.all (·.isSome) = true) (hl : keys.length = values.length) (h0 : keys ≠ [])
    (h15 : keys.length ≤ 15) : PE X (.Dict keys values pos) (tDispT trs) := by
  refine ⟨fun pins s σ H Q I q => ?_⟩
  have hn := I.hok.fresh (Nat.le_refl s.heap.objs.size)
  have I1 := I.laid (a := s.heap.objs.size) (o := .dT []) (h' := s.heap.push { cls := .type "dict", data := .dict #[] }) (t' := s.toks) (fun _ _ q => Heap.get?_push_of_some _ q) (Nat.le_refl _) (dt_empty s.heap I.big)
  refine wpAny_Dict_walkH (knd := tupleKind (mixKind X.prog X.w)) hu hall hl h0 h15 (thn (h.run pins _ σ _ _ I1 (q _ hn)) fun ws s2 ⟨ps, H2, I2, rel, e, kvs, ep, hk, lk, q2⟩ => ?_)
  subst ep
  obtain ⟨rs, c, rk⟩ := carriesT_of I2.hok hk rel
  obtain ⟨z, hd, vs0, r0, dd⟩ := dt_of I2.hok e
  cases r0
  refine ⟨rs, c, dd, fun h' tk dd' hs => ⟨.ref s.heap.objs.size, _, ?_, rfl, q2⟩⟩
  have hz : (mergeT [] kvs).length ≤ sizeLine := by
    have h1 := length_mergeT kvs []
    rw [List.length_nil] at h1
    rw [sizeLine_eq]; omega
  obtain ⟨qo, es, ep, hq, h2, h3, h4, _, h5⟩ := dd'
  refine d_write I2 (by rw [e]; exact True.intro) hs ⟨qo, hq⟩ ⟨hz, hd, _, KT.keeps (KT.merge rk .nil) fun c ys ec => ?_, qo, es, ep, hq, h2, h3, h4, h5⟩
  rw [upd_ne (ne_of ec e (fun z => nomatch z))]
  exact ec
def keysL : List D → Option (List Key)
  | [] => some []
  | d :: r => match keyD d, keysL r with
    | some c, some cs => some (c :: cs)
    | _, _ => none
def keyT : D → Option (List Key)
  | .tuple ds => keysL ds
  | _ => none
theorem keysL_map : ∀ cs : List Key, keysL (cs.map kD) = some cs
  | [] => rfl
  | c :: cs => by simp only [List.map_cons, keysL, keyD_kD, keysL_map cs]
theorem keyT_map (cs : List Key) : keyT (.tuple (cs.map kD)) = some cs := keysL_map cs
theorem keysL_eq : ∀ {ds : List D} {cs : List Key}, keysL ds = some cs → ds = cs.map kD
  | [], cs, h => by cases h; rfl
  | d :: r, cs, h => by
    unfold keysL at h
    split at h
    · rename_i c cs' e1 e2
      cases h
      rw [List.map_cons, ← keysL_eq e2]
      congr
      cases d with
      | int i => cases e1; rfl
      | str i => cases e1; rfl
      | _ => cases e1
    · cases h
theorem keyT_eq {d : D} {cs : List Key} (h : keyT d = some cs) : d = .tuple (cs.map kD) := by
  cases d with
  | tuple ds => rw [keysL_eq h]
  | _ => cases h
theorem Rs.kV_of {K : PySem.W.Frag} {O : List Addr} {H : Hp} : ∀ {cs : List Key} {vs : List V}, Rs K O H (cs.map kD) vs → vs = cs.map kV
  | [], vs, h => by simpa [Rs] using h
  | c :: cs, vs, h => by
    simp only [List.map_cons, Rs] at h
    obtain ⟨v, us, e, h1, h2⟩ := h
    rw [e, Rs.kV_of h2, List.map_cons]
    congr
    cases c with
    | inl i => simp only [kD, R] at h1; exact h1
    | inr i => simp only [kD, R] at h1; exact h1
theorem R.keyT {K : PySem.W.Frag} {O : List Addr} {H : Hp} {d : D} {v : V} {cs : List Key} (h : R K O H d v) (e : keyT d = some cs) : ∃ b, v = .ref b ∧ H b = some (.tup (cs.map kV)) := by
  rw [keyT_eq e] at h
  simp only [R] at h
  obtain ⟨a, vs, e1, h1, h2⟩ := h
  rw [Rs.kV_of h2] at h1
  exact ⟨a, e1, h1⟩
def putT (kvs : List (D × D)) (c : List Key) (v : D) : List (D × D) :=
  if (kvs.any fun p => decide (keyT p.1 = some c)) = true then kvs.map (fun p => if keyT p.1 = some c then (p.1, v) else p) else kvs ++ [(.tuple (c.map kD), v)]
section
variable {K : PySem.W.Frag} {O : List Addr} {H : Hp}
theorem RT.any (c : List Key) : ∀ {kvs : List (D × D)} {ws : List (List Key × V)}, RT K O H kvs ws → (kvs.any fun p => decide (keyT p.1 = some c)) = ws.any fun p => decide (p.1 = c)
  | [], _, h => by simp only [RT] at h; subst h; rfl
  | (k, d) :: r, _, h => by
    simp only [RT] at h
    obtain ⟨c', v, ws, e, e2, h1, h2⟩ := h
    subst e e2
    rw [List.any_cons, List.any_cons, RT.any c h2, keyT_map]
    simp
theorem RT.repl (c : List Key) {x : D} {y : V} (hx : R K O H x y) : ∀ {kvs : List (D × D)} {ws : List (List Key × V)}, RT K O H kvs ws → RT K O H (kvs.map fun p => if keyT p.1 = some c then (p.1, x) else p) (ws.map fun p => if p.1 = c then (p.1, y) else p)
  | [], _, h => by simp only [RT] at h; subst h; simp [RT]
  | (k, d) :: r, _, h => by
    simp only [RT] at h
    obtain ⟨c', v, ws, e, e2, h1, h2⟩ := h
    subst e e2
    rw [List.map_cons, List.map_cons]
    by_cases q : c' = c
    · subst q
      simp only [keyT_map, if_true, RT]
      exact ⟨c', y, _, rfl, rfl, hx, RT.repl c' hx h2⟩
    · have q' : ¬ (keyT (.tuple (c'.map kD)) = some c) := by rw [keyT_map]; simpa using q
      simp only [if_neg q', if_neg q, RT]
      exact ⟨c', v, _, rfl, rfl, h1, RT.repl c hx h2⟩
theorem RT.snoc (c : List Key) {x : D} {y : V} (hx : R K O H x y) : ∀ {kvs : List (D × D)} {ws : List (List Key × V)}, RT K O H kvs ws → RT K O H (kvs ++ [(.tuple (c.map kD), x)]) (ws ++ [(c, y)])
  | [], _, h => by
    simp only [RT] at h; subst h
    simp only [List.nil_append, RT]
    exact ⟨c, y, [], rfl, rfl, hx, rfl⟩
  | (k, d) :: r, _, h => by
    simp only [RT] at h
    obtain ⟨c', v, ws, e, e2, h1, h2⟩ := h
    subst e e2
    simp only [List.cons_append, RT]
    exact ⟨c', v, _, rfl, rfl, h1, RT.snoc c hx h2⟩
theorem RT.put (c : List Key) {x : D} {y : V} (hx : R K O H x y) {kvs : List (D × D)} {ws : List (List Key × V)} (h : RT K O H kvs ws) : RT K O H (putT kvs c x) (putK ws c y) := by
  unfold putT putK
  rw [RT.any c h]
  split
  · exact RT.repl c hx h
  · exact RT.snoc c hx h
theorem RT.keys : ∀ {kvs : List (D × D)} {ws : List (List Key × V)}, RT K O H kvs ws → ws.length = kvs.length
  | [], _, h => by simp only [RT] at h; subst h; rfl
  | (k, d) :: r, _, h => by
    simp only [RT] at h
    obtain ⟨c, v, ws, e, e2, h1, h2⟩ := h
    subst e e2
    rw [List.length_cons, List.length_cons, RT.keys h2]
end
/-- the pairs by their keys -/
def keysDT : List (D × D) → Option (List (List Key × D))
  | [] => some []
  | (k, d) :: r => match keyT k, keysDT r with
    | some c, some cs => some ((c, d) :: cs)
    | _, _ => none
def mergeDT (kvs : List (D × D)) (more : List (List Key × D)) : List (D × D) := more.foldl (fun acc kv => putT acc kv.1 kv.2) kvs
theorem RPs.toT {K : PySem.W.Frag} {O : List Addr} {H : Hp} : ∀ {ps : List (D × D)} {vs : List (V × V)} {cs : List (List Key × D)}, RPs K O H ps vs → keysDT ps = some cs → ∃ kvs : List (List Key × Addr × V), vs = kvs.map (fun kv => (V.ref kv.2.1, kv.2.2)) ∧
    (∀ kv ∈ kvs, H kv.2.1 = some (.tup (kv.1.map kV))) ∧ kvs.length = ps.length ∧ ∀ {acc : List (D × D)} {ws : List (List Key × V)}, RT K O H acc ws → RT K O H (mergeDT acc cs) (mergeT ws kvs)
  | [], vs, cs, h, e => by
    cases e
    have h : vs = [] := h
    subst h
    exact ⟨[], rfl, by simp, rfl, fun h => h⟩
  | (k, d) :: r, vs, cs, h, e => by
    obtain ⟨x, y, ws, e1, h1, h2, h3⟩ := h
    unfold keysDT at e
    split at e
    · rename_i c cs' ek er
      cases e
      obtain ⟨kvs, q1, q2, q3, q4⟩ := RPs.toT h3 er
      obtain ⟨b, eb, hb⟩ := h1.keyT ek
      refine ⟨(c, b, y) :: kvs, by rw [e1, q1, eb]; rfl, fun kv hm => ?_, by rw [List.length_cons, List.length_cons, q3], fun ha => q4 (ha.put c h2)⟩
      rcases List.mem_cons.mp hm with z | z
      · rw [z]; exact hb
      · exact q2 kv z
    · cases e
section
variable {X : Cx} {W : WX} {pos : Pos} {k v e : Expr} {keys : List (Option Expr)} {values : List Expr} {tk tv : TE} {trs : List (TE × TE)} {fk fv : S → Res D} {F : S → Res (List (D × D))}
def eDispT (F : S → Res (List (D × D))) : S → Res SV := fun r => (F r).bind fun ps r => match keysDT ps with
  | some cs => if ps.length ≤ 15 then Res.ok (SV.ot (mergeDT [] cs)) r else Res.bad
  | none => Res.bad
theorem sim_dispT {K : PySem.W.Frag} {mg : Str → Option Value} (h : Sim K mg W (PPr K) (tPairs trs) F) : Sim K mg W (PV K) (tDispT trs) (eDispT F) := by
  intro γ Oc r σ H fs g Q
  have main : ∀ p, H p = none → ∃ g1 : Good K γ ([p] ++ Oc) r σ (upd H p (.dT [])) fs, True := fun p hp => ⟨g.grow (SameT.of (upd_kept (o := .dT []) hp)) (by simpa using hp) (by simp) (by simp [Own, upd_same, LD]), trivial⟩
  unfold eDispT
  cases eF : F r with
  | bad => trivial
  | exc c f r' =>
    refine fun hw p hp => ?_
    obtain ⟨g1, _⟩ := main p hp
    have z := h γ ([p] ++ Oc) r σ _ fs g1
    rw [eF] at z
    refine z _ fun C d H2 pp => hw C d H2 ?_
    obtain ⟨fs2, g2, s2, m, y⟩ := pp
    have kp := upd_kept (o := .dT []) hp
    exact ⟨fs2, g2.drop, (Stp.same _ _ (SameT.of kp)).trans s2, m, xr_sub g2.ow (fun a z => by
      simp only [List.mem_append] at z ⊢
      rcases z with z | z <;> simp [z]) y⟩
  | ok ps r' =>
    unfold Res.bind
    dsimp only
    cases ek : keysDT ps with
    | none => trivial
    | some cs =>
      dsimp only
      by_cases hl : ps.length ≤ 15
      · rw [if_pos hl]
        refine fun hq p hp => ?_
        obtain ⟨g1, _⟩ := main p hp
        have z := h γ ([p] ++ Oc) r σ _ fs g1
        rw [eF] at z
        refine z _ fun us H2 ⟨fs2, g2, v2, s2⟩ => ?_
        have np : p ∉ fs := fun z => (List.nodup_append.mp g1.nd).2.2 p z p (by simp) rfl
        have hp2 : H2 p = some (.dT []) := s2.keep p _ upd_same fun _ => np
        obtain ⟨kvs, q1, q5, q2, q3⟩ := v2.toT ek
        refine ⟨hp2, kvs, q1, q5, by rw [q2]; exact hl, ?_⟩
        have rk : RT K (fs2 ++ ([p] ++ Oc)) H2 (mergeDT [] cs) (mergeT [] kvs) := q3 (by simp [RT])
        obtain ⟨g3, st3, np2⟩ := g2.setTmpO (o := .dT (mergeT [] kvs)) trivial
        have ne : ∀ a o, H a = some o → a ≠ p := fun a o e z => by rw [z, hp] at e; cases e
        refine hq _ _ ⟨fs2, [p], g3, ⟨p, _, rfl, upd_same, RT.stab g2.ow st3 _ _ rk, rfl⟩, ⟨s2.sub, fun a o e n ht => ?_, fun a e => ?_, fun P t => ?_⟩, by simpa using hp⟩
        · rw [upd_ne (ne a o e)]
          exact s2.keep a o (by rw [upd_ne (ne a o e)]; exact e) n ht
        · exact nn_upd hp2 rfl (s2.there a (e.kept (upd_kept hp)))
        · exact tabs_upd hp2 trivial (s2.tb P (t.ext (upd_kept hp)))
      · rw [if_neg hl]; trivial
theorem ex_dispT (hu : X.A.units < cLine) (h : PX X W pos keys values trs F) (hall : keys.all (·.isSome) = true := by rfl) (hl : keys.length = values.length := by rfl) (h0 : keys ≠ [] := by simp) (h15 : keys.length ≤ 15 := by decide) : EX X W (.Dict keys values pos) (tDispT trs) (eDispT F) :=
  ⟨pe_dispT hu h.pe hall hl h0 h15, sim_dispT h.sim⟩
end
def sPutT (i : Nat) (FV FK : S → Res D) : S → RS := fun r => (FV r).bindS fun v r => match r.sl[i]? with
  | some (some (.ot _)) => (FK r).bindS fun k r => match keyT k, r.sl[i]? with
    | some c, some (some (.ot kvs)) => if kvs.length < sizeLine then RS.nx { r with sl := r.sl.set i (some (.ot (putT kvs c v))) } else RS.bad
    | _, _ => RS.bad
  | _ => RS.bad
section
variable {X : Cx} {W : WX} {a b e : Expr} {ta tv tk : TE} {fv fk : S → Res D} {i : Nat} {pos pos' : Pos}
theorem sim_putT {K : PySem.W.Frag} {mg : Str → Option Value} (hv : Sim K mg W (PF K) tv fv) (hk : Sim K mg W (PF K) tk fk) : SimS K mg W (sDPut (tVar i) tk tv) (sPutT i fv fk) := by
  intro γ Oc r σ H fs g
  unfold sPutT
  refine SimSAt.bindE (t2 := fun (v : V) (H1 : Hp) (E : Ends) => tVar i σ H1 fun x H2 => tk σ H2 fun y H3 => ∃ a H4, x = .ref a ∧ DPut H3 a y v H4 ∧ E.nx σ H4) (hv γ Oc r σ H fs g) fun d r1 v H1 ⟨fs1, g1, v1, s1⟩ => ?_
  refine SimSAt.tr s1.evo ?_
  split
  · rename_i kvs0 e0
    obtain ⟨w, f, ev, hw⟩ := g1.slotV e0
    obtain ⟨a, us, eva, ha, rs0, ef⟩ := hw
    subst eva
    refine SimSAt.imp (SimSAt.bindE (t2 := fun (y : V) (H3 : Hp) (E : Ends) => ∃ a' H4, V.ref a = .ref a' ∧ DPut H3 a' y v H4 ∧ E.nx σ H4) (hk γ Oc r1 σ H1 fs1 g1) fun k r2 y H2 ⟨fs2, g2, v2, s2⟩ => ?_) fun E q => ⟨.ref a, ev, q⟩
    refine SimSAt.tr s2.evo ?_
    split
    · rename_i c kvs ek e1
      split
      · rename_i hl
        intro E hq
        obtain ⟨w, f', ew, hw⟩ := g2.slotV e1
        rw [ev] at ew
        cases ew
        obtain ⟨a', us', eva', ha', rs', ef'⟩ := hw
        cases eva'
        have vv := R.stab g1.ow (g1.stabSub s2) _ _ v1
        obtain ⟨b, eb, hb⟩ := v2.keyT ek
        refine ⟨a, _, rfl, .inr ⟨us', c, b, ha', eb, hb, by rw [rs'.keys]; exact hl, rfl⟩, hq σ _ ⟨fs2, ?_⟩⟩
        refine g2.mut (x' := .ot (putT kvs c d)) e1 ev (fun u f hu eu => ?_) (o := .dT (putK us' c v)) trivial fun st => ⟨a, putK us' c v, rfl, upd_same, RT.put c (R.stab g2.ow st _ _ vv) (RT.stab g2.ow st _ _ rs'), rfl⟩
        obtain ⟨a2, us2, z1, z2, z3, z4⟩ := hu
        rw [eu] at z1; cases z1
        exact z4
      · exact fun E => trivial
    · exact fun E => trivial
  · exact fun E => trivial
theorem sx_putT (hu : X.A.units + 1 < cLine) (ho : PE X a (tVar i)) (hk : FX X W b tk fk) (hv : FX X W e tv fv) (hs : swapsWith e (some (.Subscript a b pos')) pos.line X.env = pure false := by rfl) : SX X W (.Assign [.Subscript a b pos'] e pos) (sDPut (tVar i) tk tv) (sPutT i fv fk) :=
  ⟨ps_dput hu ho hk.pe hv.pe hs, sim_putT hv.sim hk.sim⟩
end
end QL
namespace QL
open PySem PySem.Spec L2
def dTupA : List D → Option OV
  | [.list ds] => some (.nt ds)
  | [.tuple ds] => some (.fz (.tuple ds))
  | [.str z] => if z.length ≤ sizeLine then some (.nt (z.cps.toList.map fun c => .str (tx [c]))) else none
  | _ => none
end QL
namespace QL
open PySem PySem.Spec L2 PySem.W PyProof.Rows
def sRaise (c v : Str) (fe : S → Res D) : S → RS := fun r => (fe r).bindS fun d r => RS.exc c [(v, d)] r
end QL
namespace QL
open PySem PySem.Spec L2
end QL
namespace QL
open PySem PySem.Spec L2 LamX
/-- class, field, words -/
abbrev HR := Addr × Str × List Str
/-- what an exception is told as: a list; or it goes on -/
def ERef (K : PySem.W.Frag) (Q : VK) (E : XK) : List HR → XK
  | [] => E
  | (C, n, tag) :: r => fun cls d H' => ∃ b, PySem.W.exmOne K cls (.ref C) = some b ∧
      (b = true → cls = .ref C ∧ ∃ (dd : Addr) (fs : List (Str × V)) (v : V), d = some dd ∧ H' dd = some (.xd fs) ∧ fs.lookup n = some v ∧ ∀ q, H' q = none → Q (.ref q) (upd H' q (.lst (tag.map V.str ++ [v])))) ∧ (b = false → ERef K Q E r cls d H')
end QL
namespace QL
open PySem PySem.Spec L2 LamX
/-- how an error is told: its name, the field, the words ahead -/
abbrev HM := Str × Str × List Str
def tellR : List HM → Str → List (Str × D) → Option (List D)
  | [], _, _ => none
  | (x, n, tag) :: r, c, f => if c = x then (f.lookup n).map fun d => tag.map .str ++ [d] else tellR r c f
def refIn (hs : List HM) : Res SV → Res SV
  | .ok _ r' => .ok (.ol []) r'
  | .exc c f r' => (match tellR hs c f with
    | some ds => .ok (.ol ds) r'
    | none => .bad)
  | .bad => .bad
def fRef (P : Addr) (hs : List HM) (FB : QL.S → Res SV) : QL.S → Res SV := fun r => match r.sl[0]? with
  | some (some (SV.scr T)) => if P ∈ T then refIn hs (FB r) else .bad
  | _ => .bad
/-- name, class, field, words -/
abbrev HL := Str × Addr × Str × List Str
def HL.c (a : HL) : Str × Addr := (a.1, a.2.1)
section
variable {K : PySem.W.Frag} {mg : Str → Option Value} {W : WX} {γ : Gh} {Oc : List Addr} {r r' : QL.S} {σ : L2.St} {H H' : Hp} {fs fs' : List Addr}
theorem ERef.app {Q : VK} {E : XK} : ∀ (h1 h2 : List HR), ERef K Q (ERef K Q E h2) h1 = ERef K Q E (h1 ++ h2)
  | [], h2 => rfl
  | (C, n, tag) :: r, h2 => by
    funext cls d H'
    show (∃ b, _) = (∃ b, _)
    rw [ERef.app r h2]
    rfl
theorem SameT.non {H H1 : Hp} (s : SameT H H1) {a : Addr} (h : H1 a = none) : H a = none := by
  cases e : H a with
  | none => rfl
  | some o => exact absurd h (s.th (a, false) (NN.of e))
variable {P : Addr} {tB : XK → TE} {FB : QL.S → Res SV}
variable {X : Cx} {kb k : Nat} {x : Str} {c : Addr} {params : Arguments} {body : Expr} {scope : Scope} {t : XK → TE} {p lpos pos : Pos}
/-- the wish within a lambda's body -/
abbrev WL (E : XK) : WX := fun cls d _ H => E cls d H
end
end QL
namespace QL
open PySem PySem.Spec L2 LamX
end QL
namespace QL
open PySem
mutual
/-- data at a value; a dict stands anywhere but at the modules' own -/
inductive Rdx (h : Heap) : Value → PyData → Prop
  | none : Rdx h .none .none
  | bool (b) : Rdx h (.bool b) (.bool b)
  | int (i t) : Rdx h (.int i t) (.int i)
  | str (x t) : Rdx h (.str x t) (.str x)
  | list {a o vs n xs} : h.get? a = some o → o.cls = .type "list" → o.data = .seq vs n → RdxAll h vs.toList xs → Rdx h (.ref a) (.list xs)
  | tuple {a o vs n xs} : h.get? a = some o → o.cls = .type "tuple" → o.data = .seq vs n → RdxAll h vs.toList xs → Rdx h (.ref a) (.tuple xs)
  | dict {a o es n kvs} : h.get? a = some o → o.cls = .type "dict" → o.data = .dict es n → (a == sysModules) = false → RdxAll h (es.toList.map (·.key)) (kvs.map (·.1)) → RdxAll h (es.toList.map (·.val)) (kvs.map (·.2)) → Rdx h (.ref a) (.dict kvs)
inductive RdxAll (h : Heap) : List Value → List PyData → Prop
  | nil : RdxAll h [] []
  | cons {v vs d ds} : Rdx h v d → RdxAll h vs ds → RdxAll h (v :: vs) (d :: ds)
end
mutual
theorem Rdx.reads {h : Heap} : ∀ {v : Value} {d : PyData}, Rdx h v d → ∃ as, Reads h v d as
  | _, _, .none => ⟨_, .none⟩
  | _, _, .bool b => ⟨_, .bool b⟩
  | _, _, .int i t => ⟨_, .int i t⟩
  | _, _, .str x t => ⟨_, .str x t⟩
  | _, _, .list h1 h2 h3 h4 => let ⟨_, r⟩ := RdxAll.reads h4; ⟨_, .list h1 h2 h3 r⟩
  | _, _, .tuple h1 h2 h3 h4 => let ⟨_, r⟩ := RdxAll.reads h4; ⟨_, .tuple h1 h2 h3 r⟩
  | _, _, .dict h1 h2 h3 _ h4 h5 => let ⟨_, r⟩ := RdxAll.reads h4; let ⟨_, r2⟩ := RdxAll.reads h5; ⟨_, .dict h1 h2 h3 r r2⟩
theorem RdxAll.reads {h : Heap} : ∀ {vs : List Value} {ds : List PyData}, RdxAll h vs ds → ∃ as, ReadsAll h vs ds as
  | _, _, .nil => ⟨_, .nil⟩
  | _, _, .cons r rs => let ⟨_, a⟩ := Rdx.reads r; let ⟨_, b⟩ := RdxAll.reads rs; ⟨_, .cons a b⟩
end
variable {prog : Program} {w : World} {h : Heap}
end QL
namespace QL
open PySem PySem.Spec L2
def showA (d : D) : Bool := d.showable && decide (d.depth ≤ 60) && decide (d.shown.length ≤ sizeLine)
def dReprA : List D → Option OV
  | [d] => if showA d = true then some (.fz (.str d.shown)) else none
  | _ => none
mutual
theorem R.nil {K : PySem.W.Frag} {O : List Addr} {H : Hp} : ∀ (d : D) (v : V), R K O H d v → R K [] H d v
  | .none, v, r => by simpa only [R] using r
  | .bool b, v, r => by simpa only [R] using r
  | .int i, v, r => by simpa only [R] using r
  | .str x, v, r => by simpa only [R] using r
  | .list ds, v, r => by
    simp only [R] at r ⊢
    obtain ⟨a, vs, h1, h2, h3, h4⟩ := r
    exact ⟨a, vs, h1, by simp, h3, Rs.nil ds vs h4⟩
  | .tuple ds, v, r => by
    simp only [R] at r ⊢
    obtain ⟨a, vs, h1, h2, h3⟩ := r
    exact ⟨a, vs, h1, h2, Rs.nil ds vs h3⟩
  | .dict kvs, v, r => by
    simp only [R] at r ⊢
    obtain ⟨a, h1, h2, h3⟩ := r
    refine ⟨a, h1, by simp, ?_⟩
    rcases h3 with ⟨ws, q, q2⟩ | ⟨ws, q, q2⟩ | ⟨C, dx, ws, q, q2⟩
    · exact .inl ⟨ws, q, RK.nil kvs ws q2⟩
    · exact .inr (.inl ⟨ws, q, RT.nil kvs ws q2⟩)
    · exact .inr (.inr ⟨C, dx, ws, q, RO'.nil C kvs ws q2⟩)
theorem Rs.nil {K : PySem.W.Frag} {O : List Addr} {H : Hp} : ∀ (ds : List D) (vs : List V), Rs K O H ds vs → Rs K [] H ds vs
  | [], vs, r => by simpa only [Rs] using r
  | d :: ds, vs, r => by
    simp only [Rs] at r ⊢
    obtain ⟨v, ws, h1, h2, h3⟩ := r
    exact ⟨v, ws, h1, R.nil d v h2, Rs.nil ds ws h3⟩
theorem RK.nil {K : PySem.W.Frag} {O : List Addr} {H : Hp} : ∀ (kvs : List (D × D)) (ws : List (Key × V)), RK K O H kvs ws → RK K [] H kvs ws
  | [], ws, r => by simpa only [RK] using r
  | (k, d) :: kvs, ws, r => by
    simp only [RK] at r ⊢
    obtain ⟨c, v, ws', h1, h2, h3, h4⟩ := r
    exact ⟨c, v, ws', h1, h2, R.nil d v h3, RK.nil kvs ws' h4⟩
theorem RT.nil {K : PySem.W.Frag} {O : List Addr} {H : Hp} : ∀ (kvs : List (D × D)) (ws : List (List Key × V)), RT K O H kvs ws → RT K [] H kvs ws
  | [], ws, r => by simpa only [RT] using r
  | (k, d) :: kvs, ws, r => by
    simp only [RT] at r ⊢
    obtain ⟨c, v, ws', h1, h2, h3, h4⟩ := r
    exact ⟨c, v, ws', h1, h2, R.nil d v h3, RT.nil kvs ws' h4⟩
theorem RF.nil {K : PySem.W.Frag} {O : List Addr} {H : Hp} : ∀ (kvs : List (D × D)) (ws : List (Str × V)), RF K O H kvs ws → RF K [] H kvs ws
  | [], ws, r => by simpa only [RF] using r
  | (k, d) :: kvs, ws, r => by
    simp only [RF] at r ⊢
    obtain ⟨c, v, ws', h1, h2, h3, h4⟩ := r
    exact ⟨c, v, ws', h1, h2, R.nil d v h3, RF.nil kvs ws' h4⟩
theorem RO'.nil {K : PySem.W.Frag} {O : List Addr} {H : Hp} (C : Addr) : ∀ (kvs : List (D × D)) (ws : List (Str × V)), RO' K O H C kvs ws → RO' K [] H C kvs ws
  | [], ws, r => by simp only [RO'] at r
  | (k, d) :: kvs, ws, r => by
    simp only [RO'] at r ⊢
    exact ⟨r.1, r.2.1, RF.nil kvs ws r.2.2⟩
end
end QL
namespace QL
open PySem PySem.Spec L2
def getK (kvs : List (D × D)) (c : Key) : Option D := (kvs.find? fun p => decide (keyD p.1 = some c)).map (·.2)
def getT (kvs : List (D × D)) (c : List Key) : Option D := (kvs.find? fun p => decide (keyT p.1 = some c)).map (·.2)
section
variable {K : PySem.W.Frag} {O : List Addr} {H : Hp}
def RO (K : PySem.W.Frag) (O : List Addr) (H : Hp) : Option D → Option V → Prop
  | none, none => True
  | some d, some v => R K O H d v
  | _, _ => False
theorem RO.isSome {o : Option D} {o' : Option V} (h : RO K O H o o') : o'.isSome = o.isSome := by
  cases o <;> cases o' <;> first | rfl | exact h.elim
theorem RK.get (c : Key) : ∀ {kvs : List (D × D)} {ws : List (Key × V)}, RK K O H kvs ws → RO K O H (getK kvs c) (valV ws c)
  | [], _, h => by simp only [RK] at h; subst h; exact trivial
  | (k, d) :: r, _, h => by
    simp only [RK] at h
    obtain ⟨c', v, ws, e, e2, h1, h2⟩ := h
    subst e e2
    have ih := RK.get c h2
    unfold getK valV at ih ⊢
    rw [List.find?_cons, List.find?_cons]
    by_cases q : c' = c
    · subst q
      simp only [keyD_kD, decide_true, Option.map_some]
      exact h1
    · have q' : ¬ (keyD (kD c') = some c) := by rw [keyD_kD]; simpa using q
      simp only [decide_eq_false q', decide_eq_false q]
      exact ih
theorem RT.get (c : List Key) : ∀ {kvs : List (D × D)} {ws : List (List Key × V)}, RT K O H kvs ws → RO K O H (getT kvs c) (valV ws c)
  | [], _, h => by simp only [RT] at h; subst h; exact trivial
  | (k, d) :: r, _, h => by
    simp only [RT] at h
    obtain ⟨c', v, ws, e, e2, h1, h2⟩ := h
    subst e e2
    have ih := RT.get c h2
    unfold getT valV at ih ⊢
    rw [List.find?_cons, List.find?_cons]
    by_cases q : c' = c
    · subst q
      simp only [keyT_map, decide_true, Option.map_some]
      exact h1
    · have q' : ¬ (keyT (.tuple (c'.map kD)) = some c) := by rw [keyT_map]; simpa using q
      simp only [decide_eq_false q', decide_eq_false q]
      exact ih
end
/-- what a slot's dict holds at k -/
def lkS (r : S) (i : Nat) (k : D) : Option (Option D) := match r.sl[i]? with
  | some (some (.od kvs)) => (keyD k).map (getK kvs)
  | some (some (.ot kvs)) => (keyT k).map (getT kvs)
  | some (some (.fz (.dict (p :: kvs)))) => match keyD k with
    | some c => if (keyD p.1).isSome then some (getK (p :: kvs) c) else none
    | none => match keyT k with
      | some c => if (keyT p.1).isSome then some (getT (p :: kvs) c) else none
      | none => none
  | _ => none
/-- a slot that is a dict -/
def isDS (r : S) (i : Nat) : Bool := match r.sl[i]? with
  | some (some (.od _)) => true
  | some (some (.ot _)) => true
  | some (some (.fz (.dict kvs))) => !isOb kvs
  | _ => false
section
variable {K : PySem.W.Frag} {mg : Str → Option Value} {W : WX} {γ : Gh} {O Oc fs : List Addr} {H : Hp} {r : S} {σ : St} {i : Nat} {k : D} {y : V} {o : Option D}
theorem keyT_kD (c : Key) : keyT (kD c) = none := by cases c <;> rfl
theorem isDS_ok (g : Good K γ Oc r σ H fs) (e : isDS r i = true) : ∃ a, σ[i]? = some (some (.ref a)) ∧ IsD H a := by
  unfold isDS at e
  split at e
  · rename_i kvs e0
    obtain ⟨w, f, ev, a, us, eva, ha, rs, ef⟩ := g.slotV e0
    subst eva
    exact ⟨a, ev, .inl ⟨us, .inl ha⟩⟩
  · rename_i kvs e0
    obtain ⟨w, f, ev, a, us, eva, ha, rs, ef⟩ := g.slotV e0
    subst eva
    exact ⟨a, ev, .inr ⟨us, .inl ha⟩⟩
  · rename_i kvs e0
    obtain ⟨w, f, ev, hR, ef⟩ := g.slotV e0
    simp only [R] at hR
    obtain ⟨a, eva, n, h⟩ := hR
    subst eva
    rcases h with ⟨us, rd, _⟩ | ⟨us, rd, _⟩ | h
    · exact ⟨a, ev, .inl ⟨us, rd⟩⟩
    · exact ⟨a, ev, .inr ⟨us, rd⟩⟩
    · exact noOb (by simpa using e) h
  · cases e
theorem lk_ok (g : Good K γ Oc r σ H fs) (hk : R K (fs ++ Oc) H k y) (e : lkS r i k = some o) : ∃ a o', σ[i]? = some (some (.ref a)) ∧ DGet H a y o' ∧ RO K (fs ++ Oc) H o o' := by
  have kv : ∀ {c : Key}, keyD k = some c → y = kV c := fun {c} h => by
    cases k with
    | int i => simp only [R] at hk; cases h; exact hk
    | str i => simp only [R] at hk; cases h; exact hk
    | _ => cases h
  unfold lkS at e
  split at e
  · rename_i kvs e0
    obtain ⟨w, f, ev, a, us, eva, ha, rs, ef⟩ := g.slotV e0
    subst eva
    obtain ⟨c, ec, eo⟩ := Option.map_eq_some_iff.mp e
    subst eo
    exact ⟨a, _, ev, .inl ⟨us, c, .inl ha, kv ec, rfl⟩, RK.get c rs⟩
  · rename_i kvs e0
    obtain ⟨w, f, ev, a, us, eva, ha, rs, ef⟩ := g.slotV e0
    subst eva
    obtain ⟨c, ec, eo⟩ := Option.map_eq_some_iff.mp e
    subst eo
    obtain ⟨b, eb, hb⟩ := hk.keyT ec
    exact ⟨a, _, ev, .inr ⟨us, c, b, .inl ha, eb, hb, rfl⟩, RT.get c rs⟩
  · rename_i p kvs e0
    obtain ⟨w, f, ev, hR, ef⟩ := g.slotV e0
    simp only [R] at hR
    obtain ⟨a, eva, n, h⟩ := hR
    subst eva
    split at e
    · rename_i c ec
      split at e
      · rename_i hp
        cases e
        rcases h with ⟨us, rd, rs⟩ | ⟨us, rd, rs⟩ | h
        · exact ⟨a, _, ev, .inl ⟨us, c, rd, kv ec, rfl⟩, RK.get c rs⟩
        · obtain ⟨pk, pd⟩ := p
          simp only [RT] at rs
          obtain ⟨c', v, ws', e1, e2, _⟩ := rs
          subst e2
          cases hp
        · refine noOb ?_ h
          obtain ⟨pk, pd⟩ := p
          cases pk <;> first | rfl | cases hp
      · cases e
    · split at e
      · rename_i c ec
        split at e
        · rename_i hp
          cases e
          rcases h with ⟨us, rd, rs⟩ | ⟨us, rd, rs⟩ | h
          · obtain ⟨pk, pd⟩ := p
            simp only [RK] at rs
            obtain ⟨c', v, ws', e1, e2, _⟩ := rs
            subst e2
            rw [keyT_kD] at hp
            cases hp
          · obtain ⟨b, eb, hb⟩ := hk.keyT ec
            exact ⟨a, _, ev, .inr ⟨us, c, b, rd, eb, hb, rfl⟩, RT.get c rs⟩
          · refine noOb ?_ h
            obtain ⟨pk, pd⟩ := p
            cases pk <;> first | rfl | cases hp
        · cases e
      · cases e
  · cases e
/-- k in d, k not in d -/
def fInS (f : Bool → Bool) (i : Nat) (FK : S → Res D) : S → Res SV := fun r => (FK r).bind fun k r => match lkS r i k with
  | some o => .ok (.fz (.bool (f o.isSome))) r
  | none => .bad
theorem sim_notInS {tk : TE} {fk : S → Res D} (hk : Sim K mg W (PF K) tk fk) : Sim K mg W (PV K) (tDNotIn tk (tVar i)) (fInS not i fk) := by
  intro γ Oc r σ H fs g
  refine SimAt.bind (t2 := fun (y : V) (H1 : Hp) (Q : V → Hp → Prop) => tVar i σ H1 fun x H2 => ∃ a o, x = .ref a ∧ DGet H2 a y o ∧ Q (.bl (!o.isSome)) H2) (hk γ Oc r σ H fs g) fun k r1 y H1 ⟨fs1, g1, v1, s1⟩ => ?_
  refine SimAt.tr s1 ?_
  cases e : lkS r1 i k with
  | none => exact fun Q => trivial
  | some o =>
    intro Q hq
    obtain ⟨a, o', ea, dg, ro⟩ := lk_ok g1 v1 e
    exact ⟨.ref a, ea, a, o', rfl, dg, hq _ _ ⟨fs1, [], g1, ⟨by rw [ro.isSome]; simp [R], rfl⟩, Stp.refl _ _ _, by simp⟩⟩
/-- d[k] -/
def fGetS (i : Nat) (FK : S → Res D) : S → Res SV := fun r => if isDS r i = true then (FK r).bind fun k r => match lkS r i k with
  | some (some d) => .ok (.fz d) r
  | _ => .bad else .bad
theorem sim_getS {tk : TE} {fk : S → Res D} (hk : Sim K mg W (PF K) tk fk) : Sim K mg W (PV K) (tDGet (tVar i) tk) (fGetS i fk) := by
  intro γ Oc r σ H fs g
  unfold fGetS
  split
  · rename_i hd
    obtain ⟨a, ea, _⟩ := isDS_ok g hd
    refine SimAt.imp (SimAt.bind (t2 := fun (y : V) (H2 : Hp) (Q : V → Hp → Prop) => ∃ a' v, V.ref a = .ref a' ∧ DGet H2 a' y (some v) ∧ Q v H2) (hk γ Oc r σ H fs g) fun k r1 y H1 ⟨fs1, g1, v1, s1⟩ => ?_) fun Q q => ⟨.ref a, ea, q⟩
    refine SimAt.tr s1 ?_
    split
    · rename_i d e
      intro Q hq
      obtain ⟨a', o', ea', dg, ro⟩ := lk_ok g1 v1 e
      rw [ea] at ea'
      cases ea'
      cases o' with
      | none => exact ro.elim
      | some v => exact ⟨a, v, rfl, dg, hq _ _ ⟨fs1, [], g1, ⟨ro, rfl⟩, Stp.refl _ _ _, by simp⟩⟩
    · exact fun Q => trivial
  · exact fun Q => trivial
/-- d.get(k) -/
def fGet1S (i : Nat) (FK : S → Res D) : S → Res SV := fun r => if isDS r i = true then (FK r).bind fun k r => match lkS r i k with
  | some o => .ok (.fz (o.getD .none)) r
  | _ => .bad else .bad
theorem RO.getD {o : Option D} {o' : Option V} {d : D} {v : V} (h : RO K O H o o') (hd : R K O H d v) : R K O H (o.getD d) (o'.getD v) := by
  cases o <;> cases o' <;> first | exact hd | exact h | exact h.elim
/-- d.get(k, x) -/
def fGet2S (i : Nat) (FK FX : S → Res D) : S → Res SV := fun r => if isDS r i = true then (FK r).bind fun k r => (FX r).bind fun x r => match lkS r i k with
  | some o => .ok (.fz (o.getD x)) r
  | _ => .bad else .bad
theorem sim_get2S {tk tx : TE} {fk fx : S → Res D} (hk : Sim K mg W (PF K) tk fk) (hx : Sim K mg W (PF K) tx fx) : Sim K mg W (PV K) (tDGet2 (tVar i) tk tx) (fGet2S i fk fx) := by
  intro γ Oc r σ H fs g
  unfold fGet2S
  split
  · rename_i hd
    obtain ⟨a, ea, ia⟩ := isDS_ok g hd
    refine SimAt.imp (SimAt.bind (t2 := fun (y : V) (H2 : Hp) (Q : V → Hp → Prop) => tx σ H2 fun z H3 => ∃ o, DGet H3 a y o ∧ Q (o.getD z) H3) (hk γ Oc r σ H fs g) fun k r1 y H1 ⟨fs1, g1, v1, s1⟩ => ?_) fun Q q => ⟨.ref a, ea, a, rfl, ia, q⟩
    refine SimAt.tr s1 ?_
    refine SimAt.bind (t2 := fun (z : V) (H3 : Hp) (Q : V → Hp → Prop) => ∃ o, DGet H3 a y o ∧ Q (o.getD z) H3) (hx γ Oc r1 σ H1 fs1 g1) fun x r2 z H2 ⟨fs2, g2, v2, s2⟩ => ?_
    have vk := R.stab g1.ow (g1.stabSub s2) _ _ v1
    refine SimAt.tr s2 ?_
    split
    · rename_i o e
      intro Q hq
      obtain ⟨a', o', ea', dg, ro⟩ := lk_ok g2 vk e
      rw [ea] at ea'
      cases ea'
      exact ⟨o', dg, hq _ _ ⟨fs2, [], g2, ⟨ro.getD v2, rfl⟩, Stp.refl _ _ _, by simp⟩⟩
    · exact fun Q => trivial
  · exact fun Q => trivial
end
theorem sim_tbT {K : PySem.W.Frag} {mg : Str → Option Value} {W : WX} {ta : TE} {fa : S → Res D} (h : Sim K mg W (PB K) ta fa) : Sim K mg W (PTt K) (tB ta) (tV fa) := by
  intro γ Oc r σ H fs g
  refine SimAt.bind (t2 := fun (x : V) (H1 : Hp) (Q : Bool → Hp → Prop) => ∃ c, x = .bl c ∧ Q c H1) (h γ Oc r σ H fs g) fun d r1 v H1 ⟨fs1, g1, v1, s1⟩ => ?_
  refine SimAt.tr s1 fun Q => ?_
  cases d with
  | bool b =>
    simp only [RE, R] at v1
    exact fun hq => ⟨b, v1, hq b H1 ⟨fs1, g1, rfl, Stp.refl _ _ _⟩⟩
  | _ => trivial
section
variable {X : Cx} {W : WX} {a b e : Expr} {tk tx : TE} {fk fx : S → Res D} {i : Nat} {pos apos p : Pos}
theorem ex_notInS (hu : X.A.units + 1 < cLine) (ho : PE X b (tVar i)) (hk : FX X W a tk fk) (hm : behindInMarks .NotIn b = false := by with_unfolding_all rfl) : EX X W (.Compare a [.NotIn] [b] pos) (tDNotIn tk (tVar i)) (fInS not i fk) :=
  ⟨pe_cmp (pc_dnotin hu hk.pe ho) hm, sim_notInS hk.sim⟩
theorem tx_notInS (hu : X.A.units + 1 < cLine) (ho : PE X b (tVar i)) (hk : FX X W a tk fk) (hm : behindInMarks .NotIn b = false := by with_unfolding_all rfl) : TX X W (.Compare a [.NotIn] [b] pos) (tB (tDNotIn tk (tVar i))) (tV (fD (fInS not i fk))) :=
  ⟨pt_cmp (pc_dnotin hu hk.pe ho) hm, sim_tbT (EX.toB (ex_notInS (pos := pos) hu ho hk hm)).sim⟩
theorem ex_getS (hu : X.A.units + 1 < cLine) (ho : PE X a (tVar i)) (hk : FX X W b tk fk) (hs : NoSl b) : EX X W (.Subscript a b pos) (tDGet (tVar i) tk) (fGetS i fk) :=
  ⟨pe_dget hu ho hk.pe hs, sim_getS hk.sim⟩
theorem ex_get2S (hu : X.A.units + 1 < cLine) (ho : PE X a (tVar i)) (hk : FX X W b tk fk) (hx : FX X W e tx fx) (m : M2 X a "get" apos b e pos := by exact ⟨rfl, rfl, rfl, rfl⟩) : EX X W (.Call (.Attribute a "get" apos) [b, e] [] pos) (tDGet2 (tVar i) tk tx) (fGet2S i fk fx) :=
  ⟨pe_dget2 hu ho hk.pe hx.pe m, sim_get2S hk.sim hx.sim⟩
end
end QL
namespace QL
open PySem PySem.Spec L2
def outN (R : FR) (r : S) : Res SV := match R with
  | .ok (.fz (.list xs)) _ => if flatAll xs = true then .ok (.ol xs) r else .bad
  | .ok (.ol xs) _ => .ok (.ol xs) r
  | .exc c f _ => if flatAll (f.map (·.2)) = true then .exc c f r else .bad
  | _ => .bad
def fCallN (n : Nat) (F : List D → FR) (FL : S → Res (List D)) : S → Res SV := fun r => (FL r).bind fun ds r => if ds.length = n ∧ flatAll ds = true then outN (F ds) r else .bad
end QL
namespace QL
open PySem PySem.Spec L2
def olsS (m : Nat) : List SV → Option (List (List D))
  | [] => some []
  | .ol ds :: r => if ds.length + m ≤ sizeLine then (olsS m r).map (ds :: ·) else none
  | _ => none
def ROL (K : PySem.W.Frag) (O : List Addr) (H : Hp) : List (List D) → List Addr → Prop
  | [], as => as = []
  | ds :: r, as => ∃ a as' us, as = a :: as' ∧ H a = some (.lst us) ∧ Rs K O H ds us ∧ ROL K O H r as'
section
variable {K : PySem.W.Frag} {mg : Str → Option Value} {W : WX} {γ : Gh} {Oc Oc' O O' : List Addr} {r r1 r2 rA rB : S} {σ σ' σ2 : St} {H H' H1 H2 H3 : Hp} {fs fs1 fp fA fB fB' : List Addr}
theorem ROL.len : ∀ {dss : List (List D)} {as : List Addr}, ROL K O H dss as → as.length = dss.length
  | [], as, h => by have h : as = [] := h; subst h; rfl
  | d :: dss, as, h => by
    obtain ⟨a, as', us, e, _, _, h⟩ := h
    subst e
    rw [List.length_cons, List.length_cons, h.len]
theorem ROL.us {m : Nat} : ∀ {dss : List (List D)} {as : List Addr}, ROL K O H dss as → (∀ ds ∈ dss, ds.length + m ≤ sizeLine) → ∀ a ∈ as, ∃ us, H a = some (.lst us) ∧ us.length + m ≤ sizeLine
  | [], as, h, _, a, ha => by have h : as = [] := h; subst h; cases ha
  | d :: dss, as, h, n, b, hb => by
    obtain ⟨a, as', us, e, h1, h2, h⟩ := h
    subst e
    rcases List.mem_cons.mp hb with hb | hb
    · subst hb; exact ⟨us, h1, by rw [h2.len]; exact n d (by simp)⟩
    · exact ROL.us h (fun e he => n e (List.mem_cons_of_mem _ he)) b hb
theorem ROL.stab (ow : Own O H) (st : Stab O H O' H') : ∀ {dss : List (List D)} {as : List Addr}, (∀ a ∈ as, H' a = H a) → ROL K O H dss as → ROL K O' H' dss as
  | [], as, _, h => h
  | d :: dss, as, k, h => by
    obtain ⟨a, as', us, e, h1, h2, h⟩ := h
    subst e
    exact ⟨a, as', us, rfl, by rw [k a (by simp)]; exact h1, Rs.stab ow st _ _ h2, ROL.stab ow st (fun b hb => k b (List.mem_cons_of_mem _ hb)) h⟩
theorem SimSAt.all {ι : Sort _} {P : ι → Ends → Prop} {t : Ends → Prop} {R : RS} (ht : ∀ E, (∀ x, P x E) → t E) (h : ∀ x, SimSAt K mg W γ Oc H fs (P x) R) : SimSAt K mg W γ Oc H fs t R := by
  intro E
  have z := fun x => h x E
  cases R with
  | bad => trivial
  | nx r' => exact fun q => ht E fun x => z x q
  | bk r' => exact fun q => ht E fun x => z x q
  | ct r' => exact fun q => ht E fun x => z x q
  | rt x r' => exact fun q => ht E fun x => z x q
  | exc c f r' => exact fun q => ht E fun x => z x q
end
section
variable {X : Cx} {W : WX} {i n m : Nat} {st : Stmt} {rest : List Stmt} {t u tm : TS} {B B1 B2 : S → RS}
def sNest (i n m : Nat) (FL : S → Res (List SV)) (T : S → Res Bool) (A B : S → RS) : S → RS := fun r => (FL r).bindS fun xs r1 => match olsS m xs with
  | some dss => if dss.length = n ∧ i < r1.sl.length ∧ n ≤ sizeLine then (T { r1 with sl := r1.sl.set i (some (.fz (.list (dss.map .list)))) }).bindS fun b r2 => if b then sSeq A sBad r2 else B ⟨r1.sl.set i none, r2.tp⟩ else .bad
  | none => .bad
end
end QL
namespace QL
open PySem PySem.Spec L2
end QL
namespace QL
open PySem PySem.Spec L2
def eOrI (fa : S → Res D) (G : S → Res SV) : S → Res SV := fun r => (fa r).bind fun x r => match x with
  | .int i => if i = 0 then G r else Res.ok (SV.fz (PyData.int i)) r
  | _ => Res.bad
section
variable {X : Cx} {W : WX} {a b : Expr} {rest : List Expr} {ta tb : TE} {fa : S → Res D} {G : S → Res SV} {pos : Pos}
theorem ex_orI (h : BX X W a ta fa) (h' : EX X W (.BoolOp .Or (b :: rest) pos) tb G) : EX X W (.BoolOp .Or (a :: b :: rest) pos) (tOrT X.K ta tb) (eOrI fa G) := by
  refine ⟨pe_orT h.pe h'.pe, fun γ Oc r σ H fs g => ?_⟩
  refine SimAt.bind (t2 := fun (x : V) (H1 : Hp) (Q : VK) => ∃ k, TruV X.K x H1 k ∧ if k = true then Q x H1 else tb σ H1 Q) (h.sim γ Oc r σ H fs g) fun d r1 v H1 ⟨fs1, g1, v1, s1⟩ => ?_
  refine SimAt.tr s1 ?_
  cases d with
  | int i =>
    simp only [RE, R] at v1
    subst v1
    dsimp only
    by_cases hi : i = 0
    · subst hi
      rw [if_pos rfl]
      refine SimAt.imp (h'.sim γ Oc r1 σ H1 fs1 g1) fun Q q => ⟨false, rfl, ?_⟩
      rw [if_neg (by simp)]
      exact q
    · rw [if_neg hi]
      intro Q hq
      refine ⟨true, by show true = (i != 0); simpa using hi, ?_⟩
      rw [if_pos rfl]
      exact hq _ _ ⟨fs1, [], g1, ⟨by simp [R], rfl⟩, Stp.refl _ _ _, by simp⟩
  | _ => exact fun Q => trivial
end
abbrev PT3 := Addr × Int × Str
def prD (b : PT3) : PyData := .tuple [.int b.2.1, .str b.2.2]
end QL
namespace QL
open PySem PySem.Spec L2
def IsDO : HO → Prop
  | .dK _ => True
  | .dT _ => True
  | _ => False
section
variable {K : PySem.W.Frag} {mg : Str → Option Value} {W : WX} {γ : Gh} {Oc : List Addr} {r : S} {σ : St} {H H' : Hp} {fs fs' fp : List Addr} {a : Addr} {u : HO} {od : Obj}
theorem lock_stab {O O' : List Addr} (h : H a = some u) (du : IsDO u) (hO : ∀ b ∈ O', b ∈ O) : Stab O H O' (upd H a (.frz od u)) := fun b n e => by
  refine ⟨fun z => n (hO b z), fun w hw q => ?_, fun w hw q => ?_⟩
  · by_cases hb : b = a
    · subst hb
      rcases q with q | ⟨o, q⟩
      · rw [h] at q; cases q; exact .inr ⟨od, upd_same⟩
      · rw [h] at q; cases q; exact du.elim
    · rcases q with q | ⟨o, q⟩
      · exact .inl (by rw [upd_ne hb]; exact q)
      · exact .inr ⟨o, by rw [upd_ne hb]; exact q⟩
  · by_cases hb : b = a
    · subst hb
      rw [h] at q; cases q
      cases u <;> first | exact hw.elim | exact du.elim
    · rw [upd_ne hb]; exact q
theorem unlock_stab {O O' : List Addr} (h : H a = some (.frz od u)) (du : IsDO u) (hO : ∀ b ∈ O', b ∈ O) : Stab O H O' (upd H a u) := fun b n e => by
  refine ⟨fun z => n (hO b z), fun w hw q => ?_, fun w hw q => ?_⟩
  · by_cases hb : b = a
    · subst hb
      rcases q with q | ⟨o, q⟩
      · rw [h] at q; cases q; exact hw.elim
      · rw [h] at q; cases q; exact .inl upd_same
    · rcases q with q | ⟨o, q⟩
      · exact .inl (by rw [upd_ne hb]; exact q)
      · exact .inr ⟨o, by rw [upd_ne hb]; exact q⟩
  · by_cases hb : b = a
    · subst hb
      rw [h] at q; cases q
      cases u <;> first | exact hw.elim | exact du.elim
    · rw [upd_ne hb]; exact q
theorem tab_chg {o o' : HO} (h : H a = some o) (n1 : isTbl o = false) (n2 : ∀ c q, o ≠ LamX.CodeO c q) {P : Addr} (t : TabL H P) : TabL (upd H a o') P := by
  obtain ⟨ps, h1, h2, h3⟩ := t
  have e1 : P ≠ a := fun z => by
    rw [z, h] at h1
    cases h1
    cases n1
  refine ⟨ps, by rw [upd_ne e1]; exact h1, h2, fun pos cv hc => ?_⟩
  obtain ⟨c, q1, q2⟩ := h3 pos cv hc
  refine ⟨c, q1, ?_⟩
  rw [upd_ne fun z => ?_]
  · exact q2
  · rw [z, h] at q2
    exact n2 _ _ (Option.some.inj q2)
theorem nn_chg {o o' : HO} (h : H a = some o) (n1 : isTbl o = false) {x : Addr × Bool} (t : NN H x) : NN (upd H a o') x := by
  obtain ⟨b, c⟩ := x
  cases c with
  | false =>
    show upd H a o' b ≠ none
    by_cases hb : b = a
    · subst hb; rw [upd_same]; simp
    · rw [upd_ne hb]; exact t
  | true =>
    obtain ⟨ps, t⟩ := t
    refine ⟨ps, ?_⟩
    rw [upd_ne fun z => ?_]
    · exact t
    · subst z
      have t' : H b = some (.tbl ps) := t
      rw [h] at t'
      cases t'
      cases n1
theorem Good.chg {o w : HO} (g : Good K γ Oc r σ H fs) (n : a ∉ fs ++ Oc) (h : H a = some o) (n1 : isTbl o = false) (n2 : ∀ c q, o ≠ LamX.CodeO c q) (st : Stab (fs ++ Oc) H (fs ++ Oc) (upd H a w)) : Good K γ Oc r σ (upd H a w) fs := by
  obtain ⟨⟨f1, f2, e, sl, tp⟩, nd, ow, tt⟩ := g
  have ne : ∀ b ∈ fs ++ Oc, b ≠ a := fun b z y => n (y ▸ z)
  refine ⟨⟨f1, f2, e, sl.stab ow st fun b z => upd_ne (ne b (by rw [e]; simp [z])), ?_⟩, nd, fun b z => ?_, tt.1, fun P hP => tab_chg h n1 n2 (tt.2 P hP)⟩
  · cases q : r.tp with
    | none => rw [q] at tp; exact tp
    | some t =>
      rw [q] at tp
      obtain ⟨b, e1, e2, e3⟩ := tp
      exact ⟨b, e1, by rw [upd_ne (ne b (by rw [e, e3]; simp))]; exact e2, e3⟩
  · obtain ⟨o', ho, l⟩ := ow b z
    exact ⟨o', by rw [upd_ne (ne b z)]; exact ho, l⟩
theorem do_code (du : IsDO u) : ∀ c q, u ≠ LamX.CodeO c q := fun c q e => by
  rw [e] at du; exact du
theorem do_tbl (du : IsDO u) : isTbl u = false := by
  cases u <;> first | rfl | exact du.elim
theorem frz_code : ∀ c q, (HO.frz od u) ≠ LamX.CodeO c q := fun c q e => by cases e
theorem Good.lock (g : Good K γ Oc r σ H fs) (n : a ∉ fs ++ Oc) (h : H a = some u) (du : IsDO u) : Good K γ Oc r σ (upd H a (.frz od u)) fs :=
  g.chg n h (do_tbl du) (do_code du) (lock_stab h du fun _ z => z)
theorem Good.unlock (g : Good K γ Oc r σ H fs) (n : a ∉ fs ++ Oc) (h : H a = some (.frz od u)) (du : IsDO u) : Good K γ Oc r σ (upd H a u) fs :=
  g.chg n h rfl frz_code (unlock_stab h du fun _ z => z)
/-- over the lock -/
theorem Evo.over (h : H a = some u) (du : IsDO u) (n : a ∉ fs) (ev : Evo fs (upd H a (.frz od u)) fs' H') : a ∉ fs' ∧ H' a = some (.frz od u) ∧ Evo fs H fs' (upd H' a u) := by
  have h1 : H' a = some (.frz od u) := ev.keep a _ upd_same n
  refine ⟨fun z => ?_, h1, ⟨fun b z => ?_, fun b o e nb ht => ?_, fun x q => ?_, fun P q => ?_⟩⟩
  · rcases ev.sub a z with z | z
    · exact n z
    · rw [upd_same] at z; cases z
  · rcases ev.sub b z with z | z
    · exact .inl z
    · by_cases hb : b = a
      · subst hb; rw [upd_same] at z; cases z
      · rw [upd_ne hb] at z; exact .inr z
  · by_cases hb : b = a
    · subst hb; rw [h] at e; cases e; exact upd_same
    · rw [upd_ne hb]; exact ev.keep b o (by rw [upd_ne hb]; exact e) nb ht
  · exact nn_chg h1 rfl (ev.there x (nn_chg h (do_tbl du) q))
  · exact tab_chg h1 rfl frz_code (ev.tb P (tab_chg h (do_tbl du) (do_code du) q))
theorem Stp.over {T : Option Addr} (h : H a = some u) (du : IsDO u) (n : a ∉ fs) (hT : T ≠ some a) (ev : Stp T fs (upd H a (.frz od u)) fs' H') : a ∉ fs' ∧ H' a = some (.frz od u) ∧ Stp T fs H fs' (upd H' a u) := by
  have h1 : H' a = some (.frz od u) := ev.keep a _ upd_same fun z => absurd z hT
  refine ⟨fun z => n (ev.sub a z), h1, ⟨ev.sub, fun b o e nb ht => ?_, fun x q => ?_, fun P q => ?_⟩⟩
  · by_cases hb : b = a
    · subst hb; rw [h] at e; cases e; exact upd_same
    · rw [upd_ne hb]; exact ev.keep b o (by rw [upd_ne hb]; exact e) nb ht
  · exact nn_chg h1 rfl (ev.there x (nn_chg h (do_tbl du) q))
  · exact tab_chg h1 rfl frz_code (ev.tb P (tab_chg h (do_tbl du) (do_code du) q))
theorem SVR.unlock {x : SV} {v : V} (ow : Own (fs ++ (fp ++ Oc)) H) (n : a ∉ fs ++ (fp ++ Oc)) (h : H a = some (.frz od u)) (du : IsDO u) (s : SVR K γ (fs ++ (fp ++ Oc)) H x v fp) : SVR K γ (fs ++ (fp ++ Oc)) (upd H a u) x v fp :=
  s.stab ow (unlock_stab h du fun _ z => z) fun b z => upd_ne fun y => n (by subst y; simp [z])
def kysD : List (D × D) → List D := List.map Prod.fst
/-- the turns over a locked dict -/
def YldsL (K : PySem.W.Frag) (a : Addr) (o : Obj) (u : HO) (J : It) (ds : List D) : Prop :=
  ∀ H, H a = some (.frz o u) → ∀ i, (i < ds.length → J.go i H ∧ ∀ x H2, J.yld i H x H2 → H2 = H ∧ ∀ O d, Own O H → ds[i]? = some d → R K O H d x) ∧ (i = ds.length → J.stop i H)
theorem RK.keyAt {O : List Addr} : ∀ {kvs : List (D × D)} {ws : List (Key × V)} {i : Nat} {d : D}, RK K O H kvs ws → (kysD kvs)[i]? = some d → ∃ c v, ws[i]? = some (c, v) ∧ d = kD c
  | [], ws, i, d, h, e => by simp [kysD] at e
  | (k, d') :: kvs, ws, 0, d, h, e => by
    simp only [RK] at h
    obtain ⟨c, v, ws', e1, e2, _, _⟩ := h
    simp [kysD] at e
    subst e
    exact ⟨c, v, by rw [e1]; rfl, e2⟩
  | (k, d') :: kvs, ws, i + 1, d, h, e => by
    simp only [RK] at h
    obtain ⟨c, v, ws', e1, e2, _, h⟩ := h
    obtain ⟨c', v', q1, q2⟩ := RK.keyAt (i := i) h (by simpa [kysD] using e)
    exact ⟨c', v', by rw [e1]; simpa using q1, q2⟩
theorem RT.keyAt {O : List Addr} : ∀ {kvs : List (D × D)} {ws : List (List Key × V)} {i : Nat} {d : D}, RT K O H kvs ws → (kysD kvs)[i]? = some d → ∃ c v, ws[i]? = some (c, v) ∧ d = .tuple (c.map kD)
  | [], ws, i, d, h, e => by simp [kysD] at e
  | (k, d') :: kvs, ws, 0, d, h, e => by
    simp only [RT] at h
    obtain ⟨c, v, ws', e1, e2, _, _⟩ := h
    simp [kysD] at e
    subst e
    exact ⟨c, v, by rw [e1]; rfl, e2⟩
  | (k, d') :: kvs, ws, i + 1, d, h, e => by
    simp only [RT] at h
    obtain ⟨c, v, ws', e1, e2, _, h⟩ := h
    obtain ⟨c', v', q1, q2⟩ := RT.keyAt (i := i) h (by simpa [kysD] using e)
    exact ⟨c', v', by rw [e1]; simpa using q1, q2⟩
theorem RK.klen {O : List Addr} : ∀ {kvs : List (D × D)} {ws : List (Key × V)}, RK K O H kvs ws → ws.length = (kysD kvs).length
  | [], ws, h => by simp only [RK] at h; rw [h]; rfl
  | (k, d) :: kvs, ws, h => by
    simp only [RK] at h
    obtain ⟨c, v, ws', e1, _, _, h⟩ := h
    rw [e1, List.length_cons, h.klen]; rfl
theorem RT.klen {O : List Addr} : ∀ {kvs : List (D × D)} {ws : List (List Key × V)}, RT K O H kvs ws → ws.length = (kysD kvs).length
  | [], ws, h => by simp only [RT] at h; rw [h]; rfl
  | (k, d) :: kvs, ws, h => by
    simp only [RT] at h
    obtain ⟨c, v, ws', e1, _, _, h⟩ := h
    rw [e1, List.length_cons, h.klen]; rfl
theorem R_kV {O : List Addr} (c : Key) : R K O H (kD c) (kV c) := by
  cases c with
  | inl i => simp [kD, kV, R]
  | inr x => simp [kD, kV, R]
theorem Rs_kVs {O : List Addr} : ∀ cs : List Key, Rs K O H (cs.map kD) (cs.map kV)
  | [] => by simp [Rs]
  | c :: cs => by
    simp only [Rs, List.map_cons]
    exact ⟨_, _, rfl, R_kV c, Rs_kVs cs⟩
theorem ylds_itk {O : List Addr} {o : Obj} {kvs : List (D × D)} {ws : List (Key × V)} (h : RK K O H' kvs ws) : YldsL K a o (.dK ws) (Itk a o ws) (kysD kvs) := fun H hd i => by
  have hl := h.klen
  refine ⟨fun hi => ⟨⟨hd, by omega⟩, fun x H2 ⟨eH, k, v, hk, ex⟩ => ⟨eH, fun O' d _ hdi => ?_⟩⟩, fun hi => ⟨hd, by omega⟩⟩
  obtain ⟨c, v', q1, q2⟩ := h.keyAt hdi
  rw [hk] at q1; cases q1
  rw [ex, q2]
  exact R_kV _
theorem ylds_itkt {O : List Addr} {o : Obj} {kvs : List (D × D)} {ws : List (List Key × V)} (h : RT K O H' kvs ws) : YldsL K a o (.dT ws) (Itkt a o ws) (kysD kvs) := fun H hd i => by
  have hl := h.klen
  refine ⟨fun hi => ⟨⟨hd, by omega⟩, fun x H2 ⟨eH, k, v, q, hk, ex, hq⟩ => ⟨eH, fun O' d ow hdi => ?_⟩⟩, fun hi => ⟨hd, by omega⟩⟩
  obtain ⟨c, v', q1, q2⟩ := h.keyAt hdi
  rw [hk] at q1; cases q1
  rw [ex, q2]
  simp only [R]
  exact ⟨q, _, rfl, hq, Rs_kVs _⟩
end
end QL
namespace QL
open PySem PySem.Spec L2
section
variable {X : Cx} {W : WX} {e tg : Expr} {st : Stmt} {B : S → RS} {t : TS} {gt : TG} {pos : Pos} {GF : D → S → Option S}
theorem pe_orE {t1 t2 : TE} (h1 : PE X e t1) (h2 : PE X e t2) : PE X e (fun σ H Q => t1 σ H Q ∨ t2 σ H Q) :=
  ⟨fun pins s σ H Q I h => h.elim (h1.run pins s σ H Q I) (h2.run pins s σ H Q I)⟩
/-- the keys of the dict in a slot -/
def fDk (i : Nat) : S → Res (List D) := fun r => (fV i r).bind fun d r => match d with
  | .dict kvs => bif isOb kvs then .bad else .ok (kysD kvs) r
  | _ => .bad
/-- nothing is raised -/
def RS.still : RS → RS
  | .exc _ _ _ => .bad
  | x => x
def sForK (i : Nat) (G : D → S → Option S) (B : S → RS) : S → RS := fun r => (fDk i r).bindS fun ds r => (forF G B ds r).still
end
def LcW (J : It) (g : TG) (tt : TT) (te : TE) (vs : List Nat) (σ : St) (H1 : Hp) (Q : VK) : Prop := ∀ D, H1 D = none → ∃ W : Nat → Nat → Hp → Prop, (∃ m, W 0 m (upd H1 D (.lst []))) ∧ ∀ i m H, W i m H →
    (J.stop i H ∧ Q (.ref D) H) ∨ (J.go i H ∧ ∃ Nx : Hp → Prop, (∀ H', Nx H' → ∃ m', m' < m ∧ W (i + 1) m' H') ∧ ∀ x H', J.yld i H x H' → g x (L2.wipe σ vs) H' fun σ2 H2 => L2.wipe σ2 vs = L2.wipe σ vs ∧ tt σ2 H2 fun b H3 =>
      if b = true then te σ2 H3 fun y H4 => ∃ acc, H4 D = some (.lst acc) ∧ acc.length < sizeLine ∧ Nx (upd H4 D (.lst (acc ++ [y]))) else Nx H3)
theorem lcK_core {K : PySem.W.Frag} {mg : Str → Option Value} {γ : Gh} {Oc fs1 : List Addr} {r1 rE : S} {σ : St} {H1 : Hp} {a : Addr} {o : Obj} {u : HO} {J : It} {ds accE : List D} {g : TG} {tt : TT} {te : TE} {vs : List Nat} {G : D → S → Option S} {T : S → Res Bool} {F : S → Res D} {Q : VK}
    (hg : ∀ γ Oc r σ H fs d v r', Good K γ Oc r σ H fs → R K (fs ++ Oc) H d v → G d r = some r' → ∀ Q, (∀ σ' fs', Good K γ Oc r' σ' H fs' → (∀ a ∈ fs', a ∈ fs) → Q σ' H) → g v σ H Q) (hw : GWipe vs g)
    (ht : Sim K mg WN (PTt K) tt T) (he : Sim K mg WN (PF K) te F)
    (g1 : Good K γ Oc r1 σ H1 fs1) (hd : H1 a = some (.frz o u)) (hT : γ.T ≠ some a) (yl : YldsL K a o u J ds) (eL : lcF vs G T F ds [] { r1 with sl := wipeS vs r1.sl } = .ok accE rE)
    (hq : ∀ y H', PV K γ Oc { rE with sl := restS vs r1.sl rE.sl } σ H1 fs1 H' (.ol accE) y → Q y H') : LcW J g tt te vs σ H1 Q := by
  obtain ⟨slE, eslE⟩ := lcF_wiped _ _ _ _ _ ⟨_, rfl⟩ eL
  intro p hp
  have k0 := upd_kept (o := .lst []) hp
  obtain ⟨fw, gw, sw⟩ := g1.wipe vs
  have gw1 : Good K γ ([p] ++ Oc) { r1 with sl := wipeS vs r1.sl } (L2.wipe σ vs) (upd H1 p (.lst [])) fw := gw.grow k0 (by simpa using hp) (by simp) (by simp [Own, upd_same, LD])
  refine ⟨fun i m H => m = ds.length - i ∧ i ≤ ds.length ∧ ∃ r fs acc us, Good K γ ([p] ++ Oc) r (L2.wipe σ vs) H fs ∧ H p = some (.lst us) ∧ Rs K (fs ++ ([p] ++ Oc)) H acc us ∧ Stp γ.T fs1 H1 fs H ∧ lcF vs G T F (ds.drop i) acc r = .ok accE rE,
    ⟨ds.length, rfl, Nat.zero_le _, _, fw, [], [], gw1, upd_same, by simp [Rs], ⟨sw, fun a o e _ _ => k0 a o e, (SameT.of k0).th, (SameT.of k0).tb⟩, by simpa using eL⟩, ?_⟩
  rintro i m H ⟨rfl, hil, r, fs, acc, us, g, hD, racc, st, eF⟩
  have stab : Stab (fs1 ++ Oc) H1 (fs ++ ([p] ++ Oc)) H := fun a n e => by
    have nf : a ∉ fs1 := fun z => n (List.mem_append_left _ z)
    have np : a ≠ p := fun z => e (z ▸ hp)
    refine ⟨fun z => ?_, fun u hu q => ?_, fun u hu q => st.keep a _ q (fun _ => nf) hu.nt⟩
    · simp only [List.mem_append, List.mem_singleton] at z
      rcases z with z | z | z
      · exact nf (st.sub a z)
      · exact np z
      · exact n (List.mem_append_right _ z)
    · rcases q with q | ⟨o, q⟩
      · exact .inl (st.keep a _ q (fun _ => nf) hu.nt)
      · exact .inr ⟨o, st.keep a _ q fun _ => nf⟩
  obtain ⟨go, stop⟩ := yl H (st.keep a _ hd fun z => absurd z hT) i
  by_cases hlt : i < ds.length
  · obtain ⟨hgo, hy⟩ := go hlt
    rw [List.drop_eq_getElem_cons hlt] at eF
    refine .inr ⟨hgo, fun H' => ∃ r' fs' acc' us', Good K γ ([p] ++ Oc) r' (L2.wipe σ vs) H' fs' ∧ H' p = some (.lst us') ∧ Rs K (fs' ++ ([p] ++ Oc)) H' acc' us' ∧ Stp γ.T fs1 H1 fs' H' ∧ lcF vs G T F (ds.drop (i + 1)) acc' r' = .ok accE rE, fun H' h => ⟨ds.length - (i + 1), by omega, rfl, hlt, h⟩, fun x H2 y => ?_⟩
    obtain ⟨eH, hx⟩ := hy x H2 y
    subst eH
    have rx := hx _ ds[i] g.ow (List.getElem?_eq_getElem hlt)
    unfold lcF at eF
    cases eG : G ds[i] r with
    | none => rw [eG] at eF; cases eF
    | some r3 =>
      rw [eG] at eF
      dsimp only at eF
      refine hw.mono _ _ _ _ _ (fun σ2 H3 hh => ?_) (hw.own _ _ _ _ (hg γ ([p] ++ Oc) r (L2.wipe σ vs) H2 fs ds[i] x r3 g rx eG (fun σ' H3 => ∃ fs', Good K γ ([p] ++ Oc) r3 σ' H3 fs' ∧ (∀ a ∈ fs', a ∈ fs) ∧ H3 = H2) fun σ' fs' g' sub => ⟨fs', g', sub, rfl⟩))
      obtain ⟨⟨fs3, g3, sub3, eH⟩, ew⟩ := hh
      subst eH
      rw [wipe_wipe] at ew
      refine ⟨ew, ?_⟩
      have st3 : Stp γ.T fs1 H1 fs3 H3 := ⟨fun a z => st.sub a (sub3 a z), @Stp.keep _ _ _ _ _ st, st.there, st.tb⟩
      have racc3 : Rs K (fs3 ++ ([p] ++ Oc)) H3 acc us := Rs.stab g.ow (Stab.weak (fun a z => by
        rcases List.mem_append.mp z with z | z
        · exact List.mem_append_left _ (sub3 a z)
        · exact List.mem_append_right _ z) fun _ _ z => z) _ _ racc
      have hD3 : H3 p = some (.lst us) := hD
      have ztt := ht γ ([p] ++ Oc) r3 σ2 H3 fs3 g3
      have keepP : ∀ {fa fb : List Addr} {Ha Hb : Hp} {ra : S} {σa : St}, Good K γ ([p] ++ Oc) ra σa Ha fa → Stp γ.T fa Ha fb Hb → Ha p = some (.lst us) → Hb p = some (.lst us) := fun ga sa e => by
        rw [ga.tmp (fp := [p]) sa p (by simp)]
        exact e
      cases eT : T r3 with
      | exc _ _ _ => rw [eT] at eF; cases eF
      | bad => rw [eT] at eF; cases eF
      | ok b r4 =>
        rw [eT] at eF ztt
        refine ztt _ fun c H4 ⟨fs4, g4, ec, s4⟩ => ?_
        subst ec
        have racc4 : Rs K (fs4 ++ ([p] ++ Oc)) H4 acc us := Rs.stab g3.ow (g3.stabSub s4) _ _ racc3
        have hD4 := keepP g3 s4 hD3
        have st4 := st3.trans s4
        cases c with
        | false =>
          rw [if_neg (by simp)]
          obtain ⟨fs5, g5, sub5⟩ := g4.wipe vs
          rw [ew] at g5
          refine ⟨_, fs5, acc, us, g5, hD4, Rs.stab g4.ow (Stab.weak (fun a z => ?_) fun _ _ z => z) _ _ racc4, ⟨fun a z => st4.sub a (sub5 a z), @Stp.keep _ _ _ _ _ st4, st4.there, st4.tb⟩, eF⟩
          rcases List.mem_append.mp z with z | z
          · exact List.mem_append_left _ (sub5 a z)
          · exact List.mem_append_right _ z
        | true =>
          rw [if_pos rfl]
          dsimp only at eF
          have zee := he γ ([p] ++ Oc) r4 σ2 H4 fs4 g4
          cases eE : F r4 with
          | exc _ _ _ => rw [eE] at eF; cases eF
          | bad => rw [eE] at eF; cases eF
          | ok y r5 =>
            rw [eE] at eF zee
            dsimp only at eF
            split at eF
            · rename_i hsz
              refine zee _ fun u H5 ⟨fs5, g5, ry, s5⟩ => ?_
              have racc5 : Rs K (fs5 ++ ([p] ++ Oc)) H5 acc us := Rs.stab g4.ow (g4.stabSub s5) _ _ racc4
              have hD5 := keepP g4 s5 hD4
              have st5 := st4.trans s5
              refine ⟨us, hD5, by rw [racc5.len]; exact hsz, ?_⟩
              obtain ⟨g6, stb6, np6⟩ := g5.setTmp (vs := us ++ [u])
              have rall : Rs K (fs5 ++ ([p] ++ Oc)) H5 (acc ++ [y]) (us ++ [u]) := racc5.app (by simp only [Rs]; exact ⟨u, [], rfl, ry, rfl⟩)
              have rall6 := Rs.stab g5.ow stb6 _ _ rall
              obtain ⟨fs7, g7, sub7⟩ := g6.wipe vs
              rw [ew] at g7
              refine ⟨_, fs7, acc ++ [y], us ++ [u], g7, upd_same, Rs.stab g6.ow (Stab.weak (fun a z => ?_) fun _ _ z => z) _ _ rall6, ⟨fun a z => st5.sub a (sub7 a z), fun a o e n ht => ?_, fun a e => ?_, fun P h => tabs_upd hD5 trivial (st5.tb P h)⟩, eF⟩
              · rcases List.mem_append.mp z with z | z
                · exact List.mem_append_left _ (sub7 a z)
                · exact List.mem_append_right _ z
              · have np : a ≠ p := fun z => by rw [z, hp] at e; cases e
                rw [upd_ne np]
                exact st5.keep a o e n ht
              · exact nn_upd hD5 rfl (st5.there a e)
            · cases eF
  · have e : ds.drop i = [] := List.drop_eq_nil_of_le (by omega)
    rw [e] at eF
    unfold lcF at eF
    cases eF
    refine .inl ⟨stop (by omega), hq _ _ ?_⟩
    have gu := g.unwipe eslE
    have old : Old K (fs ++ ([p] ++ Oc)) H σ r1.sl := fun j d hd => by
      obtain ⟨u, hu, ru⟩ := g1.old j d hd
      exact ⟨u, hu, R.stab g1.ow stab _ _ ru⟩
    obtain ⟨fs9, g9, sub9⟩ := gu.rest old vs
    refine ⟨fs9, [p], g9, ⟨p, us, rfl, hD, Rs.stab g.ow (Stab.weak (fun a z => ?_) fun _ _ z => z) _ _ racc, rfl⟩, ⟨fun a z => st.sub a (sub9 a z), @Stp.keep _ _ _ _ _ st, st.there, st.tb⟩, by simpa using hp⟩
    rcases List.mem_append.mp z with z | z
    · exact List.mem_append_left _ (sub9 a z)
    · exact List.mem_append_right _ z
theorem sim_lcK {K : PySem.W.Frag} {mg : Str → Option Value} {W : WX} {i : Nat} {g : TG} {tt : TT} {te : TE} {vs : List Nat} {G : D → S → Option S} {T : S → Res Bool} {F : S → Res D}
    (hg : ∀ γ Oc r σ H fs d v r', Good K γ Oc r σ H fs → R K (fs ++ Oc) H d v → G d r = some r' → ∀ Q, (∀ σ' fs', Good K γ Oc r' σ' H fs' → (∀ a ∈ fs', a ∈ fs) → Q σ' H) → g v σ H Q) (hw : GWipe vs g)
    (ht : Sim K mg WN (PTt K) tt T) (he : Sim K mg WN (PF K) te F) : Sim K mg W (PV K) (fun σ H Q => tLockE (tLc (iKeys (tVar i)) g tt te vs) σ H Q ∨ tLc (iKeys (tVar i)) g tt te vs σ H Q) (fLc vs (fDk i) G T F) := by
  intro γ Oc r σ H fs g0
  unfold fLc fDk fV
  cases q : r.sl[i]? with
  | none => exact fun Q => trivial
  | some x' =>
    cases x' with
    | none => exact fun Q => trivial
    | some x =>
      unfold asD
      dsimp only
      cases e : x.view with
      | none => exact fun Q => trivial
      | some d =>
        obtain ⟨v, fs', h1, sub, g', rv⟩ := g0.freeze q e
        have s0 : Stp γ.T fs H fs' H := ⟨sub, fun _ _ z _ _ => z, fun _ z => z, fun _ z => z⟩
        refine SimAt.tr s0 ?_
        cases d with
        | dict kvs =>
          simp only [R] at rv
          obtain ⟨a, ev', na, hh⟩ := rv
          subst ev'
          have na1 : a ∉ fs' := fun z => na (List.mem_append_left _ z)
          have na2 : a ∉ Oc := fun z => na (List.mem_append_right _ z)
          have nT : γ.T ≠ some a := fun z => na1 (g'.tape z).1
          cases hob : isOb kvs with
          | true => simp only [Res.bind, hob, cond_true]; exact fun Q => trivial
          | false =>
          simp only [Res.bind, hob, cond_false]
          show SimAt K mg W (PV K) γ Oc σ H fs' _ (match lcF vs G T F (kysD kvs) [] { sl := wipeS vs (r.sl.set i (some (.fz (.dict kvs)))), tp := r.tp } with
            | .ok acc r' => Res.ok (SV.ol acc) { r' with sl := restS vs (r.sl.set i (some (.fz (.dict kvs)))) r'.sl }
            | _ => Res.bad)
          cases eL : lcF vs G T F (kysD kvs) [] { sl := wipeS vs (r.sl.set i (some (.fz (.dict kvs)))), tp := r.tp } with
          | exc _ _ _ => exact fun Q => trivial
          | bad => exact fun Q => trivial
          | ok accE rE =>
            intro Q hq
            have fin : ∀ {u : HO} {od : Obj}, H a = some u → IsDO u → ∀ y H', PV K γ Oc { rE with sl := restS vs (r.sl.set i (some (.fz (.dict kvs)))) rE.sl } σ (upd H a (.frz od u)) fs' H' (.ol accE) y → H' a = some (.frz od u) ∧ Q y (upd H' a u) := by
              rintro u od hu du y H' ⟨f2, fp, g2, s2, st2, n2⟩
              obtain ⟨n', k1, st'⟩ := st2.over hu du na1 nT
              have nn : a ∉ f2 ++ (fp ++ Oc) := fun z => by
                simp only [List.mem_append] at z
                rcases z with z | z | z
                · exact n' z
                · have := n2 a z; rw [upd_same] at this; cases this
                · exact na2 z
              refine ⟨k1, hq _ _ ⟨f2, fp, g2.unlock nn k1 du, s2.unlock g2.ow nn k1 du, st', fun b hb => ?_⟩⟩
              have := n2 b hb
              by_cases hba : b = a
              · subst hba; rw [upd_same] at this; cases this
              · rw [upd_ne hba] at this; exact this
            rcases hh with ⟨ws, q1, q2⟩ | ⟨ws, q1, q2⟩ | hh
            rotate_left 2
            · exact noOb hob hh
            · rcases q1 with q1 | ⟨o, q1⟩
              · exact .inl ⟨a, _, q1, trivial, fun od => ⟨.ref a, h1, a, od, rfl, .inl ⟨ws, upd_same, lcK_core hg hw ht he (g'.lock na q1 trivial) upd_same nT (ylds_itk q2) eL (fin q1 trivial)⟩⟩⟩
              · exact .inr ⟨.ref a, h1, a, o, rfl, .inl ⟨ws, q1, lcK_core hg hw ht he g' q1 nT (ylds_itk q2) eL hq⟩⟩
            · rcases q1 with q1 | ⟨o, q1⟩
              · exact .inl ⟨a, _, q1, trivial, fun od => ⟨.ref a, h1, a, od, rfl, .inr ⟨ws, upd_same, lcK_core hg hw ht he (g'.lock na q1 trivial) upd_same nT (ylds_itkt q2) eL (fin q1 trivial)⟩⟩⟩
              · exact .inr ⟨.ref a, h1, a, o, rfl, .inr ⟨ws, q1, lcK_core hg hw ht he g' q1 nT (ylds_itkt q2) eL hq⟩⟩
        | _ => exact fun Q => trivial
section
variable {X : Cx} {W : WX} {e elt tg iter : Expr} {ifs : List Expr} {scope : Scope} {own : List (Str × Nat)} {pos : Pos} {g : TG} {tt : TT} {te : TE} {G : D → S → Option S} {T : S → Res Bool} {FF : S → Res D} {i : Nat}
theorem ex_lcK (hc : X.calm = true) (hN : X.N.Nodup) (ok : BlkOk X.N X.env.scope scope own) (hv : PE X iter (tVar i)) (hw : GWipe (own.map (·.2)) g)
    (hg : ∀ (s : Shared) (H : Hp) (C : Addr) (cl : List (Str × Addr)) (fp : List Addr), GX (X.blk s H scope (compEnvC scope cl C X.env) fp) tg g G)
    (ht : ∀ (s : Shared) (H : Hp) (C : Addr) (cl : List (Str × Addr)) (fp : List Addr), TsX (X.blk s H scope (compEnvC scope cl C X.env) fp) WN ifs tt T)
    (he : ∀ (s : Shared) (H : Hp) (C : Addr) (cl : List (Str × Addr)) (fp : List Addr), FX (X.blk s H scope (compEnvC scope cl C X.env) fp) WN elt te FF) (hs : ∀ x, foldedSetIterable iter X.env x = pure x := by intro _; rfl) :
    EX X W (.ListComp elt [⟨tg, iter, ifs, 0⟩] scope pos) (fun σ H Q => tLockE (tLc (iKeys (tVar i)) g tt te (own.map (·.2))) σ H Q ∨ tLc (iKeys (tVar i)) g tt te (own.map (·.2)) σ H Q) (fLc (own.map (·.2)) (fDk i) G T FF) := by
  have p := pe_lc (pos := pos) hc hN (pi_keys (tg := tg) hv) ok (fun s H C cl fp => (hg s H C cl fp).pg) (fun s H C cl fp => (ht s H C cl fp).pe) (fun s H C cl fp => (he s H C cl fp).pe) hs
  exact ⟨pe_orE (pe_lock p) p, sim_lcK (hg X.s_0 X.H_0 0 [] []).sim hw (ht X.s_0 X.H_0 0 [] []).sim (he X.s_0 X.H_0 0 [] []).sim⟩
end
end QL
namespace QL
open PySem PySem.Spec L2
def lookF (f : Str) : List (D × D) → Option D
  | [] => none
  | (.str x, d) :: r => if f = x then some d else lookF f r
  | _ :: r => lookF f r
def putFD (f : Str) (d : D) : List (D × D) → List (D × D)
  | [] => [(.str f, d)]
  | (.str x, e) :: r => if x = f then (.str x, d) :: r else (.str x, e) :: putFD f d r
  | p :: r => p :: putFD f d r
section
variable {K : PySem.W.Frag} {O : List Addr} {H : Hp}
theorem RF.put {f : Str} {d : D} {v : V} (hd : R K O H d v) : ∀ {fs : List (D × D)} {ws : List (Str × V)}, RF K O H fs ws → RF K O H (putFD f d fs) (putF f v ws)
  | [], ws, h => by
    simp only [RF] at h; subst h
    simp only [putFD, putF, RF]
    exact ⟨f, v, [], rfl, rfl, hd, rfl⟩
  | (k, e) :: r, ws, h => by
    simp only [RF] at h
    obtain ⟨x, u, ws', e1, ek, h1, h2⟩ := h
    subst e1 ek
    by_cases q : f = x
    · subst q
      simp only [putFD, putF, if_pos, RF]
      exact ⟨f, v, ws', rfl, rfl, hd, h2⟩
    · have ih := RF.put (f := f) hd h2
      simp only [putFD, putF, if_neg (Ne.symm q), RF]
      exact ⟨x, u, _, rfl, rfl, h1, ih⟩
theorem RF.len : ∀ {fs : List (D × D)} {ws : List (Str × V)}, RF K O H fs ws → ws.length = fs.length
  | [], ws, h => by simp only [RF] at h; subst h; rfl
  | (k, d) :: r, ws, h => by
    simp only [RF] at h
    obtain ⟨x, v, ws', e, ek, h1, h2⟩ := h
    subst e
    simp [RF.len h2]
end
theorem ObC.uniq {K : PySem.W.Frag} {c : Str} {C C' : Addr} (h : ObC K c C) (h' : PySem.W.nsIn K mainGlobals c = some (some (.ref C'))) : C = C' := by
  have := h.ns.symm.trans h'
  cases this
  rfl
/-- the fields of an object of a class -/
def fldsOf (c : Str) : D → Option (List (D × D))
  | .dict ((.list _, .str c') :: fs) => if c' = c then some fs else none
  | _ => none
theorem fldsOf_eq {c : Str} {d : D} {fs : List (D × D)} (h : fldsOf c d = some fs) : ∃ l, d = .dict ((.list l, .str c) :: fs) := by
  unfold fldsOf at h
  split at h
  · rename_i l c' fs'
    split at h
    · rename_i e
      subst e
      cases h
      exact ⟨l, rfl⟩
    · cases h
  · cases h
theorem kD_list {c : Key} {l : List D} : ¬ ((PyData.list l : D) = kD c) := by cases c <;> (intro h; cases h)
theorem RE.ob {K : PySem.W.Frag} {γ : Gh} {O : List Addr} {H : Hp} {c : Str} {d : D} {v : V} {fs : List (D × D)} (h : RE K γ O H d v) (e : fldsOf c d = some fs) :
    ∃ a C dx ws, v = .ref a ∧ H a = some (.ins C dx ws) ∧ ObC K c C ∧ RF K O H fs ws := by
  obtain ⟨l, rfl⟩ := fldsOf_eq e
  obtain ⟨a, e1, _, h⟩ := h
  rcases h with ⟨ws, _, h⟩ | ⟨ws, _, h⟩ | ⟨C, dx, ws, q, h⟩
  · simp only [RK] at h
    obtain ⟨k, _, _, _, z, _⟩ := h
    exact absurd z kD_list
  · simp only [RT] at h
    obtain ⟨k, _, _, _, z, _⟩ := h
    cases z
  · simp only [RO'] at h
    obtain ⟨_, ⟨c', z, oc⟩, rf⟩ := h
    cases z
    exact ⟨a, C, dx, ws, e1, q, oc, rf⟩
theorem R.ob {K : PySem.W.Frag} {O : List Addr} {H : Hp} {c : Str} {d : D} {v : V} {fs : List (D × D)} (h : R K O H d v) (e : fldsOf c d = some fs) :
    ∃ a C dx ws, v = .ref a ∧ a ∉ O ∧ H a = some (.ins C dx ws) ∧ ObC K c C ∧ RF K O H fs ws := by
  obtain ⟨l, rfl⟩ := fldsOf_eq e
  simp only [R] at h
  obtain ⟨a, e1, n, h⟩ := h
  rcases h with ⟨ws, _, h⟩ | ⟨ws, _, h⟩ | ⟨C, dx, ws, q, h⟩
  · simp only [RK] at h
    obtain ⟨k, _, _, _, z, _⟩ := h
    exact absurd z kD_list
  · simp only [RT] at h
    obtain ⟨k, _, _, _, z, _⟩ := h
    cases z
  · simp only [RO'] at h
    obtain ⟨_, ⟨c', z, oc⟩, rf⟩ := h
    cases z
    exact ⟨a, C, dx, ws, e1, n, q, oc, rf⟩
/-- x.f -/
def dFld (c f : Str) : D → Option OV := fun d => match fldsOf c d with
  | some fs => (lookF f fs).map .fz
  | none => none
section
variable {X : Cx} {W : WX} {e : Expr} {ta : TE} {fa : S → Res D} {f c : Str} {pos pos' : Pos} {i : Nat}
/-- self.f = e -/
def sFst (c : Str) (i : Nat) (f : Str) (FA : S → Res D) : S → RS := fun r => (FA r).bindS fun d r => match r.sl[i]? with
  | some (some (.ob c' fs)) => if c' = c ∧ fs.length < 1000 then RS.nx { r with sl := r.sl.set i (some (.ob c' (putFD f d fs))) } else RS.bad
  | _ => RS.bad
end
/-- what an __init__ does: the fields at its end -/
def outI (R : RS) : FR := match R with
  | .nx r => match r.sl[0]? with
    | some (some (SV.ob c fs)) => .ok (.ob c fs) none
    | _ => .bad
  | .exc c f r => .exc c f r.tp
  | _ => .bad
def bodyI (n : Nat) (c : Str) (B : S → RS) (ds : List D) : FR := outI (B (mkS n (.ob c [] :: ds.map .fz) none))
/-- the contract of an __init__: the object first, without fields -/
def spI (K : PySem.W.Frag) (mg : Str → Option Value) (n : Nat) (c : Str) (F : List D → FR) : Sp := fun vs H Q E => ∃ (x C dx : Addr) (vs' : List V) (ds : List D) (O : List Addr), vs = .ref x :: vs' ∧ vs'.length = n ∧ H x = some (.ins C dx []) ∧ ObC K c C ∧
  Own O H ∧ (x :: O).Nodup ∧ Rs K (x :: O) H ds vs' ∧ match F ds with
  | .ok (.ob c' fs) _ => ∀ H' C' dx' ws, SameU x H H' → H' x = some (.ins C' dx' ws) → ObC K c' C' → RF K O H' fs ws → Q .non H'
  | .exc c f _ => ∀ C d H', SameU x H H' → mg c = some (.ref C) → XR K O H' f d → E (.ref C) d H'
  | _ => False
end QL
namespace QL
open PySem PySem.Spec L2
/-- the data of what is made -/
def mkO (F : List D → FR) : List D → FR := fun ds => match F ds with
  | .ok (.ob c fs) tp => .ok (.fz (obD c fs)) tp
  | .exc c f tp => .exc c f tp
  | _ => .bad
end QL
namespace PySem.W
open PySem PySem.Calls PyProof.Rows
end PySem.W
namespace QL
open PySem PySem.Spec L2
def aMeth (c m : Str) (FO : S → Res D) (FL : S → Res (List D)) : S → Res (List D) := fun r => (FO r).bind fun d r => match fldsOf c d with
  | some fs => bif (lookF m fs).isNone then (FL r).bind fun ds r => .ok (d :: ds) r else .bad
  | none => .bad
def aOwn (c : Str) (q : D → Bool) (FA FB : S → Res D) : S → Res (List D) := fun r => (FA r).bind fun d r => (FB r).bind fun e r => bif (fldsOf c d).isSome && q e then .ok [d, e] r else .bad
def qOb (c : Str) : D → Bool := fun d => (fldsOf c d).isSome
def qInt : D → Bool
  | .int _ => true
  | _ => false
end QL
namespace QL
open PySem PySem.Spec L2
def dIsC (c : Str) : D → Option OV := fun d => bif (fldsOf c d).isSome then some (.fz (.bool true)) else none
end QL
namespace QL
open PySem PySem.Spec L2
end QL
namespace QL
open PySem PySem.Spec L2
def lc2F (vs vs1 : List Nat) (G : D → S → Option S) (T : S → Res Bool) (I1 : S → Res (List D)) (G1 : D → S → Option S) (T1 : S → Res Bool) (F : S → Res D) : List D → List D → S → Res (List D)
  | [], acc, r => .ok acc r
  | d :: ds, acc, r => match G d r with
    | none => .bad
    | some r => match T r with
      | .ok true r => match I1 r with
        | .ok es r => match lcF vs1 G1 T1 F es acc { r with sl := wipeS vs1 r.sl } with
          | .ok acc r => lc2F vs vs1 G T I1 G1 T1 F ds acc { r with sl := wipeS vs r.sl }
          | _ => .bad
        | _ => .bad
      | .ok false r => lc2F vs vs1 G T I1 G1 T1 F ds acc { r with sl := wipeS vs r.sl }
      | _ => .bad
def fLc2 (vs vs1 : List Nat) (I : S → Res (List D)) (G : D → S → Option S) (T : S → Res Bool) (I1 : S → Res (List D)) (G1 : D → S → Option S) (T1 : S → Res Bool) (F : S → Res D) : S → Res SV := fun r => (I r).bind fun ds r => match lc2F vs vs1 G T I1 G1 T1 F ds [] { r with sl := wipeS vs r.sl } with
  | .ok acc r' => Res.ok (SV.ol acc) { r' with sl := restS vs r.sl r'.sl }
  | _ => Res.bad
end QL
namespace QL
open PySem PySem.Spec PyProof.Rows L2
/-- an object of the class, or none at all -/
def qAny (c : Str) : D → Bool := fun d => (fldsOf c d).isSome || (match d with
  | .dict kvs => !isOb kvs
  | _ => true)
section
variable {X : Cx} {k n : Nat} {f C : Addr} {fd : FuncData} {ps : List Str} {sp : Sp} {x c m : Str} {p apos pos : Pos} {o e a b : Expr} {es : List Expr} {ta tb : TE} {t tl : TA} {W : WX} {F : List D → FR} {FL : S → Res (List D)} {FO FA FB : S → Res D}
/-- the answer of a call, turned -/
def fNeg (G : S → Res SV) : S → Res SV := fun r => (G r).bind fun x r => match x with
  | .fz (.bool b) => .ok (.fz (.bool (!b))) r
  | _ => .bad
end
end QL
namespace QL
open PySem PySem.Spec L2
end QL
namespace QL
open PySem PySem.Spec L2
/-- the pairs of a list -/
def prOf : D → Option (D × D)
  | .tuple [k, v] => some (k, v)
  | _ => none
theorem prOf_eq {d : D} {p : D × D} (h : prOf d = some p) : d = .tuple [p.1, p.2] := by
  unfold prOf at h
  split at h
  · cases h; rfl
  · cases h
def prsKV : List D → Option (List (D × D))
  | [] => some []
  | d :: r => match prOf d, prsKV r with
    | some p, some ps => some (p :: ps)
    | _, _ => none
theorem Rs.prs {K : PySem.W.Frag} {O : List Addr} {H : Hp} : ∀ {ds : List D} {vs : List V} {ps : List (D × D)}, Rs K O H ds vs → prsKV ds = some ps →
    ∃ (as : List Addr) (xys : List (V × V)), vs = as.map V.ref ∧ RPs K O H ps xys ∧ Paired (fun a xy => H a = some (.tup [xy.1, xy.2])) as xys ∧ ps.length = ds.length
  | [], vs, ps, h, e => by
    cases e
    simp only [Rs] at h
    exact ⟨[], [], h, rfl, .nil, rfl⟩
  | d :: r, vs, ps, h, e => by
    unfold prsKV at e
    split at e
    · rename_i p qs ep e1
      cases e
      rw [prOf_eq ep] at h
      simp only [Rs, R] at h
      obtain ⟨u, ws, e3, ⟨a, us, e4, ht, x, us1, e5, hx, y, us2, e6, hy, e7⟩, h⟩ := h
      subst e7 e6 e5 e4 e3
      obtain ⟨as, xys, q1, q2, q3, q4⟩ := Rs.prs h e1
      exact ⟨a :: as, (x, y) :: xys, by rw [q1]; rfl, ⟨x, y, xys, rfl, hx, hy, q2⟩, .cons ht q3, by rw [List.length_cons, List.length_cons, q4]⟩
    · cases e
theorem hu16 {k : Nat} {A : Around} (hr : Room k A) : A.units + 16 < cLine := by have := hr.un; omega
theorem isTupleOf {h : Heap} {b : Addr} {items : Array Value} (x : PyProof.Rows.IsTup h b items) : h.IsTuple b items := by
  first | exact x | (obtain ⟨o, h1, h2, n, h3⟩ := x; exact ⟨o, h1, h2, n, h3⟩)
def rDictT : List V → Hp → VK → Prop := fun xs H Q => ∃ (a : Addr) (ps : List Addr) (kvs : List (List Key × Addr × V)), xs = [.ref a] ∧ H a = some (.lst (ps.map V.ref)) ∧
  Paired (fun p kv => H p = some (.tup [V.ref kv.2.1, kv.2.2]) ∧ H kv.2.1 = some (.tup (kv.1.map kV))) ps kvs ∧ ∀ p, H p = none → Q (.ref p) (upd H p (.dT (mergeT [] kvs)))
section
variable {X : Cx}
theorem pairsT_of {pins : List (Addr × Obj)} {σ : St} {H : Hp} {s : Shared} (I : Inv X pins σ H s) : ∀ {ps : List Addr} {kvs : List (List Key × Addr × V)}, Paired (fun p kv => H p = some (.tup [V.ref kv.2.1, kv.2.2]) ∧ H kv.2.1 = some (.tup (kv.1.map kV))) ps kvs →
    ∃ rs : List (List Key × Addr × Value), Paired (fun p q => p.1 = q.1 ∧ p.2.1 = q.2.1 ∧ H p.2.1 = some (.tup (p.1.map kV)) ∧ RelV p.2.2 q.2.2) kvs rs ∧ rs.length = ps.length ∧ kvs.length = ps.length ∧
      (∀ (j : Nat) (q : List Key × Addr × Value), rs[j]? = some q → ∃ b, ps[j]? = some b ∧ PairAt s.heap b (.ref q.2.1) q.2.2) ∧ ∀ q ∈ rs, (tupleKind (mixKind X.prog X.w)).is s.heap q.1 q.2.1
  | _, _, .nil => ⟨[], .nil, rfl, rfl, fun j q e => by simp at e, fun q h => nomatch h⟩
  | _, _, .cons (a := p) (b := kv) h t => by
    obtain ⟨rs, r, hl, hl2, hp, hk⟩ := pairsT_of I t
    obtain ⟨_, its, rv, ht⟩ := (show ObjOk X.prog X.w H s.heap p (.tup [V.ref kv.2.1, kv.2.2]) from I.hok p _ h.1)
    obtain ⟨u, y, ei, ru, ry⟩ := vals2 rv
    subst ei
    cases (show u = Value.ref kv.2.1 from ru)
    refine ⟨(kv.1, kv.2.1, y) :: rs, .cons ⟨rfl, rfl, h.2, ry⟩ r, by rw [List.length_cons, List.length_cons, hl], by rw [List.length_cons, List.length_cons, hl2], fun j q e => ?_, fun q hq => ?_⟩
    · cases j with
      | zero =>
        have e' : (kv.1, kv.2.1, y) = q := Option.some.inj e
        subst e'
        exact ⟨p, rfl, .inl (isTupleOf ht)⟩
      | succ j =>
        obtain ⟨b, e1, e2⟩ := hp j q (by simpa using e)
        exact ⟨b, by simpa using e1, e2⟩
    · rcases List.mem_cons.mp hq with rfl | hq
      · exact key_of I.hok h.2
      · exact hk q hq
theorem call_dictT (hc : X.calm = true) (hu : X.A.units + 16 < cLine) : CallR X (.type "dict") rDictT := by
  intro pins s σ H xs us Q I r h
  obtain ⟨a, ps, kvs, ex, ha, hp, q⟩ := h
  subst ex
  obtain ⟨u, eu, rx⟩ := vals1 r
  subst eu
  cases rx
  obtain ⟨rs, rk, hl, hl2, hpr, hkk⟩ := pairsT_of I hp
  obtain ⟨hz, its, n, rv, ho⟩ := (show ObjOk X.prog X.w H s.heap a (.lst (ps.map V.ref)) from I.hok a _ ha)
  have ei := refs_at rv
  subst ei
  rw [List.length_map] at hz
  let vps : List (Value × Value) := rs.map fun q => (Value.ref q.2.1, q.2.2)
  have hvl : vps.length = ps.length := by rw [List.length_map, hl]
  have P := PairArg.list (prog := X.prog) (w := X.w) a (ps.map Value.ref).toArray (fun j => ps.getD j 0) vps
  have hit : PairItems s.heap (ps.map Value.ref).toArray (fun j => ps.getD j 0) vps := by
    refine ⟨by simp [hvl], fun j k v hj => ?_⟩
    rw [List.getElem?_map] at hj
    obtain ⟨q, e1, e2⟩ := Option.map_eq_some_iff.mp hj
    cases e2
    obtain ⟨b, e3, e4⟩ := hpr j q e1
    have e5 : ps.getD j 0 = b := by rw [List.getD_eq_getElem?_getD, e3]; rfl
    refine ⟨?_, ?_⟩
    · show (List.map Value.ref ps).toArray[j]? = some (Value.ref (ps.getD j 0))
      rw [e5]; simp [e3]
    · show PairAt s.heap (ps.getD j 0) _ _
      rw [e5]; exact e4
  refine PySem.call_dict_pairsH (knd := tupleKind (mixKind X.prog X.w)) (ps := rs) P (I.ok.hd hc) (by show X.A.units + 1 + 1 < cLine; omega) ⟨⟨_, n, ho, rfl, rfl, rfl⟩, hit⟩ ⟨by rw [hvl, hl], fun i key v hr => ?_⟩ (fun h' hk x hx => ?_) (by rw [hvl]; exact hz) fun h' tk hd' k => ?_
  · have hr : vps[i]? = some (key, v) := hr
    rw [List.getElem?_map] at hr
    obtain ⟨q, e1, e2⟩ := Option.map_eq_some_iff.mp hr
    cases e2
    exact ⟨q.1, q.2.1, e1, rfl⟩
  · exact tupleKind_stays.stays (fun b o vs n e _ => hk b o (Nat.ne_of_lt (Heap.lt_size e)) (by simp) e) (hkk x hx)
  · have hm : (s.heap.objs.size == sysModules) = false := beq_eq_false_iff_ne.mpr (Nat.ne_of_gt I.big)
    have hlen : (mergeT [] kvs).length ≤ sizeLine := by
      have := length_mergeT kvs []
      rw [List.length_nil] at this
      omega
    obtain ⟨qo, es, ep, hq, h2, h3, h4, _, h5⟩ := hd'
    have hn := I.hok.fresh (Nat.le_refl s.heap.objs.size)
    refine ⟨.ref s.heap.objs.size, upd H s.heap.objs.size (.dT (mergeT [] kvs)), I.laid (t' := tk) (fun b o e => k b o (by simp) e) (Nat.le_refl _) ?_, rfl, q _ hn⟩
    refine ⟨hlen, hm, _, KT.keeps (KT.merge rk .nil) fun c ys ec => ?_, qo, es, ep, hq, h2, h3, h4, h5⟩
    rw [upd_ne (fun z => by rw [z, hn] at ec; cases ec)]
    exact ec
/-- dict(xs) -/
def eDictL (FA : S → Res D) : S → Res SV := fun r => (FA r).bind fun d r => match d with
  | .list ds => match prsKV ds with
    | some ps => match keysDT ps with
      | some cs => Res.ok (SV.ot (mergeDT [] cs)) r
      | none => Res.bad
    | none => Res.bad
  | _ => Res.bad
theorem RPs.toT2 {K : PySem.W.Frag} {O : List Addr} {H : Hp} : ∀ {ps : List (D × D)} {vs : List (V × V)} {cs : List (List Key × D)} {as : List Addr}, RPs K O H ps vs → Paired (fun a xy => H a = some (.tup [xy.1, xy.2])) as vs → keysDT ps = some cs →
    ∃ kvs : List (List Key × Addr × V), Paired (fun p kv => H p = some (.tup [V.ref kv.2.1, kv.2.2]) ∧ H kv.2.1 = some (.tup (kv.1.map kV))) as kvs ∧ ∀ {acc : List (D × D)} {ws : List (List Key × V)}, RT K O H acc ws → RT K O H (mergeDT acc cs) (mergeT ws kvs)
  | [], vs, cs, as, h, hp, e => by
    cases e
    have h : vs = [] := h
    subst h
    cases hp
    exact ⟨[], .nil, fun h => h⟩
  | (k, d) :: r, vs, cs, as, h, hp, e => by
    obtain ⟨x, y, ws, e1, h1, h2, h3⟩ := h
    subst e1
    cases hp with
    | @cons a xy as' _ ha ht =>
      unfold keysDT at e
      split at e
      · rename_i c cs' ek er
        cases e
        obtain ⟨kvs, q1, q4⟩ := RPs.toT2 h3 ht er
        obtain ⟨b, eb, hb⟩ := h1.keyT ek
        subst eb
        exact ⟨(c, b, y) :: kvs, .cons ⟨ha, hb⟩ q1, fun ha => q4 (ha.put c h2)⟩
      · cases e
variable {W : WX} {e : Expr} {ta : TE} {fa : S → Res D} {p pos : Pos}
theorem ex_dictL (hc : X.calm = true) (hu : X.A.units + 16 < cLine) (hm : X.mg "dict" = none) (ha : BX X W e ta fa) (hg : Gl X "dict" := by rfl) (na : starEach [e] X.env = (false, eval e X.env) :: starEach [] X.env := by rfl) (hpl : (backTo pos (starEach [] X.env)).any (·.1) = false := by rfl) :
    EX X W (.Call (.Name "dict" p) [e] [] pos) (tCB rDictT (tCons ta tNil)) (eDictL fa) := by
  refine ⟨pe_callTy (call_dictT hc hu) hg hm PyProof.Rows.boot_dict (pa_cons ha.pe pa_nil na) (by decide +kernel) (by decide +kernel) na hpl, fun γ Oc r σ H fs g => ?_⟩
  refine SimAt.bind (t2 := fun x H1 Q => rDictT [x] H1 Q) (ha.sim γ Oc r σ H fs g) fun d r1 v H1 ⟨fs1, g1, v1, s1⟩ => ?_
  refine SimAt.tr s1 fun Q => ?_
  cases d with
  | list ds =>
    dsimp only
    cases e1 : prsKV ds with
    | none => exact trivial
    | some ps =>
      dsimp only
      cases e2 : keysDT ps with
      | none => exact trivial
      | some cs =>
        intro hq
        obtain ⟨a, vs, q1, q2, q3⟩ := v1.tracked
        obtain ⟨as, xys, p1, p2, p3, _⟩ := q3.prs e1
        obtain ⟨kvs, k1, k2⟩ := p2.toT2 p3 e2
        subst p1
        refine ⟨a, as, kvs, by rw [q1], q2, k1, fun p hp => hq _ _ ?_⟩
        have k := upd_kept (o := .dT (mergeT [] kvs)) hp
        have n : ∀ a ∈ [p], H1 a = none := by simpa using hp
        exact ⟨fs1, [p], g1.grow (SameT.of k) n (by simp) (by simp [Own, upd_same, LD]), ⟨p, _, rfl, upd_same, RT.stab g1.ow (Rs.sameStab g1 (SameT.of k) n) _ _ (k2 (by simp [RT])), rfl⟩, Stp.same _ _ (SameT.of k), n⟩
  | _ => exact trivial
end
end QL
namespace QP
open PySem PySem.Spec L2 QL
def B__law_pick : S → RS := sSeq (sIf (tV (fD (fOp dGe (fD (fTk 0 true)) (gV 1)))) (sSeq (sAsg 2 (fOp dMod (fD (fCB dInt (aCons (fD (fTk 0 true)) (aNil)))) (gV 1)))
  (sSeq (sTk 0 true (fD (fOp dFdiv (fD (fTk 0 true)) (gV 1))))
  (sRetV 2))) (sNext))
  (sSeq (sTk 0 false (fD (fOp dMod (fD (fCB dInt (aCons (fD (fOp dAdd (fD (fOp dMul (fD (fTk 0 false)) (fC (.int 40014)))) (fC (.int 1031)))) (aNil)))) (fC (.int 2147483563)))))
  (sSeq (sAsg 3 (fOp dMod (fD (fCB dInt (aCons (fD (fOp dPow (fD (fTk 0 false)) (fC (.int 2)))) (aNil)))) (fC (.int 2147483399))))
  (sRet (fOp dMod (fD (fCB dInt (aCons (fD (fOp dFdiv (fD (fOp dMod (fD (fCB dInt (aCons (fD (fOp dPow (gV 3) (fC (.int 3)))) (aNil)))) (fC (.int 998244353)))) (fC (.int 13)))) (aNil)))) (gV 1)))))
def F__law_pick : Int × Int → List D → FR := bodyT 4 B__law_pick
def is_text_t1 : S → Res Bool := tV (fD (fOp dNotIn (gV 1) (fC (.str "abcdefghijklmnopqrstuvwxyz"))))
def is_text_e2 : S → Res D := fV 1
def B_is_text : S → RS := sRet (eAndF (fD (fOp1 (dIsi "str") (gV 0))) (fOp dEq (fD (fLc [1] (fItems (fV 0)) (gNm 1) (is_text_t1) (is_text_e2))) (fD (eLst (aNil)))))
def F_is_text : List D → FR := bodyF 2 B_is_text
def B_must_be_text : S → RS := sIf (tNotF (tV (fD (fCall 1 F_is_text (aCons (fV 0) (aNil)))))) (sBad) (sNext)
def F_must_be_text : List D → FR := bodyF 1 B_must_be_text
def B_is_count : S → RS := sRet (eAndF (fD (fOp1 (dIsi "int") (gV 0))) (eAndF (fD (eNotF (fD (fOp1 (dIsi "bool") (gV 0))))) (fOp dGe (gV 0) (fC (.int 0)))))
def F_is_count : List D → FR := bodyF 1 B_is_count
def ways_ahead_b1 : S → RS := sSeq (sAsg 4 (fMt dRfind4 (gV 0) (aCons (gV 3) (aCons (fC (.int 0)) (aCons (gV 2) (aNil))))))
  (sApp 1 (fD (eIfF (tV (fD (fOp dLt (gV 4) (fC (.int 0))))) (eD (fC (.int 1))) (fOp dAdd (fC (.int 1)) (fD (fCB dMinL (aCons (fD (fSl (gV 1) (oSom (gV 4)) (oSom (gV 2)))) (aNil))))))))
def B_ways_ahead : S → RS := sSeq (sAsg 1 (eLst (aNil)))
  (sSeq (sFor (fEnum (aCons (fV 0) (aNil))) (gTupF 2 (gConsF (gNm 2) (gConsF (gNm 3) (gNilF)))) (ways_ahead_b1))
  (sRetV 1))
def F_ways_ahead : List D → FR := bodyF 5 B_ways_ahead
def B_must_be_reach : S → RS := sIf (tNotF (tV (fD (fCall 1 F_is_count (aCons (fV 0) (aNil)))))) (sBad) (sNext)
def F_must_be_reach : List D → FR := bodyF 1 B_must_be_reach
def B_both_ways : S → RS := sRet (fListZip (aCons (fD (fCall 1 F_ways_ahead (aCons (fV 0) (aNil)))) (aCons (fD (fOp1 dRev (fD (fCall 1 F_ways_ahead (aCons (fD (fOp1 dRev (gV 0))) (aNil)))))) (aNil))))
def F_both_ways : List D → FR := bodyF 1 B_both_ways
def spares_t1 : S → Res Bool := tV (fD (fOp dGt (fD (fCB dSumA (aCons (gV 3) (aNil)))) (fD (fOp dAdd (gV 1) (fC (.int 1))))))
def spares_e2 : S → Res D := fV 2
def B_spares : S → RS := sRet (fLc [2, 3] (fEnum (aCons (fD (fCall 1 F_both_ways (aCons (fV 0) (aNil)))) (aNil))) (gTupF 2 (gConsF (gNm 2) (gConsF (gNm 3) (gNilF)))) (spares_t1) (spares_e2))
def F_spares : List D → FR := bodyF 4 B_spares
def evens_b1 : S → RS := sIf (tAndF (tV (fD (fOp dEq (fD (fOp dIx (gV 2) (gV 4))) (fD (fOp dIx (gV 2) (fD (fOp dAdd (gV 4) (fC (.int 1))))))))) (tAndF (tV (fD (fOp dEq (fD (fCB dSumA (aCons (fD (fOp dIx (gV 2) (gV 4))) (aNil)))) (fD (fOp dAdd (gV 1) (fC (.int 1))))))) (tV (fD (fOp dNe (fD (fOp dIx (gV 0) (gV 4))) (fD (fOp dIx (gV 0) (fD (fOp dAdd (gV 4) (fC (.int 1))))))))))) (sApp 3 (fV 4)) (sNext)
def B_evens : S → RS := sSeq (sAsg 2 (fCall 1 F_both_ways (aCons (fV 0) (aNil))))
  (sSeq (sAsg 3 (eLst (aNil)))
  (sSeq (sFor (fRng1 (aCons (fD (fOp dSub (fD (fCB dLen (aCons (gV 0) (aNil)))) (fC (.int 1)))) (aNil))) (gNm 4) (evens_b1))
  (sRetV 3)))
def F_evens : List D → FR := bodyF 5 B_evens
def B_after : S → RS := sSeq (sIf (tOrF (tNotF (tV (fD (fOp1 (dIsi "tuple") (gV 2))))) (tOrF (tV (fD (fOp dLt (fD (fCB dLen (aCons (gV 2) (aNil)))) (fC (.int 2))))) (tOrF (tNotF (tV (fD (fCall 1 F_is_count (aCons (fD (fOp dIx (gV 2) (fC (.int 1)))) (aNil)))))) (tV (fD (fOp dGt (fD (fOp dIx (gV 2) (fC (.int 1)))) (fD (fCB dLen (aCons (gV 0) (aNil)))))))))) (sRet (eD (fC .none))) (sNext))
  (sSeq (sAsg 3 (fOp dIx (gV 2) (fC (.int 1))))
  (sSeq (sIf (tAndF (tV (fD (fOp dEq (fD (fOp dIx (gV 2) (fC (.int 0)))) (fC (.str "out"))))) (tAndF (tV (fD (fOp dEq (fD (fCB dLen (aCons (gV 2) (aNil)))) (fC (.int 2))))) (tV (fD (fOp dIn (gV 3) (fD (fCall 2 F_spares (aCons (fV 0) (aCons (fV 1) (aNil)))))))))) (sRet (fOp dAdd (fD (fSl (gV 0) (oNon) (oSom (gV 3)))) (fD (fSl (gV 0) (oSom (fD (fOp dAdd (gV 3) (fC (.int 1))))) (oNon))))) (sNext))
  (sSeq (sIf (tAndF (tV (fD (fOp dEq (fD (fOp dIx (gV 2) (fC (.int 0)))) (fC (.str "swap"))))) (tAndF (tV (fD (fOp dEq (fD (fCB dLen (aCons (gV 2) (aNil)))) (fC (.int 2))))) (tV (fD (fOp dIn (gV 3) (fD (fCall 2 F_evens (aCons (fV 0) (aCons (fV 1) (aNil)))))))))) (sRet (fOp dAdd (fD (fOp dAdd (fD (fOp dAdd (fD (fSl (gV 0) (oNon) (oSom (gV 3)))) (fD (fOp dIx (gV 0) (fD (fOp dAdd (gV 3) (fC (.int 1)))))))) (fD (fOp dIx (gV 0) (gV 3))))) (fD (fSl (gV 0) (oSom (fD (fOp dAdd (gV 3) (fC (.int 2))))) (oNon))))) (sNext))
  (sSeq (sIf (tAndF (tV (fD (fOp dEq (fD (fOp dIx (gV 2) (fC (.int 0)))) (fC (.str "in"))))) (tAndF (tV (fD (fOp dEq (fD (fCB dLen (aCons (gV 2) (aNil)))) (fC (.int 3))))) (tAndF (tV (fD (fOp1 (dIsi "str") (fD (fOp dIx (gV 2) (fC (.int 2))))))) (tAndF (tV (fD (fOp dEq (fD (fCB dLen (aCons (fD (fOp dIx (gV 2) (fC (.int 2)))) (aNil)))) (fC (.int 1))))) (tV (fD (fOp dIn (fD (fOp dIx (gV 2) (fC (.int 2)))) (fC (.str "abcdefghijklmnopqrstuvwxyz"))))))))) (sSeq (sAsg 4 (fOp dAdd (fD (fOp dAdd (fD (fSl (gV 0) (oNon) (oSom (gV 3)))) (fD (fOp dIx (gV 2) (fC (.int 2)))))) (fD (fSl (gV 0) (oSom (gV 3)) (oNon)))))
  (sRet (eIfF (tV (fD (fOp dIn (gV 3) (fD (fCall 2 F_spares (aCons (fV 4) (aCons (fV 1) (aNil)))))))) (eD (fV 4)) (eD (fC .none))))) (sNext))
  (sRet (eD (fC .none)))))))
def F_after : List D → FR := bodyF 5 B_after
def next_step_t1 : S → Res Bool := tV (fD (fOp dGt (fD (fOp dIx (gV 0) (gV 3))) (fD (fOp dIx (gV 0) (fD (fOp dAdd (gV 3) (fC (.int 1))))))))
def next_step_e2 : S → Res D := fV 3
def B_next_step : S → RS := sSeq (sAsg 2 (fCall 2 F_spares (aCons (fV 0) (aCons (fV 1) (aNil)))))
  (sSeq (sIf (tV (fD (fOp dNe (gV 2) (fD (eLst (aNil)))))) (sRet (eTup (aCons (fC (.str "out")) (aCons (fD (fOp dIx (gV 2) (fC (.int 0)))) (aNil))))) (sNext))
  (sSeq (sAsg 2 (fLc [3] (fItems (fD (fCall 2 F_evens (aCons (fV 0) (aCons (fV 1) (aNil)))))) (gNm 3) (next_step_t1) (next_step_e2)))
  (sRet (eIfF (tV (fD (fOp dNe (gV 2) (fD (eLst (aNil)))))) (eTup (aCons (fC (.str "swap")) (aCons (fD (fOp dIx (gV 2) (fC (.int 0)))) (aNil)))) (eD (fC .none))))))
def F_next_step : List D → FR := bodyF 4 B_next_step
def all_steps_t1 : S → Res Bool := tV (fD (fOp dIsNot (gV 4) (fC .none)))
def all_steps_b2 : S → RS := sSeq (sApp 2 (fV 4))
  (sSeq (sAsg 3 (fCall 3 F_after (aCons (fV 3) (aCons (fV 1) (aCons (fV 4) (aNil))))))
  (sAsg 4 (fCall 2 F_next_step (aCons (fV 3) (aCons (fV 1) (aNil))))))
def B_all_steps : S → RS := sSeq (sAsg 2 (eLst (aNil)))
  (sSeq (sAsg 3 (eD (fV 0)))
  (sSeq (sAsg 4 (fCall 2 F_next_step (aCons (fV 3) (aCons (fV 1) (aNil)))))
  (sSeq (sWhile (all_steps_t1) (all_steps_b2))
  (sRet (eTup (aCons (fV 2) (aCons (fV 3) (aNil))))))))
def F_all_steps : List D → FR := bodyF 5 B_all_steps
def B_shortest : S → RS := sSeq (sExp (fCall 1 F_must_be_text (aCons (fV 0) (aNil))))
  (sSeq (sExp (fCall 1 F_must_be_reach (aCons (fV 1) (aNil))))
  (sRet (fOp dIx (fD (fCall 2 F_all_steps (aCons (fV 0) (aCons (fV 1) (aNil))))) (fC (.int 1)))))
def F_shortest : List D → FR := bodyF 2 B_shortest
def B_letters_in : S → RS := sRet (fOp1 dSortSet (gV 0))
def F_letters_in : List D → FR := bodyF 1 B_letters_in
def B__law_one_of : S → RS := sRet (fOp dIx (gV 1) (fD (fCallT 0 1 F__law_pick (aCons (fD (fCB dLen (aCons (gV 1) (aNil)))) (aNil)))))
def F__law_one_of : Int × Int → List D → FR := bodyT 2 B__law_one_of
def B__law_any : S → RS := sSeq (sAsg 1 (eLst (aCons (fC .none) (aCons (fC (.bool true)) (aCons (fC (.bool false)) (aCons (fC (.int 0)) (aCons (fC (.int 1)) (aCons (fC (.int 2)) (aCons (fC (.int 3)) (aCons (fC (.int 7)) (aCons (fD (fOp dSub (fC (.int 0)) (fC (.int 1)))) (aCons (fD (fOp dPow (fC (.int 10)) (fC (.int 39)))) (aCons (fC (.str "")) (aCons (fC (.str "a")) (aCons (fC (.str "ab")) (aCons (fC (.str "ba")) (aCons (fC (.str "A")) (aCons (fC (.str "a b")) (aCons (fC (.str "abc")) (aCons (fD (eTup (aNil))) (aCons (fD (eLst (aNil))) (aCons (fD (eDK)) (aCons (fD (eTup (aCons (fC (.int 0)) (aNil)))) (aCons (fD (eLst (aCons (fC (.int 0)) (aNil)))) (aCons (fD (eDisp (pCons (fC (.str "a")) (fC (.int 1)) (pNil)))) (aCons (fD (eTup (aCons (fC (.int 0)) (aCons (fC (.int 0)) (aNil))))) (aNil)))))))))))))))))))))))))))
  (sSeq (sAsg 1 (fOp dAdd (gV 1) (fD (eLst (aCons (fD (eTup (aCons (fC (.str "has")) (aCons (fC (.str "a")) (aNil))))) (aCons (fD (eTup (aCons (fC (.str "not")) (aCons (fD (eTup (aCons (fC (.str "has")) (aCons (fC (.str "a")) (aNil))))) (aNil))))) (aCons (fD (eTup (aCons (fC (.str "out")) (aCons (fC (.int 0)) (aNil))))) (aCons (fD (eTup (aCons (fC (.str "swap")) (aCons (fC (.int 0)) (aNil))))) (aCons (fD (eTup (aCons (fC (.str "in")) (aCons (fC (.int 0)) (aCons (fC (.str "a")) (aNil)))))) (aCons (fD (eLst (aCons (fD (eTup (aCons (fC (.str "out")) (aCons (fC (.int 0)) (aNil))))) (aNil)))) (aCons (fD (eDispT (pCons (fD (eTup (aCons (fC (.int 0)) (aCons (fC (.int 0)) (aNil))))) (fC (.int 0)) (pNil)))) (aCons (fD (eLst (aCons (fD (eTup (aCons (fC (.int 0)) (aCons (fC (.str "")) (aNil))))) (aNil)))) (aCons (fD (eTup (aCons (fC (.str "a")) (aCons (fC (.str "a")) (aNil))))) (aNil))))))))))))))
  (sRet (fCallT 0 1 F__law_one_of (aCons (fD (fOp dAdd (gV 1) (fD (eLst (aCons (fD (eLst (aCons (fC (.str "a")) (aNil)))) (aCons (fD (eLst (aCons (fC (.str "")) (aCons (fC (.str "a")) (aNil))))) (aCons (fD (eTup (aCons (fC (.str "behind")) (aCons (fC (.str "a")) (aNil))))) (aCons (fD (eTup (aCons (fC (.str "strike")) (aCons (fC (.int 0)) (aNil))))) (aCons (fD (eLst (aCons (fD (eTup (aCons (fC (.int 0)) (aCons (fC (.int 0)) (aNil))))) (aNil)))) (aCons (fD (eTup (aCons (fC .none) (aNil)))) (aCons (fD (eLst (aCons (fC .none) (aNil)))) (aCons (fC (.str "0")) (aCons (fC (.str "has a")) (aCons (fC (.str "letters a")) (aNil))))))))))))))) (aNil)))))
def F__law_any : Int × Int → List D → FR := bodyT 2 B__law_any
def _law_unlike_b1 : S → RS := sIf (tV (fD (fOp dNotIn (gV 2) (gV 1)))) (sApp 1 (fV 2)) (sNext)
def B__law_unlike : S → RS := sSeq (sAsg 1 (eLst (aNil)))
  (sSeq (sFor (fItems (fV 0)) (gNm 2) (_law_unlike_b1))
  (sRetV 1))
def F__law_unlike : List D → FR := bodyF 3 B__law_unlike
def _law_ways_b1 : S → RS := sSeq (sAsg 7 (fOp dAdd (gV 5) (fD (fMtL dIndex (fD (fCB dListA (aCons (fD (fSl (gV 0) (oSom (gV 5)) (oNon))) (aNil)))) (aCons (gV 6) (aNil))))))
  (sIf (tV (fD (fInS not 1 (fV 7)))) (sSeq (sPutK 1 (fV 3) (gV 7))
  (sApp 4 (fD (fOp dAdd (gV 7) (fC (.int 1)))))) (sNext))
def _law_ways_b2 : S → RS := sFor (fItems (fD (fCB dSortA (aCons (fD (fCall 1 F__law_unlike (aCons (fD (fCB dListA (aCons (fD (fSl (gV 0) (oSom (gV 5)) (oNon))) (aNil)))) (aNil)))) (aNil))))) (gNm 6) (_law_ways_b1)
def _law_ways_b3 : S → RS := sSeq (sAsg 4 (eLst (aNil)))
  (sSeq (sFor (fItems (fV 2)) (gNm 5) (_law_ways_b2))
  (sAsg 2 (eD (fV 4))))
def _law_ways_e4 : S → Res D := fD (fGetS 1 (fV 7))
def B__law_ways : S → RS := sSeq (sParN [1, 2] (oCons (eDK) (oCons (eLst (aCons (fC (.int 0)) (aNil))) (oNil))))
  (sSeq (sFor (fRng2 (aCons (fC (.int 1)) (aCons (fD (fOp dAdd (fD (fCB dLen (aCons (gV 0) (aNil)))) (fC (.int 1)))) (aNil)))) (gNm 3) (_law_ways_b3))
  (sRet (fLc [7] (fRng1 (aCons (fD (fCB dLen (aCons (gV 0) (aNil)))) (aNil))) (gNm 7) (tYesF) (_law_ways_e4))))
def F__law_ways : List D → FR := bodyF 8 B__law_ways
def B__law_both_ways : S → RS := sRet (fListZip (aCons (fD (fCall 1 F__law_ways (aCons (fV 0) (aNil)))) (aCons (fD (fOp1 dRev (fD (fCall 1 F__law_ways (aCons (fD (fOp1 dRev (gV 0))) (aNil)))))) (aNil))))
def F__law_both_ways : List D → FR := bodyF 1 B__law_both_ways
def _law_spares_t1 : S → Res Bool := tV (fD (fOp dGt (fD (fCB dSumA (aCons (gV 3) (aNil)))) (fD (fOp dAdd (gV 1) (fC (.int 1))))))
def _law_spares_e2 : S → Res D := fV 2
def B__law_spares : S → RS := sRet (fLc [2, 3] (fEnum (aCons (fD (fCall 1 F__law_both_ways (aCons (fV 0) (aNil)))) (aNil))) (gTupF 2 (gConsF (gNm 2) (gConsF (gNm 3) (gNilF)))) (_law_spares_t1) (_law_spares_e2))
def F__law_spares : List D → FR := bodyF 4 B__law_spares
def B__law_is_count : S → RS := sRet (eAndF (fD (fOp1 (dIsi "int") (gV 0))) (eAndF (fD (eNotF (fD (fOp1 (dIsi "bool") (gV 0))))) (fOp dGe (gV 0) (fC (.int 0)))))
def F__law_is_count : List D → FR := bodyF 1 B__law_is_count
def B__law_after : S → RS := sSeq (sIf (tOrF (tNotF (tV (fD (fOp1 (dIsi "tuple") (gV 2))))) (tOrF (tV (fD (fOp dNotIn (fD (fCB dLen (aCons (gV 2) (aNil)))) (fD (eTup (aCons (fC (.int 2)) (aCons (fC (.int 3)) (aNil)))))))) (tNotF (tV (fD (fCall 1 F__law_is_count (aCons (fD (fOp dIx (gV 2) (fC (.int 1)))) (aNil)))))))) (sRet (eLst (aNil))) (sNext))
  (sSeq (sPar2 3 4 (oCons (fOp dIx (gV 2) (fC (.int 1))) (oCons (fCall 1 F__law_both_ways (aCons (fV 0) (aNil))) (oNil))))
  (sSeq (sIf (tAndF (tV (fD (fOp dEq (fD (fOp dIx (gV 2) (fC (.int 0)))) (fC (.str "out"))))) (tV (fD (fOp dEq (fD (fCB dLen (aCons (gV 2) (aNil)))) (fC (.int 2)))))) (sRet (eIfF (tV (fD (fOp dIn (gV 3) (fD (fCall 2 F__law_spares (aCons (fV 0) (aCons (fV 1) (aNil)))))))) (eLst (aCons (fD (fOp dAdd (fD (fSl (gV 0) (oNon) (oSom (gV 3)))) (fD (fSl (gV 0) (oSom (fD (fOp dAdd (gV 3) (fC (.int 1))))) (oNon))))) (aNil))) (eLst (aNil)))) (sNext))
  (sSeq (sIf (tAndF (tV (fD (fOp dEq (fD (fOp dIx (gV 2) (fC (.int 0)))) (fC (.str "swap"))))) (tAndF (tV (fD (fOp dEq (fD (fCB dLen (aCons (gV 2) (aNil)))) (fC (.int 2))))) (tAndF (tV (fD (fOp dLt (fD (fOp dAdd (gV 3) (fC (.int 1)))) (fD (fCB dLen (aCons (gV 0) (aNil))))))) (tAndF (tV (fD (fOp dEq (fD (fOp dIx (gV 4) (gV 3))) (fD (fOp dIx (gV 4) (fD (fOp dAdd (gV 3) (fC (.int 1))))))))) (tV (fD (fOp dEq (fD (fCB dSumA (aCons (fD (fOp dIx (gV 4) (gV 3))) (aNil)))) (fD (fOp dAdd (gV 1) (fC (.int 1))))))))))) (sRet (eIfF (tV (fD (fOp dNe (fD (fOp dIx (gV 0) (gV 3))) (fD (fOp dIx (gV 0) (fD (fOp dAdd (gV 3) (fC (.int 1))))))))) (eLst (aCons (fD (fOp dAdd (fD (fOp dAdd (fD (fOp dAdd (fD (fSl (gV 0) (oNon) (oSom (gV 3)))) (fD (fOp dIx (gV 0) (fD (fOp dAdd (gV 3) (fC (.int 1)))))))) (fD (fOp dIx (gV 0) (gV 3))))) (fD (fSl (gV 0) (oSom (fD (fOp dAdd (gV 3) (fC (.int 2))))) (oNon))))) (aNil))) (eLst (aNil)))) (sNext))
  (sSeq (sIf (tAndF (tV (fD (fOp dEq (fD (fOp dIx (gV 2) (fC (.int 0)))) (fC (.str "in"))))) (tAndF (tV (fD (fOp dEq (fD (fCB dLen (aCons (gV 2) (aNil)))) (fC (.int 3))))) (tAndF (tV (fD (fOp1 (dIsi "str") (fD (fOp dIx (gV 2) (fC (.int 2))))))) (tAndF (tV (fD (fOp dEq (fD (fCB dLen (aCons (fD (fOp dIx (gV 2) (fC (.int 2)))) (aNil)))) (fC (.int 1))))) (tAndF (tV (fD (fChain dLe dLe (fC (.str "a")) (fD (fOp dIx (gV 2) (fC (.int 2)))) (fC (.str "z"))))) (tV (fD (fOp dLe (gV 3) (fD (fCB dLen (aCons (gV 0) (aNil)))))))))))) (sSeq (sAsg 5 (fOp dAdd (fD (fOp dAdd (fD (fSl (gV 0) (oNon) (oSom (gV 3)))) (fD (fOp dIx (gV 2) (fC (.int 2)))))) (fD (fSl (gV 0) (oSom (gV 3)) (oNon)))))
  (sRet (eIfF (tV (fD (fOp dIn (gV 3) (fD (fCall 2 F__law_spares (aCons (fV 5) (aCons (fV 1) (aNil)))))))) (eLst (aCons (fV 5) (aNil))) (eLst (aNil))))) (sNext))
  (sRet (eLst (aNil)))))))
def F__law_after : List D → FR := bodyF 6 B__law_after
def B_must_be_texts_v2 : S → RS := sSeq (sExp (fCall 1 F_must_be_text (aCons (fV 0) (aNil))))
  (sExp (fCall 1 F_must_be_text (aCons (fV 1) (aNil))))
def F_must_be_texts_v2 : List D → FR := bodyF 2 B_must_be_texts_v2
def B_is_entry : S → RS := sSeq (sIf (tOrF (tNotF (tV (fD (fOp1 (dIsi "tuple") (gV 2))))) (tOrF (tV (fD (fOp dNe (fD (fCB dLen (aCons (gV 2) (aNil)))) (fC (.int 2))))) (tOrF (tNotF (tV (fD (fCall 1 F_is_count (aCons (fD (fOp dIx (gV 2) (fC (.int 0)))) (aNil)))))) (tNotF (tV (fD (fCall 1 F_is_count (aCons (fD (fOp dIx (gV 2) (fC (.int 1)))) (aNil))))))))) (sRet (eD (fC (.bool false)))) (sNext))
  (sRet (eAndF (fD (fOp dLe (fD (fOp dIx (gV 2) (fC (.int 0)))) (fD (fCB dLen (aCons (gV 0) (aNil)))))) (eAndF (fD (fOp dLe (fD (fOp dIx (gV 2) (fC (.int 1)))) (fD (fCB dLen (aCons (gV 1) (aNil)))))) (fCall 1 F_is_count (aCons (fV 3) (aNil))))))
def F_is_entry : List D → FR := bodyF 4 B_is_entry
def moves_v2_e1 : S → Res D := fD (fOp dAdd (fD (fMt dFind3 (gV 6) (aCons (gV 4) (aCons (gV 7) (aNil))))) (fC (.int 1)))
def moves_v2_b2 : S → RS := sSeq (sAsg 5 (fLc [6, 7] (fZip (aCons (fD (eTup (aCons (fV 0) (aCons (fV 1) (aNil))))) (aCons (fV 2) (aNil)))) (gTupF 2 (gConsF (gNm 6) (gConsF (gNm 7) (gNilF)))) (tYesF) (moves_v2_e1)))
  (sApp 3 (fD (eTup (aCons (fV 4) (aCons (fD (eOrI (fD (fOp dIx (gV 5) (fC (.int 0)))) (eD (fC .none)))) (aCons (fD (eOrI (fD (fOp dIx (gV 5) (fC (.int 1)))) (eD (fC .none)))) (aNil)))))))
def B_moves_v2 : S → RS := sSeq (sAsg 3 (eLst (aNil)))
  (sSeq (sFor (fItems (fD (fCall 1 F_letters_in (aCons (fD (fOp dAdd (gV 0) (gV 1))) (aNil))))) (gNm 4) (moves_v2_b2))
  (sRetV 3))
def F_moves_v2 : List D → FR := bodyF 8 B_moves_v2
def first_parting_v2_b1 : S → RS := sSeq (sIf (tV (fD (fOp dNe (fD (fOp dIs (gV 8) (fC .none))) (fD (fOp dIs (gV 9) (fC .none)))))) (sRet (fOp dAdd (gV 6) (gV 7))) (sNext))
  (sIf (tAndF (tV (fD (fOp dIsNot (gV 8) (fC .none)))) (tV (fD (fInS not 2 (fD (eTup (aCons (fV 8) (aCons (fV 9) (aNil))))))))) (sSeq (sPutT 2 (fC (.bool true)) (fD (eTup (aCons (fV 8) (aCons (fV 9) (aNil))))))
  (sApp 4 (fD (eTup (aCons (fD (eTup (aCons (fV 8) (aCons (fV 9) (aNil))))) (aCons (fD (fOp dAdd (gV 6) (gV 7))) (aNil))))))) (sNext))
def first_parting_v2_b2 : S → RS := sFor (fItems (fD (fCall 3 F_moves_v2 (aCons (fV 0) (aCons (fV 1) (aCons (fV 5) (aNil))))))) (gTupF 3 (gConsF (gNm 7) (gConsF (gNm 8) (gConsF (gNm 9) (gNilF))))) (first_parting_v2_b1)
def first_parting_v2_t3 : S → Res Bool := tV (fD (fOp dNe (gV 3) (fD (eLst (aNil)))))
def first_parting_v2_b4 : S → RS := sSeq (sAsg 4 (eLst (aNil)))
  (sSeq (sFor (fItems (fV 3)) (gTupF 2 (gConsF (gNm 5) (gConsF (gNm 6) (gNilF)))) (first_parting_v2_b2))
  (sAsg 3 (eD (fV 4))))
def B_first_parting_v2 : S → RS := sSeq (sPar2 2 3 (oCons (eDispT (pCons (fD (eTup (aCons (fC (.int 0)) (aCons (fC (.int 0)) (aNil))))) (fC (.bool true)) (pNil))) (oCons (eLst (aCons (fD (eTup (aCons (fD (eTup (aCons (fC (.int 0)) (aCons (fC (.int 0)) (aNil))))) (aCons (fC (.str "")) (aNil))))) (aNil))) (oNil))))
  (sSeq (sWhile (first_parting_v2_t3) (first_parting_v2_b4))
  (sRet (eD (fC .none))))
def F_first_parting_v2 : List D → FR := bodyF 10 B_first_parting_v2
def B_are_alike_v2 : S → RS := sSeq (sAsg 3 (fCall 2 F_first_parting_v2 (aCons (fV 0) (aCons (fV 1) (aNil)))))
  (sRet (eOrF (fD (fOp dIs (gV 3) (fC .none))) (fOp dGt (fD (fCB dLen (aCons (gV 3) (aNil)))) (gV 2))))
def F_are_alike_v2 : List D → FR := bodyF 4 B_are_alike_v2
def B_parting_v4 : S → RS := sSeq (sExp (fCall 2 F_must_be_texts_v2 (aCons (fV 0) (aCons (fV 1) (aNil)))))
  (sRet (fCall 2 F_first_parting_v2 (aCons (fV 0) (aCons (fV 1) (aNil)))))
def F_parting_v4 : List D → FR := bodyF 2 B_parting_v4
def B_likeness_v4 : S → RS := sSeq (sAsg 2 (fCall 2 F_parting_v4 (aCons (fV 0) (aCons (fV 1) (aNil)))))
  (sRet (eIfF (tV (fD (fOp dIs (gV 2) (fC .none)))) (eD (fC .none)) (fOp dSub (fD (fCB dLen (aCons (gV 2) (aNil)))) (fC (.int 1)))))
def F_likeness_v4 : List D → FR := bodyF 3 B_likeness_v4
def B_alike_v4 : S → RS := sSeq (sExp (fCall 2 F_must_be_texts_v2 (aCons (fV 0) (aCons (fV 1) (aNil)))))
  (sSeq (sExp (fCall 1 F_must_be_reach (aCons (fV 2) (aNil))))
  (sRet (fCall 3 F_are_alike_v2 (aCons (fV 0) (aCons (fV 1) (aCons (fV 2) (aNil)))))))
def F_alike_v4 : List D → FR := bodyF 3 B_alike_v4
def is_carried_v3_b1 : S → RS := sSeq (sIf (tV (fD (fOp dNe (fD (fOp dIs (gV 5) (fC .none))) (fD (fOp dIs (gV 6) (fC .none)))))) (sRet (eD (fC (.bool false)))) (sNext))
  (sIf (tAndF (tV (fD (fOp dIsNot (gV 5) (fC .none)))) (tV (fD (fOp dGt (fD (fGet2S 2 (fD (eTup (aCons (fV 5) (aCons (fV 6) (aNil))))) (fD (fOp dAdd (fD (fGetS 2 (fV 3))) (fC (.int 2)))))) (fD (fOp dAdd (fD (fGetS 2 (fV 3))) (fC (.int 1)))))))) (sRet (eD (fC (.bool false)))) (sNext))
def B_is_carried_v3 : S → RS := sSeq (sFor (fItems (fD (fCall 3 F_moves_v2 (aCons (fV 0) (aCons (fV 1) (aCons (fV 3) (aNil))))))) (gTupF 3 (gConsF (gNm 4) (gConsF (gNm 5) (gConsF (gNm 6) (gNilF))))) (is_carried_v3_b1))
  (sRet (eD (fC (.bool true))))
def F_is_carried_v3 : List D → FR := bodyF 7 B_is_carried_v3
def is_table_v3_e1 : S → Res D := fD (fCall 4 F_is_entry (aCons (fV 0) (aCons (fV 1) (aCons (fV 4) (aCons (fD (fGetS 3 (fV 4))) (aNil))))))
def is_table_v3_t2 : S → Res Bool := tV (fD (fOp dLt (fD (fGetS 3 (fV 5))) (gV 2)))
def is_table_v3_e3 : S → Res D := fD (fCall 4 F_is_carried_v3 (aCons (fV 0) (aCons (fV 1) (aCons (fV 3) (aCons (fV 5) (aNil))))))
def B_is_table_v3 : S → RS := sSeq (sExp (fCall 2 F_must_be_texts_v2 (aCons (fV 0) (aCons (fV 1) (aNil)))))
  (sSeq (sExp (fCall 1 F_must_be_reach (aCons (fV 2) (aNil))))
  (sSeq (sIf (tOrF (tNotF (tV (fD (fOp1 (dIsi "dict") (gV 3))))) (tV (fD (fOp dIn (fC (.bool false)) (fD (fLc [4] (fDk 3) (gNm 4) (tYesF) (is_table_v3_e1))))))) (sRet (eD (fC (.bool false)))) (sNext))
  (sSeq (sIf (tV (fD (fOp dNe (fD (fGet2S 3 (fD (eTup (aCons (fC (.int 0)) (aCons (fC (.int 0)) (aNil))))) (fC (.int 1)))) (fC (.int 0))))) (sRet (eD (fC (.bool false)))) (sNext))
  (sRet (fOp dNotIn (fC (.bool false)) (fD (fLc [5] (fDk 3) (gNm 5) (is_table_v3_t2) (is_table_v3_e3))))))))
def F_is_table_v3 : List D → FR := bodyF 6 B_is_table_v3
end QP
namespace QP
open PySem PySem.Spec L2 QL
def B_Kind_init : S → RS := sSeq (sExp (fCall 1 F_must_be_text (aCons (fV 1) (aNil))))
  (sSeq (sExp (fCall 1 F_must_be_reach (aCons (fV 2) (aNil))))
  (sSeq (sFst "Kind" 0 "least" (fD (fCall 2 F_shortest (aCons (fV 1) (aCons (fV 2) (aNil))))))
  (sFst "Kind" 0 "k" (fV 2))))
def F_Kind_init : List D → FR := bodyI 3 "Kind" B_Kind_init
def B_Kind_eq : S → RS := sRet (eAndF (fD (fOp1 (dIsC "Kind") (gV 1))) (eAndF (fD (fOp dEq (fD (fOp1 (dFld "Kind" "k") (gV 0))) (fD (fOp1 (dFld "Kind" "k") (gV 1))))) (fOp dEq (fD (fOp1 (dFld "Kind" "least") (gV 0))) (fD (fOp1 (dFld "Kind" "least") (gV 1))))))
def F_Kind_eq : List D → FR := bodyF 2 B_Kind_eq
def lies_within_b1 : S → RS := sSeq (sIf (tAndF (tV (fD (fOp dIsNot (gV 9) (fC .none)))) (tV (fD (fOp dIs (gV 10) (fC .none))))) (sRet (eD (fC (.bool false)))) (sNext))
  (sIf (tAndF (tV (fD (fOp dIsNot (gV 9) (fC .none)))) (tV (fD (fInS not 3 (fD (eTup (aCons (fV 9) (aCons (fV 10) (aNil))))))))) (sSeq (sPutT 3 (fC (.bool true)) (fD (eTup (aCons (fV 9) (aCons (fV 10) (aNil))))))
  (sApp 6 (fD (eTup (aCons (fV 9) (aCons (fV 10) (aNil))))))) (sNext))
def lies_within_b2 : S → RS := sFor (fItems (fD (fCall 3 F_moves_v2 (aCons (fV 0) (aCons (fV 1) (aCons (fV 7) (aNil))))))) (gTupF 3 (gConsF (gNm 8) (gConsF (gNm 9) (gConsF (gNm 10) (gNilF))))) (lies_within_b1)
def lies_within_b3 : S → RS := sSeq (sAsg 6 (eLst (aNil)))
  (sSeq (sFor (fItems (fV 4)) (gNm 7) (lies_within_b2))
  (sAsg 4 (eD (fV 6))))
def B_lies_within : S → RS := sSeq (sPar2 3 4 (oCons (eDispT (pCons (fD (eTup (aCons (fC (.int 0)) (aCons (fC (.int 0)) (aNil))))) (fC (.bool true)) (pNil))) (oCons (eLst (aCons (fD (eTup (aCons (fC (.int 0)) (aCons (fC (.int 0)) (aNil))))) (aNil))) (oNil))))
  (sSeq (sFor (fRng1 (aCons (fD (fCB dMin2 (aCons (gV 2) (aCons (fD (fCB dLen (aCons (gV 0) (aNil)))) (aNil))))) (aNil))) (gNm 5) (lies_within_b3))
  (sRet (eD (fC (.bool true)))))
def F_lies_within : List D → FR := bodyF 11 B_lies_within
def B_Kind_within : S → RS := sSeq (sIf (tV (fD (fOp dNe (fD (fOp1 (dFld "Kind" "k") (gV 0))) (fD (fOp1 (dFld "Kind" "k") (gV 1)))))) (sBad) (sNext))
  (sRet (fCall 3 F_lies_within (aCons (fD (fOp1 (dFld "Kind" "least") (gV 0))) (aCons (fD (fOp1 (dFld "Kind" "least") (gV 1))) (aCons (fD (fOp1 (dFld "Kind" "k") (gV 0))) (aNil))))))
def F_Kind_within : List D → FR := bodyF 2 B_Kind_within
def B_Kind_add : S → RS := sSeq (sIf (tV (fD (fOp dNe (fD (fOp1 (dFld "Kind" "k") (gV 0))) (fD (fOp1 (dFld "Kind" "k") (gV 1)))))) (sBad) (sNext))
  (sRet (fCall 2 (mkO F_Kind_init) (aCons (fD (fOp dAdd (fD (fOp1 (dFld "Kind" "least") (gV 0))) (fD (fOp1 (dFld "Kind" "least") (gV 1))))) (aCons (fD (fOp1 (dFld "Kind" "k") (gV 0))) (aNil)))))
def F_Kind_add : List D → FR := bodyF 2 B_Kind_add
def B_Kind_mul : S → RS := sSeq (sIf (tNotF (tV (fD (fCall 1 F_is_count (aCons (fV 1) (aNil)))))) (sBad) (sNext))
  (sRet (fCall 2 (mkO F_Kind_init) (aCons (fD (eIfF (tV (fD (fOp dNe (fD (fOp1 (dFld "Kind" "least") (gV 0))) (fC (.str ""))))) (fOp dMul (fD (fOp1 (dFld "Kind" "least") (gV 0))) (fD (fCB dMin2 (aCons (gV 1) (aCons (fD (fOp1 (dFld "Kind" "k") (gV 0))) (aNil)))))) (eD (fC (.str ""))))) (aCons (fD (fOp1 (dFld "Kind" "k") (gV 0))) (aNil)))))
def F_Kind_mul : List D → FR := bodyF 2 B_Kind_mul
end QP
namespace QM
open PySem PySem.Spec L2 QL QP
section
variable {α β : Type} {a : α} {s r : S} {c : Str} {f : List (Str × D)} {k : α → S → Res β} {kS : α → S → RS} {kR : S → RS}
@[simp] theorem bind_ok : (Res.ok a s).bind k = k a s := rfl
@[simp] theorem bind_exc : (Res.exc c f s : Res α).bind k = .exc c f s := rfl
@[simp] theorem bind_bad : (Res.bad : Res α).bind k = .bad := rfl
@[simp] theorem bindS_ok : (Res.ok a s).bindS kS = kS a s := rfl
@[simp] theorem bindS_exc : (Res.exc c f s : Res α).bindS kS = .exc c f s := rfl
@[simp] theorem bindS_bad : (Res.bad : Res α).bindS kS = .bad := rfl
@[simp] theorem go_nx : (RS.nx s).go kR = kR s := rfl
@[simp] theorem go_rt {v : SV} : (RS.rt v s).go kR = .rt v s := rfl
@[simp] theorem go_exc : (RS.exc c f s).go kR = .exc c f s := rfl
@[simp] theorem go_bad : RS.bad.go kR = .bad := rfl
end
section
variable {r : S} {fa fb fc : S → Res D} {F G : S → Res SV} {FL : S → Res (List D)} {FS : S → Res (List SV)} {T U : S → Res Bool} {A B C : S → RS} {op : D → D → Option OV} {o1 : D → Option OV} {ob : List D → Option OV} {om : D → List D → Option OV} {d e : D} {x : SV} {i j l n : Nat} {a b : Int} {z y : Str} {ds es : List D} {sl : List (Option SV)} {tp : Option (Int × Int)}
@[simp] theorem s_fC : fC d r = .ok d r := id rfl
@[simp] theorem s_fD : fD F r = (F r).bind fun x r => asD x r fun d r => .ok d r := id rfl
@[simp] theorem s_eD : eD fa r = (fa r).bind fun d r => .ok (.fz d) r := id rfl
@[simp] theorem s_asfz {α} {k : D → S → Res α} : asD (.fz d) r k = k d r := id rfl
@[simp] theorem s_asol {α} {k : D → S → Res α} : asD (.ol ds) r k = k (.list ds) r := id rfl
@[simp] theorem s_fOp : fOp op fa fb r = (fa r).bind fun x r => (fb r).bind fun y r => ovR (op x y) r := id rfl
@[simp] theorem s_fOp1 : fOp1 o1 fa r = (fa r).bind fun x r => ovR (o1 x) r := id rfl
@[simp] theorem s_fCB : fCB ob FL r = (FL r).bind fun ds r => ovR (ob ds) r := id rfl
@[simp] theorem s_fMt : fMt om fa FL r = (fa r).bind fun x r => match x with
  | .str z => (FL r).bind fun ds r => ovR (om (.str z) ds) r
  | _ => Res.bad := id rfl
@[simp] theorem s_ovfz : ovR (some (.fz d)) r = .ok (.fz d) r := id rfl
@[simp] theorem s_ovnl : ovR (some (.nl ds)) r = .ok (.ol ds) r := id rfl
@[simp] theorem s_ovnt : ovR (some (.nt ds)) r = .ok (.fz (.tuple ds)) r := id rfl
@[simp] theorem s_ovno : ovR none r = .bad := id rfl
@[simp] theorem s_gV : gV i ⟨sl, tp⟩ = match sl[i]? with
  | some (some x) => asD x ⟨sl, tp⟩ fun d r => .ok d r
  | _ => .bad := id rfl
@[simp] theorem s_fV : fV i ⟨sl, tp⟩ = match sl[i]? with
  | some (some x) => asD x ⟨sl, tp⟩ fun d r => .ok d { r with sl := r.sl.set i (some (.fz d)) }
  | _ => .bad := id rfl
@[simp] theorem s_tV : tV fa r = (fa r).bind fun d r => match d with
  | .bool b => .ok b r
  | _ => .bad := id rfl
@[simp] theorem s_tNot : tNotF T r = (T r).bind fun b r => .ok (!b) r := id rfl
@[simp] theorem s_tAnd : tAndF T U r = (T r).bind fun b r => if b then U r else .ok false r := id rfl
@[simp] theorem s_tOr : tOrF T U r = (T r).bind fun b r => if b then .ok true r else U r := id rfl
@[simp] theorem s_eAnd : eAndF fa G r = (fa r).bind fun x r => match x with
  | .bool true => G r
  | .bool false => Res.ok (SV.fz (PyData.bool false)) r
  | _ => Res.bad := id rfl
@[simp] theorem s_eOr : eOrF fa G r = (fa r).bind fun x r => match x with
  | .bool false => G r
  | .bool true => Res.ok (SV.fz (PyData.bool true)) r
  | _ => Res.bad := id rfl
@[simp] theorem s_eNot : eNotF fa r = (fa r).bind fun x r => match x with
  | .bool b => Res.ok (SV.fz (PyData.bool (!b))) r
  | _ => Res.bad := id rfl
@[simp] theorem s_eIf : eIfF T F G r = (T r).bind fun b r => if b then F r else G r := id rfl
@[simp] theorem s_aNil : aNil r = .ok [] r := id rfl
@[simp] theorem s_aCons : aCons fa FL r = (fa r).bind fun d r => (FL r).bind fun ds r => .ok (d :: ds) r := id rfl
@[simp] theorem s_oNil : oNil r = .ok [] r := id rfl
@[simp] theorem s_oCons : oCons F FS r = (F r).bind fun d r => (FS r).bind fun ds r => .ok (d :: ds) r := id rfl
@[simp] theorem s_eLst : eLst FL r = (FL r).bind fun ds r => if ds.length ≤ sizeLine then .ok (.ol ds) r else .bad := id rfl
@[simp] theorem s_eTup : eTup FL r = (FL r).bind fun ds r => if ds.length ≤ sizeLine then .ok (.fz (.tuple ds)) r else .bad := id rfl
@[simp] theorem s_oNon : oNon r = .ok none r := id rfl
@[simp] theorem s_oSom : oSom fa r = (fa r).bind fun d r => match d with
  | .int i => Res.ok (some i) r
  | _ => Res.bad := id rfl
@[simp] theorem s_fSl {fl fh : S → Res (Option Int)} : fSl fa fl fh r = (fa r).bind fun x r => (fl r).bind fun l r => (fh r).bind fun h r => ovR (dSl x l h) r := id rfl
@[simp] theorem s_sSeq : sSeq A B r = (A r).go B := id rfl
@[simp] theorem s_sIf : sIf T A B r = (T r).bindS fun b r => if b then A r else B r := id rfl
@[simp] theorem s_sNext : sNext r = .nx r := id rfl
@[simp] theorem s_sBad : sBad r = .bad := id rfl
@[simp] theorem s_sExp : sExp F r = (F r).bindS fun _ r => .nx r := id rfl
@[simp] theorem s_sRet : sRet F r = (F r).bindS fun x r => .rt x r := id rfl
@[simp] theorem s_sRetV : sRetV i ⟨sl, tp⟩ = match sl[i]? with
  | some (some x) => .rt x ⟨sl.set i none, tp⟩
  | _ => .bad := id rfl
@[simp] theorem s_sAsg : sAsg i F r = (F r).bindS fun x r => setS i x r := id rfl
@[simp] theorem s_setS : setS i x ⟨sl, tp⟩ = if i < sl.length then .nx ⟨sl.set i (some x), tp⟩ else .bad := id rfl
@[simp] theorem s_p2 : sPar2 i j FS r = (FS r).bindS fun xs r => match xs with
  | [x, y] => (setS i x r).go fun r => setS j y r
  | _ => .bad := id rfl
@[simp] theorem s_p3 : sPar3 i j l FS r = (FS r).bindS fun xs r => match xs with
  | [x, y, z] => (setS i x r).go fun r => (setS j y r).go fun r => setS l z r
  | _ => .bad := id rfl
@[simp] theorem s_pN {is : List Nat} : sParN is FS r = (FS r).bindS fun xs r => if xs.length = is.length then setAll is xs r else RS.bad := id rfl
@[simp] theorem s_all0 : setAll [] [] r = .nx r := id rfl
@[simp] theorem s_all1 {is : List Nat} {xs : List SV} : setAll (i :: is) (x :: xs) r = (setS i x r).go (setAll is xs) := id rfl
@[simp] theorem s_sApp : sApp i fa ⟨sl, tp⟩ = match sl[i]? with
  | some (some (.ol _)) => (fa ⟨sl, tp⟩).bindS fun d r => match r.sl[i]? with
    | some (some (.ol xs)) => if xs.length < sizeLine then RS.nx { r with sl := r.sl.set i (some (.ol (xs ++ [d]))) } else RS.bad
    | _ => RS.bad
  | _ => .bad := id rfl
@[simp] theorem s_fTk {k : Bool} : fTk i k ⟨sl, tp⟩ = match sl[i]? with
  | some (some .tape) => match tp with
    | some t => .ok (.fz (.int (tkG k t))) ⟨sl, tp⟩
    | none => .bad
  | _ => .bad := id rfl
@[simp] theorem s_sTk {k : Bool} : sTk i k fa r = (fa r).bindS fun d r => match r.sl[i]? with
  | some (some .tape) => match r.tp, d with
    | some t, .int x => RS.nx { r with tp := some (tkP k t x) }
    | _, _ => RS.bad
  | _ => RS.bad := id rfl
@[simp] theorem s_fItems : fItems fa r = (fa r).bind fun d r => match itemsD d with
  | some ds => Res.ok ds r
  | none => Res.bad := id rfl
@[simp] theorem s_rng1 : fRng1 FL r = (FL r).bind fun ds r => match intsD ds with
  | some [j] => if sml j = true then Res.ok (rngL 0 j.toNat) r else Res.bad
  | _ => Res.bad := id rfl
@[simp] theorem s_rng2 : fRng2 FL r = (FL r).bind fun ds r => match intsD ds with
  | some [i, j] => if sml i = true ∧ sml j = true then Res.ok (rngL i (j - i).toNat) r else Res.bad
  | _ => Res.bad := id rfl
@[simp] theorem s_rng3 : fRng3 FL r = (FL r).bind fun ds r => match intsD ds with
  | some [i, j, c] => if sml i = true ∧ sml j = true ∧ c = -1 then Res.ok ((List.range (i - j).toNat).map fun k => .int (i - (k : Nat))) r else Res.bad
  | _ => Res.bad := id rfl
@[simp] theorem s_lr1 : fLRg1 fa r = (fa r).bind fun d r => match d with
  | .int n => if rgOk 0 n = true then Res.ok (SV.ol (rngL 0 (n - 0).toNat)) r else Res.bad
  | _ => Res.bad := id rfl
@[simp] theorem s_lr2 : fLRg2 fa fb r = (fa r).bind fun d r => (fb r).bind fun d2 r => match d, d2 with
  | .int i, .int j => if rgOk i j = true then Res.ok (SV.ol (rngL i (j - i).toNat)) r else Res.bad
  | _, _ => Res.bad := id rfl
@[simp] theorem s_lr3 : fLRg3 FL r = (FL r).bind fun ds r => match intsD ds with
  | some [i, j, c] => if rgOk i j = true ∧ (i - j).toNat ≤ 2 ^ 24 ∧ c = -1 then Res.ok (SV.ol ((List.range (i - j).toNat).map fun k => .int (i - ((k : Nat) : Int)))) r else Res.bad
  | _ => Res.bad := id rfl
@[simp] theorem s_enum : fEnum FL r = (FL r).bind fun ds r => match ds with
  | [.list ds] => Res.ok (enumL ds) r
  | [.str z] => Res.ok (enumL (z.cps.toList.map fun c => .str (tx [c]))) r
  | _ => Res.bad := id rfl
@[simp] theorem s_sFor {I : S → Res (List D)} {Gf : D → S → Option S} : sFor I Gf B r = (I r).bindS fun ds r => forF Gf B ds r := id rfl
@[simp] theorem s_fLc {vs : List Nat} {I : S → Res (List D)} {Gf : D → S → Option S} : fLc vs I Gf T fa r = (I r).bind fun ds r => match lcF vs Gf T fa ds [] { r with sl := wipeS vs r.sl } with
  | .ok acc r' => Res.ok (SV.ol acc) { r' with sl := restS vs r.sl r'.sl }
  | _ => Res.bad := id rfl
@[simp] theorem s_call {FD : List D → FR} : fCall n FD FL r = (FL r).bind fun ds r => if ds.length = n then outR (FD ds) r else .bad := id rfl
@[simp] theorem s_callT {FD : Int × Int → List D → FR} : fCallT i n FD FL ⟨sl, tp⟩ = match sl[i]? with
  | some (some .tape) => (FL ⟨sl, tp⟩).bind fun ds r => match r.tp with
    | some t => if ds.length = n then outT (FD t ds) r else .bad
    | none => .bad
  | _ => .bad := id rfl
@[simp] theorem s_outR : outR (.ok x tp) r = if x.out then .ok x r else .bad := id rfl
@[simp] theorem s_outRx {c : Str} {f : List (Str × D)} : outR (.exc c f tp) r = .exc c f r := id rfl
@[simp] theorem s_outT {t : Int × Int} : outT (.ok x (some t)) r = if x.out then .ok x { r with tp := some t } else .bad := id rfl
@[simp] theorem s_out1 : (SV.fz d).out = true := id rfl
@[simp] theorem s_out2 : (SV.ol ds).out = true := id rfl
@[simp] theorem s_bodyF : bodyF n B ds = outF (B (mkS n (ds.map .fz) none)) := id rfl
@[simp] theorem s_bodyT {t : Int × Int} : bodyT n B t ds = outF (B (mkS n (.tape :: ds.map .fz) (some t))) := id rfl
@[simp] theorem s_mkS {xs : List SV} : mkS n xs tp = ⟨xs.map some ++ List.replicate (n - xs.length) none, tp⟩ := id rfl
@[simp] theorem s_oF1 : outF (.nx r) = .ok (.fz .none) r.tp := id rfl
@[simp] theorem s_oF2 : outF (.rt x r) = if x.out then .ok x r.tp else .bad := id rfl
@[simp] theorem s_gNm : gNm i d ⟨sl, tp⟩ = if i < sl.length then some ⟨sl.set i (some (.fz d)), tp⟩ else none := id rfl
@[simp] theorem s_gTup {Gs : List D → S → Option S} : gTupF n Gs (.tuple ds) r = if ds.length = n then Gs ds r else none := id rfl
@[simp] theorem s_gNil : gNilF [] r = some r := id rfl
@[simp] theorem s_gCons {Gf : D → S → Option S} {Gs : List D → S → Option S} : gConsF Gf Gs (d :: ds) r = match Gf d r with
  | some r => Gs ds r
  | none => none := id rfl
@[simp] theorem s_wipe0 : wipeS [] sl = sl := id rfl
@[simp] theorem s_wipe1 {vs : List Nat} : wipeS (i :: vs) sl = (wipeS vs sl).set i none := id rfl
@[simp] theorem s_rest0 {old : List (Option SV)} : restS [] old sl = sl := id rfl
@[simp] theorem s_rest1 {vs : List Nat} {old : List (Option SV)} : restS (i :: vs) old sl = match old[i]? with
  | some (some (.fz d)) => (restS vs old sl).set i (some (.fz d))
  | _ => restS vs old sl := id rfl
@[simp] theorem s_tkG1 {t : Int × Int} : tkG true t = t.1 := id rfl
@[simp] theorem s_tkG2 {t : Int × Int} : tkG false t = t.2 := id rfl
@[simp] theorem s_tkP1 {t : Int × Int} : tkP true t a = (a, t.2) := id rfl
@[simp] theorem s_tkP2 {t : Int × Int} : tkP false t a = (t.1, a) := id rfl
@[simp] theorem s_tYes : tYesF r = .ok true r := id rfl
@[simp] theorem d_addI : dAdd (.int a) (.int b) = some (.fz (.int (a + b))) := id rfl
@[simp] theorem d_addS : dAdd (.str z) (.str y) = if z.length + y.length ≤ sizeLine then some (.fz (.str (z ++ y))) else none := id rfl
@[simp] theorem d_addL : dAdd (.list ds) (.list es) = if ds.length + es.length ≤ sizeLine then some (.nl (ds ++ es)) else none := id rfl
@[simp] theorem d_sub : dSub (.int a) (.int b) = some (.fz (.int (a - b))) := id rfl
@[simp] theorem d_mulI : dMul (.int a) (.int b) = if bitsI a + bitsI b ≤ 134217728 then some (.fz (.int (a * b))) else none := id rfl
@[simp] theorem d_mulS : dMul (.str z) (.int b) = if z.length * b.toNat ≤ sizeLine ∧ -(2 ^ 40) < b ∧ b < 2 ^ 40 then some (.fz (.str (tx (List.replicate b.toNat z.cps.toList).flatten))) else none := id rfl
@[simp] theorem d_mulL : dMul (.list ds) (.int b) = if ds.length * b.toNat ≤ sizeLine ∧ -(2 ^ 40) < b ∧ b < 2 ^ 40 then some (.nl (List.replicate b.toNat ds).flatten) else none := id rfl
@[simp] theorem d_div : dFdiv (.int a) (.int b) = if 0 < b ∧ b < 1000000000000000000000000000000 then some (.fz (.int (a / b))) else none := id rfl
@[simp] theorem d_mod : dMod (.int a) (.int b) = if 0 < b then some (.fz (.int (a % b))) else none := id rfl
@[simp] theorem d_pow : dPow (.int a) (.int b) = if 0 ≤ b ∧ (bitsI a : Int) * b ≤ 2 ^ 27 then some (.fz (.int (a ^ b.toNat))) else none := id rfl
@[simp] theorem d_ordI {fi : Int → Int → Bool} {ft : List Nat → List Nat → Bool} : dOrd fi ft (.int a) (.int b) = some (.fz (.bool (fi a b))) := id rfl
@[simp] theorem d_ordS {fi : Int → Int → Bool} {ft : List Nat → List Nat → Bool} : dOrd fi ft (.str z) (.str y) = some (.fz (.bool (ft z.cps.toList y.cps.toList))) := id rfl
@[simp] theorem d_eq {f : Bool → Bool} : dEqF f d e = if okD d = true ∧ okD e = true then some (.fz (.bool (f (PyData.eqv d e)))) else if unEq d e = true then some (.fz (.bool (f false))) else none := by unfold dEqF; rw [okF_eq, okF_eq, eqF_eq]
@[simp] theorem d_inS {f : Bool → Bool} : dInF f (.str z) (.str y) = some (.fz (.bool (f (strIn z y)))) := id rfl
@[simp] theorem d_neg : dNeg (.int a) = some (.fz (.int (-a))) := id rfl
theorem d_ixL : dIx (.list ds) (.int a) = (atI ds a).map .fz := id rfl
theorem d_ixT : dIx (.tuple ds) (.int a) = (atI ds a).map .fz := id rfl
theorem d_ixS : dIx (.str z) (.int a) = if z.length ≤ sizeLine then (atI z.cps.toList a).map fun c => .fz (.str (tx [c])) else none := id rfl
@[simp] theorem d_slL {lo hi : Option Int} : dSl (.list ds) lo hi = some (.nl (cutL ds lo hi)) := id rfl
@[simp] theorem d_slS {lo hi : Option Int} : dSl (.str z) lo hi = if z.length ≤ sizeLine then some (.fz (.str (tx (cutL z.cps.toList lo hi)))) else none := id rfl
@[simp] theorem d_revL : dRev (.list ds) = some (.nl ds.reverse) := id rfl
@[simp] theorem d_revS : dRev (.str z) = if z.length ≤ sizeLine then some (.fz (.str (tx z.cps.toList.reverse))) else none := id rfl
@[simp] theorem d_lenS : dLen [.str z] = if z.length ≤ sizeLine then some (.fz (.int z.length)) else none := id rfl
@[simp] theorem d_lenL : dLen [.list ds] = some (.fz (.int ds.length)) := id rfl
@[simp] theorem d_lenT : dLen [.tuple ds] = some (.fz (.int ds.length)) := id rfl
@[simp] theorem d_int : dInt [.int a] = some (.fz (.int a)) := id rfl
@[simp] theorem d_max2 : dMax2 [.int a, .int b] = some (.fz (.int (if b > a then b else a))) := id rfl
@[simp] theorem d_min2 : dMin2 [.int a, .int b] = some (.fz (.int (if b < a then b else a))) := id rfl
@[simp] theorem d_isi_none {T : String} : dIsi T (PyData.none) = (kitB "NoneType" T).map fun b => .fz (.bool b) := id rfl
@[simp] theorem d_isi_bool {T : String} {p} : dIsi T (PyData.bool p) = (kitB "bool" T).map fun b => .fz (.bool b) := id rfl
@[simp] theorem d_isi_int {T : String} {p} : dIsi T (PyData.int p) = (kitB "int" T).map fun b => .fz (.bool b) := id rfl
@[simp] theorem d_isi_str {T : String} {p} : dIsi T (PyData.str p) = (kitB "str" T).map fun b => .fz (.bool b) := id rfl
@[simp] theorem d_isi_list {T : String} {p} : dIsi T (PyData.list p) = (kitB "list" T).map fun b => .fz (.bool b) := id rfl
@[simp] theorem d_isi_tuple {T : String} {p} : dIsi T (PyData.tuple p) = (kitB "tuple" T).map fun b => .fz (.bool b) := id rfl
@[simp] theorem d_find3 : dFind3 (.str z) [.str y, .int a] = some (.fz (.int (Txt.find3 z y a))) := by rw [← find3f_eq] <;> rfl
@[simp] theorem d_rfind4 : dRfind4 (.str z) [.str y, .int a, .int b] = some (.fz (.int (Txt.rfindIn z y a b))) := by rw [← rfind4f_eq] <;> rfl
@[simp] theorem d_isN {f : Bool → Bool} : dIsF f d .none = some (.fz (.bool (f (isN d)))) := by cases d <;> rfl
@[simp] theorem d_isB {f : Bool → Bool} {p q : Bool} : dIsF f (.bool p) (.bool q) = some (.fz (.bool (f (decide (p = q))))) := id rfl
@[simp] theorem d_ints0 : intsD [] = some [] := id rfl
@[simp] theorem d_ints1 : intsD (.int a :: ds) = (intsD ds).map (a :: ·) := id rfl
@[simp] theorem d_ints {ns : List Int} : intsD (ns.map PyData.int) = some ns := by
  induction ns with
  | nil => rfl
  | cons a r ih => rw [List.map_cons, d_ints1, ih]; rfl
@[simp] theorem d_itL : itemsD (.list ds) = some ds := id rfl
@[simp] theorem d_itT : itemsD (.tuple ds) = some ds := id rfl
@[simp] theorem d_itS : itemsD (.str z) = some (z.cps.toList.map fun c => .str (tx [c])) := id rfl
@[simp] theorem tx_cps' {l : List Nat} : (tx l).cps = l.toArray := id rfl
@[simp] theorem tx_len' {l : List Nat} : (tx l).length = l.length := by simp [tx, Str.length]
@[simp] theorem tx_add {l m : List Nat} : tx l ++ tx m = tx (l ++ m) := by
  show (⟨l.toArray ++ m.toArray⟩ : Str) = ⟨(l ++ m).toArray⟩
  simp
theorem tx_inj {l m : List Nat} : tx l = tx m ↔ l = m := by simp [tx]
end
@[simp] theorem kb_ss : kitB "str" "str" = some true := by decide +kernel
@[simp] theorem kb_ii : kitB "int" "int" = some true := by decide +kernel
@[simp] theorem kb_ib : kitB "int" "bool" = some false := by decide +kernel
@[simp] theorem kb_tt : kitB "tuple" "tuple" = some true := by decide +kernel
@[simp] theorem kb_ll : kitB "list" "list" = some true := by decide +kernel
@[simp] theorem ty_s {z : Str} : tyN (.str z) = "str" := id rfl
@[simp] theorem ty_i {i : Int} : tyN (.int i) = "int" := id rfl
@[simp] theorem ty_t {ds : List D} : tyN (.tuple ds) = "tuple" := id rfl
@[simp] theorem ty_l {ds : List D} : tyN (.list ds) = "list" := id rfl
@[simp] theorem ty_b {b : Bool} : tyN (.bool b) = "bool" := id rfl
@[simp] theorem ty_n : tyN .none = "NoneType" := id rfl
end QM
namespace QM
open PySem PySem.Spec L2 QL QP
theorem strIn_one (c : Nat) (z : Str) : strIn (tx [c]) z = decide (c ∈ z.cps.toList) := (QM.inF_eq _ _).trans (StrLaws.found_one z c)
end QM
namespace QM
open PySem PySem.Spec L2 QL QP
theorem forF_ind {G : D → S → Option S} {B : S → RS} (P : Nat → S → Prop) : ∀ (ds : List D) (k : Nat) (r : S), P k r →
    (∀ i d r, ds[i]? = some d → P (k + i) r → ∃ r1 r2, G d r = some r1 ∧ (B r1 = .nx r2 ∨ B r1 = .ct r2) ∧ P (k + i + 1) r2) → ∃ r', forF G B ds r = .nx r' ∧ P (k + ds.length) r'
  | [], k, r, h, _ => ⟨r, rfl, h⟩
  | d :: ds, k, r, h, st => by
    obtain ⟨r1, r2, e1, e2, h2⟩ := st 0 d r rfl h
    obtain ⟨r', e3, h3⟩ := forF_ind P ds (k + 1) r2 h2 fun i d' r hd hp => by
      have := st (i + 1) d' r (by simpa using hd) (by rw [show k + (i + 1) = k + 1 + i by omega]; exact hp)
      rw [show k + (i + 1) + 1 = k + 1 + i + 1 by omega] at this
      exact this
    refine ⟨r', ?_, by rw [List.length_cons, show k + (ds.length + 1) = k + 1 + ds.length by omega]; exact h3⟩
    unfold forF
    rw [e1]
    rcases e2 with e2 | e2 <;> (dsimp only; rw [e2]; exact e3)
/-- a comprehension whose state stays -/
theorem lcF_map {vs : List Nat} {G : D → S → Option S} {T : S → Res Bool} {F : S → Res D} (p : D → Bool) (f : D → D) {r0 : S} : ∀ (ds acc : List D), acc.length + ds.length ≤ sizeLine →
    (∀ d ∈ ds, ∃ r1 r2, G d r0 = some r1 ∧ T r1 = .ok (p d) r2 ∧ (p d = true → ∃ r3, F r2 = .ok (f d) r3 ∧ (⟨wipeS vs r3.sl, r3.tp⟩ : S) = r0) ∧ (p d = false → (⟨wipeS vs r2.sl, r2.tp⟩ : S) = r0)) →
    lcF vs G T F ds acc r0 = .ok (acc ++ (ds.filter p).map f) r0
  | [], acc, _, _ => by simp [lcF]
  | d :: ds, acc, hl, h => by
    obtain ⟨r1, r2, e1, e2, h1, h2⟩ := h d List.mem_cons_self
    unfold lcF
    rw [e1]
    dsimp only
    rw [e2]
    cases hp : p d with
    | true =>
      obtain ⟨r3, e3, e4⟩ := h1 hp
      dsimp only
      rw [e3]
      dsimp only
      rw [List.length_cons] at hl
      rw [if_pos (by omega), e4, lcF_map p f ds _ (by rw [List.length_append, List.length_singleton]; omega) fun d' hd => h d' (List.mem_cons_of_mem _ hd)]
      rw [List.filter_cons_of_pos hp, List.map_cons, List.append_assoc, List.singleton_append]
    | false =>
      dsimp only
      rw [h2 hp, lcF_map p f ds acc (by rw [List.length_cons] at hl; omega) fun d' hd => h d' (List.mem_cons_of_mem _ hd)]
      rw [List.filter_cons_of_neg (by simp [hp])]
def okN (n : Nat) (d : D) : Prop := d.plain = true ∧ d.depth ≤ n
theorem okN.ok {n : Nat} {d : D} (h : okN n d) (hn : n ≤ 60 := by decide) : okD d = true := by
  unfold okD
  simp only [Bool.and_eq_true, decide_eq_true_eq]
  exact ⟨h.1, Nat.le_trans h.2 hn⟩
theorem okN_all {n : Nat} : ∀ {ds : List D}, (∀ d ∈ ds, okN n d) → PyData.plainAll ds = true ∧ PyData.depthAll ds ≤ n
  | [], _ => ⟨rfl, Nat.zero_le _⟩
  | d :: ds, h => by
    obtain ⟨a, b⟩ := okN_all fun e he => h e (List.mem_cons_of_mem _ he)
    obtain ⟨c, e⟩ := h d List.mem_cons_self
    simp only [PyData.plainAll, PyData.depthAll, Bool.and_eq_true]
    exact ⟨⟨c, a⟩, by omega⟩
theorem okN_list {n : Nat} {ds : List D} (h : ∀ d ∈ ds, okN n d) : okN (n + 1) (.list ds) := by
  obtain ⟨a, b⟩ := okN_all h
  exact ⟨by simpa [PyData.plain] using a, by simp only [PyData.depth]; omega⟩
theorem okN.up {n m : Nat} {d : D} (h : okN n d) (hm : n ≤ m) : okN m d := ⟨h.1, Nat.le_trans h.2 hm⟩
theorem okN_int {i : Int} {n : Nat} : okN n (.int i) := ⟨rfl, Nat.zero_le _⟩
theorem okN_str {i : Str} {n : Nat} : okN n (.str i) := ⟨rfl, Nat.zero_le _⟩
theorem okN_bool {i : Bool} {n : Nat} : okN n (.bool i) := ⟨rfl, Nat.zero_le _⟩
@[simp] theorem ok_int {i : Int} : okD (.int i) = true := rfl
@[simp] theorem ok_str {i : Str} : okD (.str i) = true := rfl
@[simp] theorem ok_bool {i : Bool} : okD (.bool i) = true := rfl
@[simp] theorem ok_none : okD .none = true := rfl
@[simp] theorem ok_ints {ns : List Int} : okD (.list (ns.map PyData.int)) = true := (okN_list (n := 0) fun d hd => by obtain ⟨i, _, rfl⟩ := List.mem_map.mp hd; exact okN_int).ok
@[simp] theorem ok_strs {ns : List Str} : okD (.list (ns.map PyData.str)) = true := (okN_list (n := 0) fun d hd => by obtain ⟨i, _, rfl⟩ := List.mem_map.mp hd; exact okN_str).ok
theorem eqv_int {a b : Int} : PyData.eqv (.int a) (.int b) = decide (a = b) := by
  show (a == b) = _
  rw [Bool.eq_iff_iff]; simp
theorem eqv_str {a b : Str} : PyData.eqv (.str a) (.str b) = decide (a = b) := by
  show (a == b) = _
  rw [Bool.eq_iff_iff]; simp
theorem tx_dec {l m : List Nat} : decide (tx l = tx m) = decide (l = m) := by simp [tx_inj]
theorem bits_lt {a : Int} {n : Nat} (h0 : 0 ≤ a) (h : a < 2 ^ n) : bitsI a ≤ n := PySem.intBits_le_iff.mpr (by
  have : ((a.natAbs : Nat) : Int) < ((2 ^ n : Nat) : Int) := by
    rw [Int.natAbs_of_nonneg h0]
    simpa using h
  exact Int.ofNat_lt.mp this)
theorem pick_eq {t : Int × Int} (ok : TapeOk t = true) {many : Int} (h0 : 0 < many) (h1 : many < 1000000000000000000000000000000) : ∃ f t', F__law_pick t [.int many] = .ok (.fz (.int f)) (some t') ∧ TapeOk t' = true ∧ 0 ≤ f ∧ f < many := by
  obtain ⟨d, m⟩ := t
  unfold TapeOk at ok
  simp only [Bool.and_eq_true, decide_eq_true_eq] at ok
  obtain ⟨⟨⟨d0, d1⟩, m0⟩, m1⟩ := ok
  by_cases hd : many ≤ d
  · refine ⟨d % many, (d / many, m), ?_, ?_, Int.emod_nonneg _ (by omega), Int.emod_lt_of_pos _ h0⟩
    · simp [F__law_pick, B__law_pick, hd, h0, h1]
    · unfold TapeOk
      simp only [Bool.and_eq_true, decide_eq_true_eq]
      have q0 : 0 ≤ d / many := Int.ediv_nonneg d0 (by omega)
      have q1 : d / many ≤ d := Int.ediv_le_self _ d0
      exact ⟨⟨⟨q0, PySem.intBits_le_of_natAbs (by omega) d1⟩, m0⟩, m1⟩
  · have b1 : bitsI m + bitsI 40014 ≤ 134217728 := by
      have := bits_lt (n := 40) m0 (by simpa using m1)
      have : bitsI 40014 ≤ 16 := by decide
      omega
    generalize ea : (m * 40014 + 1031) % 2147483563 = a
    have a0 : 0 ≤ a := by rw [← ea]; exact Int.emod_nonneg _ (by decide)
    have a1 : a < 2147483563 := by rw [← ea]; exact Int.emod_lt_of_pos _ (by decide)
    have b2 : (bitsI a : Int) * 2 ≤ 134217728 := by
      have := bits_lt (n := 31) a0 (by omega)
      omega
    generalize eb : a ^ (2 : Int).toNat % 2147483399 = b
    have c0 : 0 ≤ b := by rw [← eb]; exact Int.emod_nonneg _ (by decide)
    have c1 : b < 2147483399 := by rw [← eb]; exact Int.emod_lt_of_pos _ (by decide)
    have b3 : (bitsI b : Int) * 3 ≤ 134217728 := by
      have := bits_lt (n := 31) c0 (by omega)
      omega
    refine ⟨b ^ (3 : Int).toNat % 998244353 / 13 % many, (d, a), ?_, ?_, Int.emod_nonneg _ (by omega), Int.emod_lt_of_pos _ h0⟩
    · have e2 : a ^ 2 % 2147483399 = b := eb
      simp [F__law_pick, B__law_pick, hd, h0, b1, ea, b2, e2, b3]
    · unfold TapeOk
      simp only [Bool.and_eq_true, decide_eq_true_eq]
      exact ⟨⟨⟨d0, d1⟩, a0⟩, by omega⟩
end QM
namespace QM
open PySem PySem.Spec L2 QL QP
def Tx (l : List Nat) : Prop := ∀ c ∈ l, 97 ≤ c ∧ c ≤ 122
instance (l : List Nat) : Decidable (Tx l) := by unfold Tx; infer_instance
theorem alpha_eq : (Str.ofString "abcdefghijklmnopqrstuvwxyz") = tx (List.range' 97 26) := by decide
theorem mem_alpha {c : Nat} : c ∈ List.range' 97 26 ↔ 97 ≤ c ∧ c ≤ 122 := by rw [List.mem_range'_1]; omega
def lets (l : List Nat) : List D := l.map fun c => .str (tx [c])
theorem mem_lets {l : List Nat} {d : D} (h : d ∈ lets l) : ∃ c ∈ l, d = .str (tx [c]) := by
  obtain ⟨c, hc, e⟩ := List.mem_map.mp h
  exact ⟨c, hc, e.symm⟩
def badL (d : D) : Bool := match d with
  | .str z => !strIn z (tx (List.range' 97 26))
  | _ => false
theorem badL_one (c : Nat) : badL (.str (tx [c])) = !decide (97 ≤ c ∧ c ≤ 122) := by
  unfold badL
  dsimp only
  rw [strIn_one]
  congr 1
  have : (tx (List.range' 97 26)).cps.toList = List.range' 97 26 := rfl
  rw [this]
  exact decide_eq_decide.mpr mem_alpha
theorem lets_bad {l : List Nat} : ((lets l).filter badL).map id = [] ↔ Tx l := by
  rw [List.map_id, List.filter_eq_nil_iff]
  constructor
  · intro h c hc
    have := h (.str (tx [c])) (List.mem_map.mpr ⟨c, hc, rfl⟩)
    rw [badL_one] at this
    simpa using this
  · intro h d hd
    obtain ⟨c, hc, rfl⟩ := mem_lets hd
    rw [badL_one]
    simp [h c hc]
theorem is_text_eq (l : List Nat) (hl : l.length ≤ sizeLine) : F_is_text [.str (tx l)] = .ok (.fz (.bool (decide (Tx l)))) none := by
  have h := lcF_map (vs := [1]) (G := gNm 1) (T := is_text_t1) (F := is_text_e2) badL id (r0 := ⟨[some (.fz (.str (tx l))), none], none⟩) (lets l) [] (by simpa [lets] using hl) fun d hd => by
    obtain ⟨c, hc, rfl⟩ := mem_lets hd
    refine ⟨⟨[some (.fz (.str (tx l))), some (.fz (.str (tx [c])))], none⟩, ⟨[some (.fz (.str (tx l))), some (.fz (.str (tx [c])))], none⟩, by simp, ?_, fun _ => ⟨_, by simp [is_text_e2]; rfl, by simp⟩, fun _ => by simp⟩
    simp [is_text_t1, alpha_eq, badL]
  have hb := lets_bad (l := l)
  have ho : okD (.list (((lets l).filter badL).map id)) = true := (okN_list (n := 0) fun d hd => by
    rw [List.map_id] at hd
    obtain ⟨c, _, rfl⟩ := mem_lets (List.mem_filter.mp hd).1
    exact okN_str).ok
  rw [List.nil_append] at h
  generalize ((lets l).filter badL).map id = bs at h hb ho
  have he : PyData.eqv (.list bs) (.list []) = decide (Tx l) := by
    cases bs with
    | nil => simp [PyData.eqv, PyData.eqvAll, hb.mp rfl]
    | cons b bs =>
      have : ¬ Tx l := fun z => by have := hb.mpr z; cases this
      simp [PyData.eqv, PyData.eqvAll, this]
  have o0 : okD (.list []) = true := rfl
  unfold lets at h
  simp [F_is_text, B_is_text, h, ho, he, o0]
theorem is_count_eq (i : Int) : F_is_count [.int i] = .ok (.fz (.bool (decide (0 ≤ i)))) none := by
  simp [F_is_count, B_is_count]
theorem d_minL {ns : List Int} (h : ns ≠ []) : dMinL [.list (ns.map PyData.int)] = some (.fz (.int (minI ns))) := by
  cases ns with
  | nil => exact absurd rfl h
  | cons a r =>
    show (match intsD ((a :: r).map PyData.int) with
      | some (n :: ns) => some (OV.fz (.int (minI (n :: ns))))
      | _ => none) = _
    rw [d_ints]
theorem cut_nat {α : Type} (xs : List α) (a b : Nat) : cutL xs (some (a : Int)) (some (b : Int)) = (xs.drop (min a xs.length)).take (min b xs.length - min a xs.length) := by
  unfold cutL
  rw [HT.sIx_nat, HT.sIx_nat]
theorem cut_to {α : Type} (xs : List α) (b : Nat) : cutL xs none (some (b : Int)) = xs.take b := by
  unfold cutL
  rw [HT.sIx_nat, HT.sIx_none, Nat.sub_zero, List.drop_zero, ← List.take_take, List.take_length]
/-- ways ahead: the ways of the places before -/
def wstep (l : List Nat) (f : List Int) (i c : Nat) : Int := match prv l c i with
  | none => 1
  | some k => 1 + minI (f.drop k)
def waysTo (l : List Nat) : Nat → List Int
  | 0 => []
  | n + 1 => waysTo l n ++ [wstep l (waysTo l n) n (l.getD n 0)]
def waysL (l : List Nat) : List Int := waysTo l l.length
theorem waysTo_len (l : List Nat) : ∀ n, (waysTo l n).length = n
  | 0 => rfl
  | n + 1 => by rw [waysTo, List.length_append, waysTo_len l n]; rfl
theorem waysL_len (l : List Nat) : (waysL l).length = l.length := waysTo_len l _
theorem ways_ahead_eq (l : List Nat) (hl : l.length ≤ sizeLine) : F_ways_ahead [.str (tx l)] = .ok (.ol ((waysL l).map .int)) none := by
  have loop := forF_ind (G := gTupF 2 (gConsF (gNm 2) (gConsF (gNm 3) gNilF))) (B := ways_ahead_b1)
    (fun i r => ∃ a b c, r = ⟨[some (.fz (.str (tx l))), some (.ol ((waysTo l i).map .int)), a, b, c], none⟩) (enumL (l.map fun c => .str (tx [c]))) 0
    ⟨[some (.fz (.str (tx l))), some (.ol []), none, none, none], none⟩ ⟨none, none, none, rfl⟩ fun i d r hd hr => by
      obtain ⟨a, b, c, rfl⟩ := hr
      obtain ⟨d', hd', rfl⟩ := enumL_get hd
      rw [List.getElem?_map] at hd'
      obtain ⟨ch, hch, rfl⟩ := Option.map_eq_some_iff.mp hd'
      have hi := (List.getElem?_eq_some_iff.mp hch).1
      refine ⟨⟨[some (.fz (.str (tx l))), some (.ol ((waysTo l (0 + i)).map .int)), some (.fz (.int (i : Nat))), some (.fz (.str (tx [ch]))), c], none⟩,
        ⟨[some (.fz (.str (tx l))), some (.ol ((waysTo l (0 + i + 1)).map .int)), some (.fz (.int (i : Nat))), some (.fz (.str (tx [ch]))), some (.fz (.int (optI (prv l ch i))))], none⟩, by simp, .inl ?_, _, _, _, rfl⟩
      have er : Txt.rfindIn (tx l) (tx [ch]) 0 (i : Int) = optI (prv l ch i) := rfind_one l ch (i : Int) (by omega) (by omega)
      have eg : l[i]?.getD 0 = ch := by simp [hch]
      have hw := waysTo_len l i
      cases ep : prv l ch i with
      | none =>
        rw [ep] at er
        simp [ways_ahead_b1, er, optI, hw]
        have hs : i < sizeLine := by omega
        simp [waysTo, wstep, eg, ep, hs]
      | some k =>
        rw [ep] at er
        have hk := (prv_some ep).1
        have ecut : cutL ((waysTo l i).map PyData.int) (some (k : Int)) (some (i : Int)) = ((waysTo l i).drop k).map PyData.int := by
          rw [cut_nat, List.length_map, hw, Nat.min_eq_left (Nat.le_of_lt hk), Nat.min_self, ← List.map_drop, ← List.map_take]
          congr 1
          exact List.take_of_length_le (by rw [List.length_drop, hw]; omega)
        have hne : (waysTo l i).drop k ≠ [] := fun z => by
          have := congrArg List.length z
          rw [List.length_drop, hw] at this
          simp at this; omega
        have em := d_minL hne
        rw [List.map_drop] at ecut em
        have hs : i < sizeLine := by omega
        have h0 : ¬ ((k : Int) < 0) := by omega
        simp [ways_ahead_b1, er, optI, hw, ecut, em, h0, hs, waysTo, wstep, eg, ep]
  obtain ⟨r', e1, a, b, c, rfl⟩ := loop
  rw [enumL_len, List.length_map, Nat.zero_add] at e1
  simp [F_ways_ahead, B_ways_ahead, e1, waysL]
end QM
namespace QM
open PySem PySem.Spec L2 QL QP
theorem minI_snoc : ∀ {l : List Int} (w : Int), l ≠ [] → minI (l ++ [w]) = min (minI l) w
  | [], w, h => absurd rfl h
  | [x], w, _ => rfl
  | x :: y :: r, w, _ => by
    show min x (minI ((y :: r) ++ [w])) = min (min x (minI (y :: r))) w
    rw [minI_snoc w (by simp), Int.min_assoc]
def scanW (c : Nat) : List (Nat × Int) → Option Int
  | [] => none
  | (d, w) :: r => if d = c then some w else match scanW c r with
    | none => none
    | some m => some (min m w)
def waysR : List Nat → List (Nat × Int) → List (Nat × Int)
  | [], acc => acc
  | c :: r, acc => waysR r ((c, match scanW c acc with
    | none => 1
    | some m => 1 + m) :: acc)
def waysF (l : List Nat) : List Int := ((waysR l []).map (·.2)).reverse
def accW (l : List Nat) (i : Nat) : List (Nat × Int) := ((l.take i).zip (waysTo l i)).reverse
theorem accW_succ (l : List Nat) (i : Nat) (h : i < l.length) : accW l (i + 1) = (l[i], wstep l (waysTo l i) i l[i]) :: accW l i := by
  unfold accW
  rw [List.take_succ_eq_append_getElem h]
  show (List.zip (l.take i ++ [l[i]]) (waysTo l i ++ [wstep l (waysTo l i) i (l.getD i 0)])).reverse = _
  rw [List.zip_append (by rw [List.length_take, waysTo_len]; omega), List.reverse_append]
  have : l.getD i 0 = l[i] := by simp [List.getD, h]
  rw [this]
  rfl
theorem scanW_eq (l : List Nat) (c : Nat) : ∀ i, i ≤ l.length → scanW c (accW l i) = (prv l c i).map fun k => minI ((waysTo l i).drop k)
  | 0, _ => rfl
  | i + 1, h => by
    have hi : i < l.length := h
    rw [accW_succ l i hi]
    unfold scanW prv
    rw [scanW_eq l c i (by omega), List.getElem?_eq_getElem hi]
    have ew : waysTo l (i + 1) = waysTo l i ++ [wstep l (waysTo l i) i l[i]] := by
      show waysTo l i ++ [wstep l (waysTo l i) i (l.getD i 0)] = _
      have : l.getD i 0 = l[i] := by simp [List.getD, hi]
      rw [this]
    by_cases q : l[i] = c
    · rw [if_pos q, if_pos (by rw [q])]
      show some _ = some (minI ((waysTo l (i + 1)).drop i))
      rw [ew, List.drop_append_of_le_length (by rw [waysTo_len]; omega), List.drop_of_length_le (by rw [waysTo_len]; omega)]
      rfl
    · rw [if_neg q, if_neg (by simpa using q)]
      cases e : prv l c i with
      | none => rfl
      | some k =>
        have hk := (prv_some e).1
        show some _ = some (minI ((waysTo l (i + 1)).drop k))
        rw [ew, List.drop_append_of_le_length (by rw [waysTo_len]; omega), minI_snoc _ fun z => by
          have := congrArg List.length z
          rw [List.length_drop, waysTo_len] at this
          simp at this; omega]
theorem waysR_eq (l : List Nat) : ∀ (r : List Nat) (i : Nat), l.drop i = r → i ≤ l.length → waysR r (accW l i) = accW l l.length
  | [], i, e, h => by
    have : i = l.length := by
      have := congrArg List.length e
      rw [List.length_drop] at this
      simp at this; omega
    rw [this]; rfl
  | c :: r, i, e, h => by
    have hi : i < l.length := by
      have := congrArg List.length e
      rw [List.length_drop] at this
      simp at this; omega
    rw [List.drop_eq_getElem_cons hi] at e
    injection e with e1 e2
    unfold waysR
    rw [scanW_eq l c i h, ← waysR_eq l r (i + 1) e2 hi, accW_succ l i hi, e1]
    congr 3
    unfold wstep
    cases prv l c i <;> rfl
theorem waysF_eq (l : List Nat) : waysF l = waysL l := by
  unfold waysF
  rw [show waysR l [] = waysR l (accW l 0) from rfl, waysR_eq l l 0 (by simp) (Nat.zero_le _)]
  unfold accW waysL
  rw [List.map_reverse, List.reverse_reverse, List.take_length]
  exact List.map_snd_zip (by rw [waysTo_len]; exact Nat.le_refl _)
def pr2 (p : Int × Int) : D := .tuple [.int p.1, .int p.2]
def bwL (l : List Nat) : List (Int × Int) := (waysF l).zip (waysF l.reverse).reverse
theorem bwL_len (l : List Nat) : (bwL l).length = l.length := by
  unfold bwL
  rw [List.length_zip, List.length_reverse, waysF_eq, waysF_eq, waysL_len, waysL_len, List.length_reverse, Nat.min_self]
theorem zipL_ints : ∀ xs ys : List Int, zipL (xs.map PyData.int) (ys.map PyData.int) = (xs.zip ys).map pr2
  | [], _ => rfl
  | _ :: _, [] => rfl
  | x :: xs, y :: ys => by
    show _ :: zipL (xs.map PyData.int) (ys.map PyData.int) = _ :: _
    rw [zipL_ints xs ys]
    rfl
@[simp] theorem s_lz {FL : S → Res (List D)} {r : S} : fListZip FL r = (FL r).bind fun ds r => match ds with
  | [.list xs, .list ys] => Res.ok (SV.ol (zipL xs ys)) r
  | _ => Res.bad := id rfl
theorem both_ways_eq (l : List Nat) (hl : l.length ≤ sizeLine) : F_both_ways [.str (tx l)] = .ok (.ol ((bwL l).map pr2)) none := by
  have hr : l.reverse.length ≤ sizeLine := by rw [List.length_reverse]; exact hl
  have z := zipL_ints (waysL l) (waysL l.reverse).reverse
  rw [List.map_reverse] at z
  simp [F_both_ways, B_both_ways, ways_ahead_eq l hl, ways_ahead_eq _ hr, hl, z, bwL, waysF_eq]
def spI (k : Int) : List (Int × Int) → Nat → List Nat
  | [], _ => []
  | (a, b) :: r, i => if k + 1 < a + b then i :: spI k r (i + 1) else spI k r (i + 1)
def nats (l : List Nat) : List D := l.map fun i => .int (i : Nat)
def spP (k : Int) : D → Bool
  | .tuple [.int _, .tuple [.int a, .int b]] => decide (k + 1 < a + b)
  | _ => false
def spG : D → D
  | .tuple [i, _] => i
  | d => d
theorem sp_list (k : Int) : ∀ (bw : List (Int × Int)) (s : Nat), ((List.zipWith (fun i d => PyData.tuple [.int (i : Nat), d]) (List.range' s bw.length) (bw.map pr2)).filter (spP k)).map spG = nats (spI k bw s)
  | [], s => rfl
  | (a, b) :: r, s => by
    rw [List.length_cons, List.range'_succ, List.map_cons, List.zipWith_cons_cons, List.filter_cons]
    unfold spI
    have ih := sp_list k r (s + 1)
    by_cases h : k + 1 < a + b
    · rw [if_pos h, if_pos (by simpa [spP, pr2] using h), List.map_cons, ih]
      rfl
    · rw [if_neg h, if_neg (by simpa [spP, pr2] using h), ih]
@[simp] theorem d_sumA2 {a b : Int} : dSumA [.tuple [.int a, .int b]] = some (.fz (.int (a + b))) := by
  show some (OV.fz (.int ([a, b].sum))) = _
  simp
theorem spares_eq (l : List Nat) (hl : l.length ≤ sizeLine) (k : Int) : F_spares [.str (tx l), .int k] = .ok (.ol (nats (spI k (bwL l) 0))) none := by
  have h := lcF_map (vs := [2, 3]) (G := gTupF 2 (gConsF (gNm 2) (gConsF (gNm 3) gNilF))) (T := spares_t1) (F := spares_e2) (spP k) spG (r0 := ⟨[some (.fz (.str (tx l))), some (.fz (.int k)), none, none], none⟩) (enumL ((bwL l).map pr2)) []
    (by rw [enumL_len, List.length_map, bwL_len]; simpa using hl) fun d hd => by
    obtain ⟨i, hi, e⟩ := List.getElem_of_mem hd
    have e' : (enumL ((bwL l).map pr2))[i]? = some d := by rw [← e]; exact List.getElem?_eq_getElem hi
    obtain ⟨d', hd', rfl⟩ := enumL_get e'
    rw [List.getElem?_map] at hd'
    obtain ⟨⟨a, b⟩, _, rfl⟩ := Option.map_eq_some_iff.mp hd'
    refine ⟨⟨[some (.fz (.str (tx l))), some (.fz (.int k)), some (.fz (.int (i : Nat))), some (.fz (pr2 (a, b)))], none⟩, ⟨[some (.fz (.str (tx l))), some (.fz (.int k)), some (.fz (.int (i : Nat))), some (.fz (pr2 (a, b)))], none⟩, by simp, ?_, fun _ => ⟨_, by simp [spares_e2, spG]; rfl, by simp⟩, fun _ => by simp⟩
    simp [spares_t1, spP, pr2, dOrd]
  have e : ((enumL ((bwL l).map pr2)).filter (spP k)).map spG = nats (spI k (bwL l) 0) := by
    have := sp_list k (bwL l) 0
    unfold enumL
    rw [List.length_map, List.range_eq_range']
    exact this
  rw [List.nil_append, e] at h
  simp [F_spares, B_spares, both_ways_eq l hl, h]
end QM
namespace QM
open PySem PySem.Spec L2 QL QP
def evI (k : Int) : List Nat → List (Int × Int) → Nat → List Nat
  | c :: d :: r, p :: q :: s, i => if p = q ∧ p.1 + p.2 = k + 1 ∧ c ≠ d then i :: evI k (d :: r) (q :: s) (i + 1) else evI k (d :: r) (q :: s) (i + 1)
  | _, _, _ => []
@[simp] theorem ok_pr2 (p : Int × Int) : okD (pr2 p) = true := rfl
@[simp] theorem eqv_pr2 (p q : Int × Int) : PyData.eqv (pr2 p) (pr2 q) = decide (p = q) := by
  obtain ⟨a, b⟩ := p
  obtain ⟨c, d⟩ := q
  show ((a == c) && ((b == d) && true)) = _
  rw [Bool.eq_iff_iff]
  simp
@[simp] theorem d_sumP {p : Int × Int} : dSumA [pr2 p] = some (.fz (.int (p.1 + p.2))) := d_sumA2
theorem evI_step (k : Int) {c d : Nat} {r : List Nat} {p q : Int × Int} {s : List (Int × Int)} {i : Nat} : evI k (c :: d :: r) (p :: q :: s) i = if p = q ∧ p.1 + p.2 = k + 1 ∧ c ≠ d then i :: evI k (d :: r) (q :: s) (i + 1) else evI k (d :: r) (q :: s) (i + 1) := rfl
theorem evI_short (k : Int) {l : List Nat} {bw : List (Int × Int)} {i : Nat} (h : l.length ≤ 1) : evI k l bw i = [] := by
  match l, h with
  | [], _ => rfl
  | [c], _ => rfl
theorem evens_eq (l : List Nat) (hl : l.length ≤ 1000000) (k : Int) : F_evens [.str (tx l), .int k] = .ok (.ol (nats (evI k l (bwL l) 0))) none := by
  have hs : l.length ≤ sizeLine := by rw [sizeLine_eq]; omega
  have hn : ((l.length : Int) - 1).toNat = l.length - 1 := by omega
  have loop := forF_ind (G := gNm 4) (B := evens_b1)
    (fun i r => ∃ f c, r = ⟨[some (.fz (.str (tx l))), some (.fz (.int k)), some (.ol ((bwL l).map pr2)), some (.ol (nats f)), c], none⟩ ∧ f ++ evI k (l.drop i) ((bwL l).drop i) i = evI k l (bwL l) 0 ∧ f.length ≤ i) (rngL 0 (l.length - 1)) 0
    ⟨[some (.fz (.str (tx l))), some (.fz (.int k)), some (.ol ((bwL l).map pr2)), some (.ol []), none], none⟩ ⟨[], none, rfl, rfl, Nat.le_refl _⟩ fun i d r hd hr => by
      obtain ⟨f, c0, rfl, hf, hfl⟩ := hr
      have hi : i < l.length - 1 := by
        have := (List.getElem?_eq_some_iff.mp hd).1
        simpa [rngL] using this
      have ed : d = .int (i : Nat) := by
        simp [rngL, hi] at hd
        exact hd.symm
      subst ed
      rw [Nat.zero_add] at hf hfl ⊢
      have h1 : i < l.length := by omega
      have h2 : i + 1 < l.length := by omega
      have b1 : i < (bwL l).length := by rw [bwL_len]; exact h1
      have b2 : i + 1 < (bwL l).length := by rw [bwL_len]; exact h2
      rw [List.drop_eq_getElem_cons h1, List.drop_eq_getElem_cons h2, List.drop_eq_getElem_cons b1, List.drop_eq_getElem_cons b2] at hf
      rw [evI_step] at hf
      have x1 : atI ((bwL l).map pr2) (i : Int) = some (pr2 (bwL l)[i]) := atI_nat (by rw [List.getElem?_map, List.getElem?_eq_getElem b1] <;> rfl)
      have x2 : atI ((bwL l).map pr2) ((i : Int) + 1) = some (pr2 (bwL l)[i + 1]) := by
        have := atI_nat (xs := (bwL l).map pr2) (j := i + 1) (v := pr2 (bwL l)[i + 1]) (by rw [List.getElem?_map, List.getElem?_eq_getElem b2] <;> rfl)
        simpa using this
      have y1 : atI l (i : Int) = some l[i] := atI_nat (List.getElem?_eq_getElem h1)
      have y2 : atI l ((i : Int) + 1) = some l[i + 1] := by
        have := atI_nat (xs := l) (j := i + 1) (List.getElem?_eq_getElem h2)
        simpa using this
      have hfs : f.length < sizeLine := by omega
      refine ⟨⟨[some (.fz (.str (tx l))), some (.fz (.int k)), some (.ol ((bwL l).map pr2)), some (.ol (nats f)), some (.fz (.int (i : Nat)))], none⟩,
        ⟨[some (.fz (.str (tx l))), some (.fz (.int k)), some (.ol ((bwL l).map pr2)), some (.ol (nats (if (bwL l)[i] = (bwL l)[i + 1] ∧ (bwL l)[i].1 + (bwL l)[i].2 = k + 1 ∧ l[i] ≠ l[i + 1] then f ++ [i] else f))), some (.fz (.int (i : Nat)))], none⟩, by simp, .inl ?_, _, _, rfl, ?_, ?_⟩
      · by_cases c1 : (bwL l)[i] = (bwL l)[i + 1]
        · by_cases c2 : (bwL l)[i].1 + (bwL l)[i].2 = k + 1
          · by_cases c3 : l[i] = l[i + 1]
            · rw [if_neg (fun z => z.2.2 c3)]
              simp [evens_b1, d_ixL, d_ixS, x1, x2, y1, y2, hs, c1, c2, c3, eqv_int, eqv_str, tx_inj]
              try simp [← c1, c2, eqv_int, eqv_str]
            · rw [if_pos ⟨c1, c2, c3⟩]
              have c3' : ¬ (tx [l[i]] = tx [l[i + 1]]) := fun z => c3 (by simpa [tx_inj] using z)
              simp [evens_b1, d_ixL, d_ixS, x1, x2, y1, y2, hs, c1, c2, c3, eqv_int, eqv_str, c3']
              simp [← c1, c2, eqv_int, eqv_str, c3', nats, hfs]
          · rw [if_neg (fun z => c2 z.2.1)]
            simp [evens_b1, d_ixL, d_ixS, x1, x2, y1, y2, hs, c1, c2, eqv_int]
            simp [← c1, c2, eqv_int]
        · rw [if_neg (fun z => c1 z.1)]
          simp [evens_b1, d_ixL, d_ixS, x1, x2, y1, y2, hs, c1]
      · have s1 : l.drop (i + 1) = l[i + 1] :: l.drop (i + 1 + 1) := List.drop_eq_getElem_cons h2
        have s2 : (bwL l).drop (i + 1) = (bwL l)[i + 1] :: (bwL l).drop (i + 1 + 1) := List.drop_eq_getElem_cons b2
        rw [s1, s2]
        split
        · rename_i c
          rw [if_pos c] at hf
          rw [← hf, List.append_assoc]
          rfl
        · rename_i c
          rw [if_neg c] at hf
          exact hf
      · split
        · rw [List.length_append, List.length_singleton]; omega
        · omega
  obtain ⟨r', e1, f, c, rfl, hf, _⟩ := loop
  have hlen : (rngL 0 (l.length - 1)).length = l.length - 1 := by simp [rngL]
  rw [hlen, Nat.zero_add, evI_short k (by rw [List.length_drop]; omega), List.append_nil] at hf
  subst hf
  have sm : sml ((l.length : Int) - 1) = true := by
    have e : (2 : Int) ^ 62 = 4611686018427387904 := by decide
    unfold sml
    rw [e]
    exact decide_eq_true ⟨by omega, by omega⟩
  simp [F_evens, B_evens, both_ways_eq l hs, hs, sm, hn, e1]
end QM
namespace QM
open PySem PySem.Spec L2 QL QP
end QM
namespace QM
open PySem PySem.Spec L2 QL QP
@[simp] theorem d_sortSet {l : List Nat} : dSortSet (.str (tx l)) = if l.length < 4000 then some (.nl ((QS.sortU l).map fun c => .str (tx [c]))) else none := by
  show (if (tx l).length < 4000 then some (OV.nl ((QS.sortU (tx l).cps.toList).map fun c => .str (tx [c]))) else none) = _
  rw [tx_len l]
  rfl
@[simp] theorem d_sumL {ns : List Int} : dSumA [.list (ns.map PyData.int)] = some (.fz (.int ns.sum)) := by
  show (match intsD (ns.map PyData.int) with
    | some ns => some (OV.fz (.int ns.sum))
    | _ => none) = _
  rw [d_ints]
end QM
namespace QM
open PySem PySem.Spec L2 QL QP
section
variable {l : List Nat} {s : Nat} {a3 a4 : Option SV}
def st0 (l : List Nat) (s : Nat) (fd : List D) (a3 : Option SV) (x : SV) : S := ⟨[some (.fz (.str (tx l))), some (.ol fd), some (.fz (.int (s : Nat))), a3, some x, none, none, none, none], none⟩
end
end QM
namespace QM
open PySem PySem.Spec L2 QL QP
end QM
namespace K19
open PySem PySem.Spec L2 QL QP
def topS (i : Nat) : Stmt := PySem.Challenge.pw_scatteredpieces_k19_likeness_by_hand.main.body.getD i (.Pass ⟨0, 0, 0, 0⟩)
section
variable {P : Program} {w : World} {K : PySem.W.Frag} {mg : Str → Option Value} {base : Heap}
abbrev s__law_tape : Stmt := topS 23
theorem sc__law_tape : FnScope ["script", "start", "mixed", "cell", "digits"] ["script", "start"] (defScope s__law_tape) := ⟨rfl, rfl, rfl, by decide +kernel, rfl, by decide +kernel, by decide +kernel⟩
theorem fn__law_tape {f : Addr} {fd : FuncData} (Fu : Fun K "_law_tape" "_law_tape" s__law_tape f fd) (m_int : mg "int" = none) (m_len : mg "len" = none) : FnG P w K mg base 1 f fd ["script", "start"] (spTp K) :=
  fg_tape Fu sc__law_tape rfl fun cdv A out s H E hr =>
    pss_cons (ps_set (i := 2) sc__law_tape.nd rfl (.inl rfl) (pe_op op_add pe_int (pe_op op_mulB (pv 1) pe_int)))
    (pss_cons (ps_for (passes_of rfl) rfl (pi_list (pv 0)) (pg_name (i := 3) sc__law_tape.nd rfl (.inl rfl)) (pss_one (ps_set (i := 2) sc__law_tape.nd rfl (.inl rfl)
      (pe_op op_add (pe_op op_mod (pe_callTy call_int1 (by rfl) m_int PyProof.Rows.boot_int (pa_cons (pe_op op_powB (pe_op op_add (pe_op op_add (pe_op op_mulB (pv 2) pe_int) (pe_op op_mulB (pv 3) (pv 3))) pe_int) pe_int) pa_nil)) pe_int) pe_int))))
    (pss_cons (ps_set (i := 4) sc__law_tape.nd rfl (.inl rfl) (pe_ifExp (PW.pt (pw_and (pt_cmpR op_lt (pv 1) (pe_callB call_len (by rfl) m_len PySem.boot_len (pa_cons (pv 0) pa_nil)) (nomark _))
        (pw_and1 (pt_cmpR op_ge (pe_ix ix_seq (pv 0) (pv 1) (fun _ _ => rfl)) (pe_op op_powB pe_int pe_int) (nomark _)))))
      (pe_op op_sub (pe_ix ix_seq (pv 0) (pv 1) (fun _ _ => rfl)) (pe_op op_powB pe_int pe_int)) pe_int))
    (pss_one (ps_ret (pe_disp (pps_cons pe_str (pv 4) (pps_cons pe_str (pv 2) pps_nil)) rfl rfl (by decide) (by decide))))))
abbrev s__law_pick : Stmt := topS 24
theorem sc__law_pick : FnScope ["tape", "many", "found", "once"] ["tape", "many"] (defScope s__law_pick) := ⟨rfl, rfl, rfl, by decide +kernel, rfl, by decide +kernel, by decide +kernel⟩
theorem fn__law_pick {f : Addr} {fd : FuncData} (Fu : Fun K "_law_pick" "_law_pick" s__law_pick f fd) (m_int : mg "int" = none) : FnG P w K mg base 1 f fd ["tape", "many"] (spT K mg 1 F__law_pick) :=
  fgT (B := B__law_pick) Fu sc__law_pick rfl rfl rfl fun cdv A out s H E hG hr tk => ⟨_,
    (ssx_cons (sx_if (tx_cmp op_geA ops_ord (EX.toB (ex_tkW (kk := true) (hu_of hr) (pv 0))) (bx_var (pv 1)) (nomark _)) (ssx_cons (sx_set sc__law_pick.nd (ex_op op_mod ops_mod (EX.toB (ex_int m_int (bax_cons (EX.toB (ex_tkW (kk := true) (hu_of hr) (pv 0))) bax_nil))) (bx_var (pv 1))))
      (ssx_cons (sx_tkW (kk := true) (hu_of hr) (pv 0) (EX.toF (ex_op op_fdivW ops_fdiv (EX.toB (ex_tkW (kk := true) (hu_of hr) (pv 0))) (bx_var (pv 1)))))
      (ssx_one (sx_retV (pv 2))))) ssx_nil)
      (ssx_cons (sx_tkW (kk := false) (hu_of hr) (pv 0) (EX.toF (ex_op op_mod ops_mod (EX.toB (ex_int m_int (bax_cons (EX.toB (ex_op op_addA ops_add (EX.toB (ex_op op_mulA ops_mul (EX.toB (ex_tkW (kk := false) (hu_of hr) (pv 0))) (FX.toB fx_int))) (FX.toB fx_int))) bax_nil))) (FX.toB fx_int))))
      (ssx_cons (sx_set sc__law_pick.nd (ex_op op_mod ops_mod (EX.toB (ex_int m_int (bax_cons (EX.toB (ex_op op_powB ops_pow (EX.toB (ex_tkW (kk := false) (hu_of hr) (pv 0))) (FX.toB fx_int))) bax_nil))) (FX.toB fx_int)))
      (ssx_one (sx_ret (ex_op op_mod ops_mod (EX.toB (ex_int m_int (bax_cons (EX.toB (ex_op op_fdivW ops_fdiv (EX.toB (ex_op op_mod ops_mod (EX.toB (ex_int m_int (bax_cons (EX.toB (ex_op op_powB ops_pow (bx_var (pv 3)) (FX.toB fx_int))) bax_nil))) (FX.toB fx_int))) (FX.toB fx_int))) bax_nil))) (bx_var (pv 1))))))))⟩
abbrev s_is_text : Stmt := topS 7
theorem sc_is_text : FnScope ["value", "letter"] ["value"] (defScope s_is_text) := ⟨rfl, rfl, rfl, by decide +kernel, rfl, by decide +kernel, by decide +kernel⟩
theorem fn_is_text {f : Addr} {fd : FuncData} (Fu : Fun K "is_text" "is_text" s_is_text f fd) (m_isinstance : mg "isinstance" = none) (m_str : mg "str" = none) (m_ALPHABET : ∃ tk, mg "ALPHABET" = some (.str "abcdefghijklmnopqrstuvwxyz" tk)) : FnG P w K mg base 1 f fd ["value"] (spF K mg 1 F_is_text) :=
  fgF (B := B_is_text) Fu sc_is_text rfl rfl rfl fun cdv A out s H E hG hr tk => ⟨_,
    (ssx_one (sx_ret (ex_and (EX.toB (ex_isiT (Ty := "str") m_isinstance m_str (by decide +kernel) (bx_var (pv 0)))) (ex_one (ex_cmp (op_eqP hr.units) ops_eq (EX.toB (ex_lcW (own := [("letter", 1)]) (g := gName 1) (tt := tTest (tOp (rInP K not) (tVar 1) (tC (.str "abcdefghijklmnopqrstuvwxyz")))) (te := tVar 1) rfl sc_is_text.nd (blkOk_by (N := ["value", "letter"]) (sc := defScope s_is_text) (by decide +kernel)) (ix_seq (fx_var (pv 0))) (gw_name (by decide)) (fun s H C cl fp => (gx_nm sc_is_text.nd)) (fun s H C cl fp => (tsx_one (tx_cmp (op_notInP hr.units) ops_in (bx_var (pv 1)) (FX.toB (fx_gs m_ALPHABET)) (by with_unfolding_all rfl)))) (fun s H C cl fp => (fx_var (pv 1))))) (EX.toB (ex_lst ax_nil)) (nomark _))))))⟩
abbrev s_must_be_text : Stmt := topS 8
theorem sc_must_be_text : FnScope ["value"] ["value"] (defScope s_must_be_text) := ⟨rfl, rfl, rfl, by decide +kernel, rfl, by decide +kernel, by decide +kernel⟩
theorem fn_must_be_text {f : Addr} {fd : FuncData} (Fu : Fun K "must_be_text" "must_be_text" s_must_be_text f fd) (d_is_text : DefF P w K mg base "is_text" 1 1 F_is_text) : FnG P w K mg base 2 f fd ["value"] (spF K mg 1 F_must_be_text) :=
  fgF (B := B_must_be_text) Fu sc_must_be_text rfl rfl rfl fun cdv A out s H E hG hr tk => ⟨_,
    (ssx_one (sx_if (tx_not (tx_val (EX.toB (ex_callD d_is_text hG hr tk (ax_cons (fx_var (pv 0)) ax_nil))))) (ssx_one sx_never) ssx_nil))⟩
abbrev s_must_be_texts : Stmt := topS 12
theorem sc_must_be_texts : FnScope ["one", "other"] ["one", "other"] (defScope s_must_be_texts) := ⟨rfl, rfl, rfl, by decide +kernel, rfl, by decide +kernel, by decide +kernel⟩
theorem fn_must_be_texts {f : Addr} {fd : FuncData} (Fu : Fun K "must_be_texts" "must_be_texts" s_must_be_texts f fd) (d_must_be_text : DefF P w K mg base "must_be_text" 2 1 F_must_be_text) : FnG P w K mg base 3 f fd ["one", "other"] (spF K mg 2 F_must_be_texts_v2) :=
  fgF (B := B_must_be_texts_v2) Fu sc_must_be_texts rfl rfl rfl fun cdv A out s H E hG hr tk => ⟨_,
    (ssx_cons (sx_expr (ex_callD d_must_be_text hG hr tk (ax_cons (fx_var (pv 0)) ax_nil)))
      (ssx_one (sx_expr (ex_callD d_must_be_text hG hr tk (ax_cons (fx_var (pv 1)) ax_nil)))))⟩
abbrev s_letters_in : Stmt := topS 10
theorem sc_letters_in : FnScope ["text"] ["text"] (defScope s_letters_in) := ⟨rfl, rfl, rfl, by decide +kernel, rfl, by decide +kernel, by decide +kernel⟩
theorem fn_letters_in {f : Addr} {fd : FuncData} (Fu : Fun K "letters_in" "letters_in" s_letters_in f fd) (m_set : mg "set" = none) (m_sorted : mg "sorted" = none) : FnG P w K mg base 1 f fd ["text"] (spF K mg 1 F_letters_in) :=
  fgF (B := B_letters_in) Fu sc_letters_in rfl rfl rfl fun cdv A out s H E hG hr tk => ⟨_,
    (ssx_one (sx_ret (ex_sortSet rfl m_sorted m_set (bx_var (pv 0)))))⟩
abbrev s_moves : Stmt := topS 13
theorem sc_moves : FnScope ["one", "other", "pair", "found", "letter", "starts", "text", "start"] ["one", "other", "pair"] (defScope s_moves) := ⟨rfl, rfl, rfl, by decide +kernel, rfl, by decide +kernel, by decide +kernel⟩
theorem fn_moves {f : Addr} {fd : FuncData} (Fu : Fun K "moves" "moves" s_moves f fd) (d_letters_in : DefF P w K mg base "letters_in" 1 1 F_letters_in) (m_zip : mg "zip" = none) : FnG P w K mg base 2 f fd ["one", "other", "pair"] (spF K mg 3 F_moves_v2) :=
  fgF (B := B_moves_v2) Fu sc_moves rfl rfl rfl fun cdv A out s H E hG hr tk => ⟨_,
    (ssx_cons (sx_set sc_moves.nd (ex_lst ax_nil))
      (ssx_cons (sx_for (passes_of rfl) rfl (ix_seq (EX.toF (ex_callD d_letters_in hG hr tk (ax_cons (EX.toF (ex_op op_addA ops_add (bx_var (pv 0)) (bx_var (pv 1)))) ax_nil)))) (gx_nm sc_moves.nd) (ssx_cons (sx_setLc (own := [("text", 6), ("start", 7)]) (g := gTup K 2 (gCons (gName 6) (gCons (gName 7) (gNil)))) (tt := tYes) (te := tOp (QL.rAdd K) (tBM K "str" rFind3 (tVar 6) (tCons (tVar 4) (tCons (tVar 7) (tNil)))) (tC (.int 1))) rfl sc_moves.nd (blkOk_by (N := ["one", "other", "pair", "found", "letter", "starts", "text", "start"]) (sc := defScope s_moves) (by decide +kernel)) (ix_zip (by rfl) m_zip (ax_cons (EX.toF (ex_tp (ax_cons (fx_var (pv 0)) (ax_cons (fx_var (pv 1)) ax_nil)))) (ax_cons (fx_var (pv 2)) ax_nil))) (gw_tup (gw_cons (gw_name (by decide)) (gw_cons (gw_name (by decide)) gw_nil))) (fun s H C cl fp => (gx_tp rfl (gxs_cons (gx_nm sc_moves.nd) (gxs_cons (gx_nm sc_moves.nd) gxs_nil)))) (fun s H C cl fp => tsx_nil) (fun s H C cl fp => (EX.toF (ex_op op_addA ops_add (EX.toB (ex_ms (rr := rFind3) PySem.F.slot_str_find PySem.F.type_str_find mt_find3 opm_find3 (bx_var (pv 6)) (bax_cons (bx_var (pv 4)) (bax_cons (bx_var (pv 7)) bax_nil)))) (FX.toB fx_int)))))
      (ssx_one (sx_append (pv 3) (EX.toF (ex_tp (ax_cons (fx_var (pv 4)) (ax_cons (EX.toF (ex_orI (EX.toB (ex_ix (bx_var (pv 5)) (FX.toB fx_int) (fun _ _ => rfl))) (ex_one (FX.toE fx_non)))) (ax_cons (EX.toF (ex_orI (EX.toB (ex_ix (bx_var (pv 5)) (FX.toB fx_int) (fun _ _ => rfl))) (ex_one (FX.toE fx_non)))) ax_nil)))))))))
      (ssx_one (sx_retV (pv 3)))))⟩
abbrev s_first_parting : Stmt := topS 14
theorem sc_first_parting : FnScope ["one", "other", "seen", "waiting", "later", "pair", "piece", "letter", "first", "second"] ["one", "other"] (defScope s_first_parting) := ⟨rfl, rfl, rfl, by decide +kernel, rfl, by decide +kernel, by decide +kernel⟩
theorem fn_first_parting {f : Addr} {fd : FuncData} (Fu : Fun K "first_parting" "first_parting" s_first_parting f fd) (d_moves : DefF P w K mg base "moves" 2 3 F_moves_v2) : FnG P w K mg base 3 f fd ["one", "other"] (spF K mg 2 F_first_parting_v2) :=
  fgF (B := B_first_parting_v2) Fu sc_first_parting rfl rfl rfl fun cdv A out s H E hG hr tk => ⟨_,
    (ssx_cons (sx_p2 rfl sc_first_parting.nd (oax_cons (ex_dispT (Nat.lt_of_succ_lt (hu_of hr)) (px_cons (EX.toF (ex_tp (ax_cons fx_int (ax_cons fx_int ax_nil)))) fx_bl px_nil)) (oax_cons (ex_lst (ax_cons (EX.toF (ex_tp (ax_cons (EX.toF (ex_tp (ax_cons fx_int (ax_cons fx_int ax_nil)))) (ax_cons fx_str ax_nil)))) ax_nil)) oax_nil)))
      (ssx_cons (sx_while (passes_of rfl) (tx_cmp (op_neP hr.units) ops_eq (bx_var (pv 3)) (EX.toB (ex_lst ax_nil)) (nomark _)) (ssx_cons (sx_set sc_first_parting.nd (ex_lst ax_nil))
      (ssx_cons (sx_for (passes_of rfl) rfl (ix_seq (fx_var (pv 3))) (gx_tp rfl (gxs_cons (gx_nm sc_first_parting.nd) (gxs_cons (gx_nm sc_first_parting.nd) gxs_nil))) (ssx_one (sx_for (passes_of rfl) rfl (ix_seq (EX.toF (ex_callD d_moves hG hr tk (ax_cons (fx_var (pv 0)) (ax_cons (fx_var (pv 1)) (ax_cons (fx_var (pv 5)) ax_nil)))))) (gx_tp rfl (gxs_cons (gx_nm sc_first_parting.nd) (gxs_cons (gx_nm sc_first_parting.nd) (gxs_cons (gx_nm sc_first_parting.nd) gxs_nil)))) (ssx_cons (sx_if (tx_cmp (op_neP hr.units) ops_eq (EX.toB (ex_cmp op_isA ops_is (bx_var (pv 8)) (FX.toB fx_non) (nomark _))) (EX.toB (ex_cmp op_isA ops_is (bx_var (pv 9)) (FX.toB fx_non) (nomark _))) (nomark _)) (ssx_one (sx_ret (ex_op op_addA ops_add (bx_var (pv 6)) (bx_var (pv 7))))) ssx_nil)
      (ssx_one (sx_if (WXt.t (wx_and (tx_cmp op_isNotA ops_is (bx_var (pv 8)) (FX.toB fx_non) (nomark _)) (wx_and1 (tx_notInS (hu_of hr) (pv 2) (EX.toF (ex_tp (ax_cons (fx_var (pv 8)) (ax_cons (fx_var (pv 9)) ax_nil)))))))) (ssx_cons (sx_putT (hu_of hr) (pv 2) (EX.toF (ex_tp (ax_cons (fx_var (pv 8)) (ax_cons (fx_var (pv 9)) ax_nil)))) fx_bl)
      (ssx_one (sx_append (pv 4) (EX.toF (ex_tp (ax_cons (EX.toF (ex_tp (ax_cons (fx_var (pv 8)) (ax_cons (fx_var (pv 9)) ax_nil)))) (ax_cons (EX.toF (ex_op op_addA ops_add (bx_var (pv 6)) (bx_var (pv 7)))) ax_nil))))))) ssx_nil))))))
      (ssx_one (sx_set sc_first_parting.nd (FX.toE (fx_var (pv 4))))))))
      (ssx_one (sx_ret (FX.toE fx_non)))))⟩
abbrev s_parting : Stmt := topS 15
theorem sc_parting : FnScope ["one", "other"] ["one", "other"] (defScope s_parting) := ⟨rfl, rfl, rfl, by decide +kernel, rfl, by decide +kernel, by decide +kernel⟩
theorem fn_parting {f : Addr} {fd : FuncData} (Fu : Fun K "parting" "parting" s_parting f fd) (d_must_be_texts : DefF P w K mg base "must_be_texts" 3 2 F_must_be_texts_v2) (d_first_parting : DefF P w K mg base "first_parting" 3 2 F_first_parting_v2) : FnG P w K mg base 4 f fd ["one", "other"] (spF K mg 2 F_parting_v4) :=
  fgF (B := B_parting_v4) Fu sc_parting rfl rfl rfl fun cdv A out s H E hG hr tk => ⟨_,
    (ssx_cons (sx_expr (ex_callD d_must_be_texts hG hr tk (ax_cons (fx_var (pv 0)) (ax_cons (fx_var (pv 1)) ax_nil))))
      (ssx_one (sx_ret (ex_callD d_first_parting hG hr tk (ax_cons (fx_var (pv 0)) (ax_cons (fx_var (pv 1)) ax_nil))))))⟩
abbrev s_likeness : Stmt := topS 18
theorem sc_likeness : FnScope ["one", "other", "found"] ["one", "other"] (defScope s_likeness) := ⟨rfl, rfl, rfl, by decide +kernel, rfl, by decide +kernel, by decide +kernel⟩
theorem fn_likeness {f : Addr} {fd : FuncData} (Fu : Fun K "likeness" "likeness" s_likeness f fd) (d_parting : DefF P w K mg base "parting" 4 2 F_parting_v4) (m_len : mg "len" = none) : FnG P w K mg base 5 f fd ["one", "other"] (spF K mg 2 F_likeness_v4) :=
  fgF (B := B_likeness_v4) Fu sc_likeness rfl rfl rfl fun cdv A out s H E hG hr tk => ⟨_,
    (ssx_cons (sx_set sc_likeness.nd (ex_callD d_parting hG hr tk (ax_cons (fx_var (pv 0)) (ax_cons (fx_var (pv 1)) ax_nil))))
      (ssx_one (sx_ret (ex_if (tx_cmp op_isA ops_is (bx_var (pv 2)) (FX.toB fx_non) (nomark _)) (FX.toE fx_non) (ex_op op_sub ops_sub (EX.toB (ex_len m_len (bax_cons (bx_var (pv 2)) bax_nil))) (FX.toB fx_int))))))⟩
abbrev s_is_count : Stmt := topS 6
theorem sc_is_count : FnScope ["value"] ["value"] (defScope s_is_count) := ⟨rfl, rfl, rfl, by decide +kernel, rfl, by decide +kernel, by decide +kernel⟩
theorem fn_is_count {f : Addr} {fd : FuncData} (Fu : Fun K "is_count" "is_count" s_is_count f fd) (m_bool : mg "bool" = none) (m_int : mg "int" = none) (m_isinstance : mg "isinstance" = none) : FnG P w K mg base 1 f fd ["value"] (spF K mg 1 F_is_count) :=
  fgF (B := B_is_count) Fu sc_is_count rfl rfl rfl fun cdv A out s H E hG hr tk => ⟨_,
    (ssx_one (sx_ret (ex_and (EX.toB (ex_isiT (Ty := "int") m_isinstance m_int (by decide +kernel) (bx_var (pv 0)))) (ex_and (EX.toB (ex_not (EX.toB (ex_isiT (Ty := "bool") m_isinstance m_bool (by decide +kernel) (bx_var (pv 0)))))) (ex_one (ex_cmp op_geA ops_ord (bx_var (pv 0)) (FX.toB fx_int) (nomark _)))))))⟩
abbrev s_must_be_reach : Stmt := topS 9
theorem sc_must_be_reach : FnScope ["value"] ["value"] (defScope s_must_be_reach) := ⟨rfl, rfl, rfl, by decide +kernel, rfl, by decide +kernel, by decide +kernel⟩
theorem fn_must_be_reach {f : Addr} {fd : FuncData} (Fu : Fun K "must_be_reach" "must_be_reach" s_must_be_reach f fd) (d_is_count : DefF P w K mg base "is_count" 1 1 F_is_count) : FnG P w K mg base 2 f fd ["value"] (spF K mg 1 F_must_be_reach) :=
  fgF (B := B_must_be_reach) Fu sc_must_be_reach rfl rfl rfl fun cdv A out s H E hG hr tk => ⟨_,
    (ssx_one (sx_if (tx_not (tx_val (EX.toB (ex_callD d_is_count hG hr tk (ax_cons (fx_var (pv 0)) ax_nil))))) (ssx_one sx_never) ssx_nil))⟩
abbrev s_is_carried : Stmt := topS 20
theorem sc_is_carried : FnScope ["one", "other", "value", "pair", "letter", "first", "second"] ["one", "other", "value", "pair"] (defScope s_is_carried) := ⟨rfl, rfl, rfl, by decide +kernel, rfl, by decide +kernel, by decide +kernel⟩
theorem fn_is_carried {f : Addr} {fd : FuncData} (Fu : Fun K "is_carried" "is_carried" s_is_carried f fd) (d_moves : DefF P w K mg base "moves" 2 3 F_moves_v2) : FnG P w K mg base 3 f fd ["one", "other", "value", "pair"] (spF K mg 4 F_is_carried_v3) :=
  fgF (B := B_is_carried_v3) Fu sc_is_carried rfl rfl rfl fun cdv A out s H E hG hr tk => ⟨_,
    (ssx_cons (sx_for (passes_of rfl) rfl (ix_seq (EX.toF (ex_callD d_moves hG hr tk (ax_cons (fx_var (pv 0)) (ax_cons (fx_var (pv 1)) (ax_cons (fx_var (pv 3)) ax_nil)))))) (gx_tp rfl (gxs_cons (gx_nm sc_is_carried.nd) (gxs_cons (gx_nm sc_is_carried.nd) (gxs_cons (gx_nm sc_is_carried.nd) gxs_nil)))) (ssx_cons (sx_if (tx_cmp (op_neP hr.units) ops_eq (EX.toB (ex_cmp op_isA ops_is (bx_var (pv 5)) (FX.toB fx_non) (nomark _))) (EX.toB (ex_cmp op_isA ops_is (bx_var (pv 6)) (FX.toB fx_non) (nomark _))) (nomark _)) (ssx_one (sx_ret (FX.toE fx_bl))) ssx_nil)
      (ssx_one (sx_if (WXt.t (wx_and (tx_cmp op_isNotA ops_is (bx_var (pv 5)) (FX.toB fx_non) (nomark _)) (wx_and1 (tx_cmp op_gtA ops_ord (EX.toB (ex_get2S (hu_of hr) (pv 2) (EX.toF (ex_tp (ax_cons (fx_var (pv 5)) (ax_cons (fx_var (pv 6)) ax_nil)))) (EX.toF (ex_op op_addA ops_add (EX.toB (ex_getS (hu_of hr) (pv 2) (fx_var (pv 3)) (fun _ _ => rfl))) (FX.toB fx_int))))) (EX.toB (ex_op op_addA ops_add (EX.toB (ex_getS (hu_of hr) (pv 2) (fx_var (pv 3)) (fun _ _ => rfl))) (FX.toB fx_int))) (nomark _))))) (ssx_one (sx_ret (FX.toE fx_bl))) ssx_nil))))
      (ssx_one (sx_ret (FX.toE fx_bl))))⟩
abbrev s_is_entry : Stmt := topS 19
theorem sc_is_entry : FnScope ["one", "other", "key", "number"] ["one", "other", "key", "number"] (defScope s_is_entry) := ⟨rfl, rfl, rfl, by decide +kernel, rfl, by decide +kernel, by decide +kernel⟩
theorem fn_is_entry {f : Addr} {fd : FuncData} (Fu : Fun K "is_entry" "is_entry" s_is_entry f fd) (d_is_count : DefF P w K mg base "is_count" 1 1 F_is_count) (m_isinstance : mg "isinstance" = none) (m_len : mg "len" = none) (m_tuple : mg "tuple" = none) : FnG P w K mg base 2 f fd ["one", "other", "key", "number"] (spF K mg 4 F_is_entry) :=
  fgF (B := B_is_entry) Fu sc_is_entry rfl rfl rfl fun cdv A out s H E hG hr tk => ⟨_,
    (ssx_cons (sx_if (WXt.t (wx_or (tx_not (tx_val (EX.toB (ex_isiT (Ty := "tuple") m_isinstance m_tuple (by decide +kernel) (bx_var (pv 2)))))) (wx_or (tx_cmp (op_neP hr.units) ops_eq (EX.toB (ex_len m_len (bax_cons (bx_var (pv 2)) bax_nil))) (FX.toB fx_int) (nomark _)) (wx_or (tx_not (tx_val (EX.toB (ex_callD d_is_count hG hr tk (ax_cons (EX.toF (ex_ix (bx_var (pv 2)) (FX.toB fx_int) (fun _ _ => rfl))) ax_nil))))) (wx_or1 (tx_not (tx_val (EX.toB (ex_callD d_is_count hG hr tk (ax_cons (EX.toF (ex_ix (bx_var (pv 2)) (FX.toB fx_int) (fun _ _ => rfl))) ax_nil)))))))))) (ssx_one (sx_ret (FX.toE fx_bl))) ssx_nil)
      (ssx_one (sx_ret (ex_and (EX.toB (ex_cmp op_leA ops_ord (EX.toB (ex_ix (bx_var (pv 2)) (FX.toB fx_int) (fun _ _ => rfl))) (EX.toB (ex_len m_len (bax_cons (bx_var (pv 0)) bax_nil))) (nomark _))) (ex_and (EX.toB (ex_cmp op_leA ops_ord (EX.toB (ex_ix (bx_var (pv 2)) (FX.toB fx_int) (fun _ _ => rfl))) (EX.toB (ex_len m_len (bax_cons (bx_var (pv 1)) bax_nil))) (nomark _))) (ex_one (ex_callD d_is_count hG hr tk (ax_cons (fx_var (pv 3)) ax_nil))))))))⟩
abbrev s_is_table : Stmt := topS 21
theorem sc_is_table : FnScope ["one", "other", "k", "value", "key", "pair"] ["one", "other", "k", "value"] (defScope s_is_table) := ⟨rfl, rfl, rfl, by decide +kernel, rfl, by decide +kernel, by decide +kernel⟩
theorem fn_is_table {f : Addr} {fd : FuncData} (Fu : Fun K "is_table" "is_table" s_is_table f fd) (d_must_be_texts : DefF P w K mg base "must_be_texts" 3 2 F_must_be_texts_v2) (d_must_be_reach : DefF P w K mg base "must_be_reach" 2 1 F_must_be_reach) (d_is_carried : DefF P w K mg base "is_carried" 3 4 F_is_carried_v3) (d_is_entry : DefF P w K mg base "is_entry" 2 4 F_is_entry) (m_dict : mg "dict" = none) (m_isinstance : mg "isinstance" = none) : FnG P w K mg base 4 f fd ["one", "other", "k", "value"] (spF K mg 4 F_is_table_v3) :=
  fgF (B := B_is_table_v3) Fu sc_is_table rfl rfl rfl fun cdv A out s H E hG hr tk => ⟨_,
    (ssx_cons (sx_expr (ex_callD d_must_be_texts hG hr tk (ax_cons (fx_var (pv 0)) (ax_cons (fx_var (pv 1)) ax_nil))))
      (ssx_cons (sx_expr (ex_callD d_must_be_reach hG hr tk (ax_cons (fx_var (pv 2)) ax_nil)))
      (ssx_cons (sx_if (WXt.t (wx_or (tx_not (tx_val (EX.toB (ex_isiT (Ty := "dict") m_isinstance m_dict (by decide +kernel) (bx_var (pv 3)))))) (wx_or1 (tx_cmp (op_inP hr.units) ops_in (FX.toB fx_bl) (EX.toB (ex_lcK (own := [("key", 4)]) (g := gName 4) (tt := tYes) (te := tCallS (spF K mg 4 F_is_entry) (WE WN) (tCons (tVar 0) (tCons (tVar 1) (tCons (tVar 4) (tCons (tDGet (tVar 3) (tVar 4)) (tNil)))))) rfl sc_is_table.nd (blkOk_by (N := ["one", "other", "k", "value", "key", "pair"]) (sc := defScope s_is_table) (by decide +kernel)) (pv 3) (gw_name (by decide)) (fun s H C cl fp => (gx_nm sc_is_table.nd)) (fun s H C cl fp => tsx_nil) (fun s H C cl fp => (EX.toF (ex_callD d_is_entry hG hr takes0 (ax_cons (fx_var (pv 0)) (ax_cons (fx_var (pv 1)) (ax_cons (fx_var (pv 4)) (ax_cons (EX.toF (ex_getS (hu_of hr) (pv 3) (fx_var (pv 4)) (fun _ _ => rfl))) ax_nil))))))))) (by with_unfolding_all rfl))))) (ssx_one (sx_ret (FX.toE fx_bl))) ssx_nil)
      (ssx_cons (sx_if (tx_cmp (op_neP hr.units) ops_eq (EX.toB (ex_get2S (hu_of hr) (pv 3) (EX.toF (ex_tp (ax_cons fx_int (ax_cons fx_int ax_nil)))) fx_int)) (FX.toB fx_int) (nomark _)) (ssx_one (sx_ret (FX.toE fx_bl))) ssx_nil)
      (ssx_one (sx_ret (ex_cmp (op_notInP hr.units) ops_in (FX.toB fx_bl) (EX.toB (ex_lcK (own := [("pair", 5)]) (g := gName 5) (tt := tTest (tOp hLt (tDGet (tVar 3) (tVar 5)) (tVar 2))) (te := tCallS (spF K mg 4 F_is_carried_v3) (WE WN) (tCons (tVar 0) (tCons (tVar 1) (tCons (tVar 3) (tCons (tVar 5) (tNil)))))) rfl sc_is_table.nd (blkOk_by (N := ["one", "other", "k", "value", "key", "pair"]) (sc := defScope s_is_table) (by decide +kernel)) (pv 3) (gw_name (by decide)) (fun s H C cl fp => (gx_nm sc_is_table.nd)) (fun s H C cl fp => (tsx_one (tx_cmp op_ltA ops_ord (EX.toB (ex_getS (hu_of hr) (pv 3) (fx_var (pv 5)) (fun _ _ => rfl))) (bx_var (pv 2)) (nomark _)))) (fun s H C cl fp => (EX.toF (ex_callD d_is_carried hG hr takes0 (ax_cons (fx_var (pv 0)) (ax_cons (fx_var (pv 1)) (ax_cons (fx_var (pv 3)) (ax_cons (fx_var (pv 5)) ax_nil))))))))) (by with_unfolding_all rfl))))))))⟩
abbrev s_are_alike : Stmt := topS 16
theorem sc_are_alike : FnScope ["one", "other", "k", "found"] ["one", "other", "k"] (defScope s_are_alike) := ⟨rfl, rfl, rfl, by decide +kernel, rfl, by decide +kernel, by decide +kernel⟩
theorem fn_are_alike {f : Addr} {fd : FuncData} (Fu : Fun K "are_alike" "are_alike" s_are_alike f fd) (d_first_parting : DefF P w K mg base "first_parting" 3 2 F_first_parting_v2) (m_len : mg "len" = none) : FnG P w K mg base 4 f fd ["one", "other", "k"] (spF K mg 3 F_are_alike_v2) :=
  fgF (B := B_are_alike_v2) Fu sc_are_alike rfl rfl rfl fun cdv A out s H E hG hr tk => ⟨_,
    (ssx_cons (sx_set sc_are_alike.nd (ex_callD d_first_parting hG hr tk (ax_cons (fx_var (pv 0)) (ax_cons (fx_var (pv 1)) ax_nil))))
      (ssx_one (sx_ret (ex_or (EX.toB (ex_cmp op_isA ops_is (bx_var (pv 3)) (FX.toB fx_non) (nomark _))) (ex_one (ex_cmp op_gtA ops_ord (EX.toB (ex_len m_len (bax_cons (bx_var (pv 3)) bax_nil))) (bx_var (pv 2)) (nomark _)))))))⟩
abbrev s_alike : Stmt := topS 17
theorem sc_alike : FnScope ["one", "other", "k"] ["one", "other", "k"] (defScope s_alike) := ⟨rfl, rfl, rfl, by decide +kernel, rfl, by decide +kernel, by decide +kernel⟩
theorem fn_alike {f : Addr} {fd : FuncData} (Fu : Fun K "alike" "alike" s_alike f fd) (d_must_be_texts : DefF P w K mg base "must_be_texts" 3 2 F_must_be_texts_v2) (d_must_be_reach : DefF P w K mg base "must_be_reach" 2 1 F_must_be_reach) (d_are_alike : DefF P w K mg base "are_alike" 4 3 F_are_alike_v2) : FnG P w K mg base 5 f fd ["one", "other", "k"] (spF K mg 3 F_alike_v4) :=
  fgF (B := B_alike_v4) Fu sc_alike rfl rfl rfl fun cdv A out s H E hG hr tk => ⟨_,
    (ssx_cons (sx_expr (ex_callD d_must_be_texts hG hr tk (ax_cons (fx_var (pv 0)) (ax_cons (fx_var (pv 1)) ax_nil))))
      (ssx_cons (sx_expr (ex_callD d_must_be_reach hG hr tk (ax_cons (fx_var (pv 2)) ax_nil)))
      (ssx_one (sx_ret (ex_callD d_are_alike hG hr tk (ax_cons (fx_var (pv 0)) (ax_cons (fx_var (pv 1)) (ax_cons (fx_var (pv 2)) ax_nil))))))))⟩
abbrev s_law : Stmt := topS 25
theorem sc_law : FnScope ["script", "start", "tape", "many", "more", "told", "place", "k"] ["script"] (defScope s_law) := ⟨rfl, rfl, rfl, by decide +kernel, rfl, by decide +kernel, by decide +kernel⟩
def law_e1 : S → Res D := fD (eTup (aCons (fD (eTup (aCons (fV 6) (aCons (fV 6) (aNil))))) (aCons (fV 6) (aNil))))
def law_e2 : S → Res D := fD (fCall 4 F_is_table_v3 (aCons (fD (fOp dMul (fC (.str "q")) (gV 3))) (aCons (fD (fOp dMul (fC (.str "q")) (fD (fOp dAdd (gV 3) (gV 4))))) (aCons (fV 7) (aCons (fV 5) (aNil))))))
def B_law : S → RS := sSeq (sParN [3, 4] (oCons (fCallT 2 1 F__law_pick (aCons (fC (.int 20)) (aNil))) (oCons (fOp dAdd (fC (.int 1)) (fD (fCallT 2 1 F__law_pick (aCons (fC (.int 10)) (aNil))))) (oNil))))
  (sSeq (sIf (tOrF (tV (fD (fOp dNe (fD (fCall 2 F_parting_v4 (aCons (fD (fOp dMul (fC (.str "q")) (gV 3))) (aCons (fD (fOp dMul (fC (.str "q")) (fD (fOp dAdd (gV 3) (gV 4))))) (aNil))))) (fD (fOp dMul (fC (.str "q")) (fD (fOp dAdd (gV 3) (fC (.int 1))))))))) (tV (fD (fOp dNe (fD (fCall 2 F_likeness_v4 (aCons (fD (fOp dMul (fC (.str "ab")) (gV 3))) (aCons (fD (fOp dMul (fC (.str "ab")) (fD (fOp dAdd (gV 3) (gV 4))))) (aNil))))) (gV 3))))) (sRet (eD (fC (.bool false)))) (sNext))
  (sSeq (sIf (tV (fD (fOp dNe (fD (fCall 2 F_parting_v4 (aCons (fD (fOp dMul (fC (.str "abc")) (gV 3))) (aCons (fD (fOp dMul (fC (.str "abc")) (fD (fOp dAdd (gV 3) (gV 4))))) (aNil))))) (fD (fOp dMul (fC (.str "a")) (fD (fOp dAdd (gV 3) (fC (.int 1))))))))) (sRet (eD (fC (.bool false)))) (sNext))
  (sSeq (sAsg 5 (eDictL (fD (fLc [6] (fRng1 (aCons (fD (fOp dAdd (gV 3) (fC (.int 1)))) (aNil))) (gNm 6) (tYesF) (law_e1)))))
  (sSeq (sIf (tV (fD (fOp dNe (fD (fLc [7] (fItems (fD (eTup (aCons (fV 3) (aCons (fD (fOp dAdd (gV 3) (fC (.int 1)))) (aCons (fD (fOp dPow (fC (.int 10)) (fC (.int 30)))) (aNil))))))) (gNm 7) (tYesF) (law_e2))) (fD (eLst (aCons (fC (.bool true)) (aCons (fC (.bool false)) (aCons (fC (.bool false)) (aNil))))))))) (sRet (eD (fC (.bool false)))) (sNext))
  (sSeq (sIf (tAndF (tV (fD (fOp dGt (gV 3) (fC (.int 0))))) (tV (fD (fOp dNe (fD (fCall 2 F_likeness_v4 (aCons (fD (fOp dMul (fC (.str "ab")) (gV 3))) (aCons (fD (fOp dMul (fC (.str "ba")) (gV 3))) (aNil))))) (gV 3))))) (sRet (eD (fC (.bool false)))) (sNext))
  (sIf (tOrF (tNotF (tV (fD (fCall 3 F_alike_v4 (aCons (fD (fOp dMul (fC (.str "abc")) (fD (fOp dAdd (gV 3) (fC (.int 1)))))) (aCons (fD (fOp dMul (fD (fOp dMul (fC (.str "cba")) (fD (fOp dAdd (gV 3) (fC (.int 1)))))) (fC (.int 2)))) (aCons (fD (fOp dAdd (gV 3) (fC (.int 1)))) (aNil)))))))) (tV (fD (fOp dNe (fD (fCall 3 F_alike_v4 (aCons (fD (fOp dMul (fC (.str "abc")) (gV 3))) (aCons (fD (fOp dMul (fC (.str "ab")) (gV 3))) (aCons (fC (.int 1)) (aNil)))))) (fD (fOp dEq (gV 3) (fC (.int 0)))))))) (sRet (eD (fC (.bool false)))) (sNext)))))))
def G_law : S → Res SV := fOp dEq (fD (eLst (aCons (fD (fCall 2 F_parting_v4 (aCons (fC (.str "ab")) (aCons (fC (.str "ba")) (aNil))))) (aCons (fD (fCall 2 F_parting_v4 (aCons (fC (.str "aab")) (aCons (fC (.str "aba")) (aNil))))) (aCons (fD (fCall 2 F_likeness_v4 (aCons (fC (.str "abba")) (aCons (fC (.str "baab")) (aNil))))) (aNil)))))) (fD (eLst (aCons (fC (.str "ab")) (aCons (fC (.str "ba")) (aCons (fC (.int 2)) (aNil))))))
theorem fn_law {f fT : Addr} {fd fdT : FuncData} (Fu : Fun K "law" "law" s_law f fd) (FT : FnG P w K mg base 1 fT fdT ["script", "start"] (spTp K)) (gT : mg "_law_tape" = some (.ref fT)) (kT : PySem.W.keepIn K (.ref fT) = true) (bT : Binds K fdT ["script", "start"] []) (d__law_pick : DefT P w K mg base "_law_pick" 1 1 F__law_pick) (d_parting : DefF P w K mg base "parting" 4 2 F_parting_v4) (d_likeness : DefF P w K mg base "likeness" 5 2 F_likeness_v4) (d_is_table : DefF P w K mg base "is_table" 4 4 F_is_table_v3) (d_alike : DefF P w K mg base "alike" 5 3 F_alike_v4) (m_dict : mg "dict" = none) (m_len : mg "len" = none) (m_max : mg "max" = none) (m_min : mg "min" = none) (m_range : mg "range" = none) (ok : LawOk 5 [] B_law G_law) : FnG P w K mg base 6 f fd ["script"] (spLaw K []) :=
  fg_law (B := B_law) (G := G_law) (cap := 3) Fu sc_law rfl (by decide) ok fun cdv A out s H E hG hr => by
    have tB : ∃ t, SSX (cxOf (L2.CX P w) P w K mg base ["script", "start", "tape", "many", "more", "told", "place", "k"] "law" (defScope s_law) f cdv A out s H E) WN (lawRest (defBody s_law)) t B_law := ⟨_, (ssx_cons (sx_pN (is := [3, 4]) rfl (oax_cons (ex_callDT d__law_pick hG hr takes0 (pv 2) (ax_cons fx_int ax_nil)) (oax_cons (ex_op op_addA ops_add (FX.toB fx_int) (EX.toB (ex_callDT d__law_pick hG hr takes0 (pv 2) (ax_cons fx_int ax_nil)))) oax_nil)) (pgs_cons (gx_nm (i := 3) sc_law.nd).pg (pgs_cons (gx_nm (i := 4) sc_law.nd).pg pgs_nil)))
      (ssx_cons (sx_if (WXt.t (wx_or (tx_cmp (op_neP hr.units) ops_eq (EX.toB (ex_callD d_parting hG hr takes0 (ax_cons (EX.toF (ex_op op_mulA ops_mul (FX.toB fx_str) (bx_var (pv 3)))) (ax_cons (EX.toF (ex_op op_mulA ops_mul (FX.toB fx_str) (EX.toB (ex_op op_addA ops_add (bx_var (pv 3)) (bx_var (pv 4)))))) ax_nil)))) (EX.toB (ex_op op_mulA ops_mul (FX.toB fx_str) (EX.toB (ex_op op_addA ops_add (bx_var (pv 3)) (FX.toB fx_int))))) (nomark _)) (wx_or1 (tx_cmp (op_neP hr.units) ops_eq (EX.toB (ex_callD d_likeness hG hr takes0 (ax_cons (EX.toF (ex_op op_mulA ops_mul (FX.toB fx_str) (bx_var (pv 3)))) (ax_cons (EX.toF (ex_op op_mulA ops_mul (FX.toB fx_str) (EX.toB (ex_op op_addA ops_add (bx_var (pv 3)) (bx_var (pv 4)))))) ax_nil)))) (bx_var (pv 3)) (nomark _))))) (ssx_one (sx_ret (FX.toE fx_bl))) ssx_nil)
      (ssx_cons (sx_if (tx_cmp (op_neP hr.units) ops_eq (EX.toB (ex_callD d_parting hG hr takes0 (ax_cons (EX.toF (ex_op op_mulA ops_mul (FX.toB fx_str) (bx_var (pv 3)))) (ax_cons (EX.toF (ex_op op_mulA ops_mul (FX.toB fx_str) (EX.toB (ex_op op_addA ops_add (bx_var (pv 3)) (bx_var (pv 4)))))) ax_nil)))) (EX.toB (ex_op op_mulA ops_mul (FX.toB fx_str) (EX.toB (ex_op op_addA ops_add (bx_var (pv 3)) (FX.toB fx_int))))) (nomark _)) (ssx_one (sx_ret (FX.toE fx_bl))) ssx_nil)
      (ssx_cons (sx_set sc_law.nd (ex_dictL rfl (hu16 hr) m_dict (EX.toB (ex_lcW (own := [("place", 6)]) (g := gName 6) (tt := tYes) (te := tTup (tCons (tTup (tCons (tVar 6) (tCons (tVar 6) (tNil)))) (tCons (tVar 6) (tNil)))) rfl sc_law.nd (blkOk_by (N := ["script", "start", "tape", "many", "more", "told", "place", "k"]) (sc := defScope s_law) (by decide +kernel)) (ix_rng1 (by rfl) m_range (ax_cons (EX.toF (ex_op op_addA ops_add (bx_var (pv 3)) (FX.toB fx_int))) ax_nil)) (gw_name (by decide)) (fun s H C cl fp => (gx_nm sc_law.nd)) (fun s H C cl fp => tsx_nil) (fun s H C cl fp => (EX.toF (ex_tp (ax_cons (EX.toF (ex_tp (ax_cons (fx_var (pv 6)) (ax_cons (fx_var (pv 6)) ax_nil)))) (ax_cons (fx_var (pv 6)) ax_nil)))))))))
      (ssx_cons (sx_if (tx_cmp (op_neP hr.units) ops_eq (EX.toB (ex_lcW (own := [("k", 7)]) (g := gName 7) (tt := tYes) (te := tCallS (spF K mg 4 F_is_table_v3) (WE WN) (tCons (tOp QL.rMul (tC (.str "q")) (tVar 3)) (tCons (tOp QL.rMul (tC (.str "q")) (tOp (QL.rAdd K) (tVar 3) (tVar 4))) (tCons (tVar 7) (tCons (tVar 5) (tNil)))))) rfl sc_law.nd (blkOk_by (N := ["script", "start", "tape", "many", "more", "told", "place", "k"]) (sc := defScope s_law) (by decide +kernel)) (ix_seq (EX.toF (ex_tp (ax_cons (fx_var (pv 3)) (ax_cons (EX.toF (ex_op op_addA ops_add (bx_var (pv 3)) (FX.toB fx_int))) (ax_cons (EX.toF (ex_op op_powB ops_pow (FX.toB fx_int) (FX.toB fx_int))) ax_nil)))))) (gw_name (by decide)) (fun s H C cl fp => (gx_nm sc_law.nd)) (fun s H C cl fp => tsx_nil) (fun s H C cl fp => (EX.toF (ex_callD d_is_table hG hr takes0 (ax_cons (EX.toF (ex_op op_mulA ops_mul (FX.toB fx_str) (bx_var (pv 3)))) (ax_cons (EX.toF (ex_op op_mulA ops_mul (FX.toB fx_str) (EX.toB (ex_op op_addA ops_add (bx_var (pv 3)) (bx_var (pv 4)))))) (ax_cons (fx_var (pv 7)) (ax_cons (fx_var (pv 5)) ax_nil))))))))) (EX.toB (ex_lst (ax_cons fx_bl (ax_cons fx_bl (ax_cons fx_bl ax_nil))))) (nomark _)) (ssx_one (sx_ret (FX.toE fx_bl))) ssx_nil)
      (ssx_cons (sx_if (WXt.t (wx_and (tx_cmp op_gtA ops_ord (bx_var (pv 3)) (FX.toB fx_int) (nomark _)) (wx_and1 (tx_cmp (op_neP hr.units) ops_eq (EX.toB (ex_callD d_likeness hG hr takes0 (ax_cons (EX.toF (ex_op op_mulA ops_mul (FX.toB fx_str) (bx_var (pv 3)))) (ax_cons (EX.toF (ex_op op_mulA ops_mul (FX.toB fx_str) (bx_var (pv 3)))) ax_nil)))) (bx_var (pv 3)) (nomark _))))) (ssx_one (sx_ret (FX.toE fx_bl))) ssx_nil)
      (ssx_one (sx_if (WXt.t (wx_or (tx_not (tx_val (EX.toB (ex_callD d_alike hG hr takes0 (ax_cons (EX.toF (ex_op op_mulA ops_mul (FX.toB fx_str) (EX.toB (ex_op op_addA ops_add (bx_var (pv 3)) (FX.toB fx_int))))) (ax_cons (EX.toF (ex_op op_mulA ops_mul (EX.toB (ex_op op_mulA ops_mul (FX.toB fx_str) (EX.toB (ex_op op_addA ops_add (bx_var (pv 3)) (FX.toB fx_int))))) (FX.toB fx_int))) (ax_cons (EX.toF (ex_op op_addA ops_add (bx_var (pv 3)) (FX.toB fx_int))) ax_nil))))))) (wx_or1 (tx_cmp (op_neP hr.units) ops_eq (EX.toB (ex_callD d_alike hG hr takes0 (ax_cons (EX.toF (ex_op op_mulA ops_mul (FX.toB fx_str) (bx_var (pv 3)))) (ax_cons (EX.toF (ex_op op_mulA ops_mul (FX.toB fx_str) (bx_var (pv 3)))) (ax_cons fx_int ax_nil))))) (EX.toB (ex_cmp (op_eqP hr.units) ops_eq (bx_var (pv 3)) (FX.toB fx_int) (nomark _))) (nomark _))))) (ssx_one (sx_ret (FX.toE fx_bl))) ssx_nil))))))))⟩
    have tE : ∃ t, EX (cxOf (L2.CX P w) P w K mg base ["script", "start", "tape", "many", "more", "told", "place", "k"] "law" (defScope s_law) f cdv A out s H E) WN (lawLast (defBody s_law)) t G_law := ⟨_, (ex_cmp (op_eqP hr.units) ops_eq (EX.toB (ex_lst (ax_cons (EX.toF (ex_callD d_parting hG hr takes0 (ax_cons fx_str (ax_cons fx_str ax_nil)))) (ax_cons (EX.toF (ex_callD d_parting hG hr takes0 (ax_cons fx_str (ax_cons fx_str ax_nil)))) (ax_cons (EX.toF (ex_callD d_likeness hG hr takes0 (ax_cons fx_str (ax_cons fx_str ax_nil)))) ax_nil))))) (EX.toB (ex_lst (ax_cons fx_str (ax_cons fx_str (ax_cons fx_int ax_nil))))) (nomark _))⟩
    obtain ⟨tB, hB⟩ := tB
    obtain ⟨tE, hE⟩ := tE
    refine ⟨tB, tE, hB.sim, hE.sim, ?_⟩
    exact pss_cons (ps_for (passes_of rfl) rfl (pi_range1 (by rfl) m_range (pa_cons (pe_callB (call_max2 rfl) (by rfl) m_max PyProof.Rows.boot_max (pa_cons pe_int (pa_cons (pe_callB (call_min2 rfl) (by rfl) m_min PyProof.Rows.boot_min (pa_cons pe_int (pa_cons (pe_callB call_len (by rfl) m_len PySem.boot_len (pa_cons (pv 0) pa_nil)) pa_nil))) pa_nil))) pa_nil)) (pg_name (i := 1) sc_law.nd rfl (by first | exact Or.inl rfl | exact Or.inr rfl))
      (pss_cons (ps_set (i := 2) sc_law.nd rfl (by first | exact Or.inl rfl | exact Or.inr rfl) (pe_callF FT hG (hr.mono (by decide)) (by rfl) gT kT bT takes0 (pa_cons (pv 0) (pa_cons (pv 1) pa_nil)))) hB.ps))
      (pss_one (ps_ret hE.pe))
end
set_option maxHeartbeats 0 in
theorem all_mk {l : PySem.W.OpenLaw} {w : World} {K : PySem.W.Frag} {h : Heap} {mg : Str → Option Value} {fa f0 f1 f2 f3 f4 f5 f6 f7 f8 f9 f10 f11 f12 f13 f14 f15 f16 f17 : Addr} (X : K.In h) (G : h.Ns mainGlobals mg) (hfa : mg "law" = some (.ref fa)) (okL : LawOk 5 [] B_law G_law)
    {od0 an0 od1 an1 od2 an2 od3 an3 od4 an4 od5 an5 od6 an6 od7 an7 od8 an8 od9 an9 od10 an10 od11 an11 od12 an12 od13 an13 od14 an14 od15 an15 od16 an16 od17 an17 : Option Addr} {sl0 sl1 sl2 sl3 sl4 sl5 sl6 sl7 sl8 sl9 sl10 sl11 sl12 sl13 sl14 sl15 sl16 sl17 : Array (Option Value)} {oc0 kV0 dc0 pm0 cd0 ct0 oc1 kV1 dc1 pm1 cd1 ct1 oc2 kV2 dc2 pm2 cd2 ct2 oc3 kV3 dc3 pm3 cd3 ct3 oc4 kV4 dc4 pm4 cd4 ct4 oc5 kV5 dc5 pm5 cd5 ct5 oc6 kV6 dc6 pm6 cd6 ct6 oc7 kV7 dc7 pm7 cd7 ct7 oc8 kV8 dc8 pm8 cd8 ct8 oc9 kV9 dc9 pm9 cd9 ct9 oc10 kV10 dc10 pm10 cd10 ct10 oc11 kV11 dc11 pm11 cd11 ct11 oc12 kV12 dc12 pm12 cd12 ct12 oc13 kV13 dc13 pm13 cd13 ct13 oc14 kV14 dc14 pm14 cd14 ct14 oc15 kV15 dc15 pm15 cd15 ct15 oc16 kV16 dc16 pm16 cd16 ct16 oc17 kV17 dc17 pm17 cd17 ct17 : Value}
    {tk0 : Tok}
    (a0 : PySem.W.nsIn K mainGlobals "_law_tape" = some (some (.ref f0))) (l0 : K.lookup f0 = some ⟨oc0, od0, .func (PySem.W.fnOf "_law_tape" "_law_tape" (defArgs s__law_tape) (defBody s__law_tape) (defScope s__law_tape) .none kV0 dc0 pm0 an0 cd0 ct0), sl0⟩) (c0 : PySem.W.codeIn K cd0 "_law_tape" = true) (k0 : PySem.W.keepIn K (.ref f0) = true)
    (a1 : PySem.W.nsIn K mainGlobals "_law_pick" = some (some (.ref f1))) (l1 : K.lookup f1 = some ⟨oc1, od1, .func (PySem.W.fnOf "_law_pick" "_law_pick" (defArgs s__law_pick) (defBody s__law_pick) (defScope s__law_pick) .none kV1 dc1 pm1 an1 cd1 ct1), sl1⟩) (c1 : PySem.W.codeIn K cd1 "_law_pick" = true) (k1 : PySem.W.keepIn K (.ref f1) = true)
    (a2 : PySem.W.nsIn K mainGlobals "is_text" = some (some (.ref f2))) (l2 : K.lookup f2 = some ⟨oc2, od2, .func (PySem.W.fnOf "is_text" "is_text" (defArgs s_is_text) (defBody s_is_text) (defScope s_is_text) .none kV2 dc2 pm2 an2 cd2 ct2), sl2⟩) (c2 : PySem.W.codeIn K cd2 "is_text" = true) (k2 : PySem.W.keepIn K (.ref f2) = true)
    (a3 : PySem.W.nsIn K mainGlobals "must_be_text" = some (some (.ref f3))) (l3 : K.lookup f3 = some ⟨oc3, od3, .func (PySem.W.fnOf "must_be_text" "must_be_text" (defArgs s_must_be_text) (defBody s_must_be_text) (defScope s_must_be_text) .none kV3 dc3 pm3 an3 cd3 ct3), sl3⟩) (c3 : PySem.W.codeIn K cd3 "must_be_text" = true) (k3 : PySem.W.keepIn K (.ref f3) = true)
    (a4 : PySem.W.nsIn K mainGlobals "must_be_texts" = some (some (.ref f4))) (l4 : K.lookup f4 = some ⟨oc4, od4, .func (PySem.W.fnOf "must_be_texts" "must_be_texts" (defArgs s_must_be_texts) (defBody s_must_be_texts) (defScope s_must_be_texts) .none kV4 dc4 pm4 an4 cd4 ct4), sl4⟩) (c4 : PySem.W.codeIn K cd4 "must_be_texts" = true) (k4 : PySem.W.keepIn K (.ref f4) = true)
    (a5 : PySem.W.nsIn K mainGlobals "letters_in" = some (some (.ref f5))) (l5 : K.lookup f5 = some ⟨oc5, od5, .func (PySem.W.fnOf "letters_in" "letters_in" (defArgs s_letters_in) (defBody s_letters_in) (defScope s_letters_in) .none kV5 dc5 pm5 an5 cd5 ct5), sl5⟩) (c5 : PySem.W.codeIn K cd5 "letters_in" = true) (k5 : PySem.W.keepIn K (.ref f5) = true)
    (a6 : PySem.W.nsIn K mainGlobals "moves" = some (some (.ref f6))) (l6 : K.lookup f6 = some ⟨oc6, od6, .func (PySem.W.fnOf "moves" "moves" (defArgs s_moves) (defBody s_moves) (defScope s_moves) .none kV6 dc6 pm6 an6 cd6 ct6), sl6⟩) (c6 : PySem.W.codeIn K cd6 "moves" = true) (k6 : PySem.W.keepIn K (.ref f6) = true)
    (a7 : PySem.W.nsIn K mainGlobals "first_parting" = some (some (.ref f7))) (l7 : K.lookup f7 = some ⟨oc7, od7, .func (PySem.W.fnOf "first_parting" "first_parting" (defArgs s_first_parting) (defBody s_first_parting) (defScope s_first_parting) .none kV7 dc7 pm7 an7 cd7 ct7), sl7⟩) (c7 : PySem.W.codeIn K cd7 "first_parting" = true) (k7 : PySem.W.keepIn K (.ref f7) = true)
    (a8 : PySem.W.nsIn K mainGlobals "parting" = some (some (.ref f8))) (l8 : K.lookup f8 = some ⟨oc8, od8, .func (PySem.W.fnOf "parting" "parting" (defArgs s_parting) (defBody s_parting) (defScope s_parting) .none kV8 dc8 pm8 an8 cd8 ct8), sl8⟩) (c8 : PySem.W.codeIn K cd8 "parting" = true) (k8 : PySem.W.keepIn K (.ref f8) = true)
    (a9 : PySem.W.nsIn K mainGlobals "likeness" = some (some (.ref f9))) (l9 : K.lookup f9 = some ⟨oc9, od9, .func (PySem.W.fnOf "likeness" "likeness" (defArgs s_likeness) (defBody s_likeness) (defScope s_likeness) .none kV9 dc9 pm9 an9 cd9 ct9), sl9⟩) (c9 : PySem.W.codeIn K cd9 "likeness" = true) (k9 : PySem.W.keepIn K (.ref f9) = true)
    (a10 : PySem.W.nsIn K mainGlobals "is_count" = some (some (.ref f10))) (l10 : K.lookup f10 = some ⟨oc10, od10, .func (PySem.W.fnOf "is_count" "is_count" (defArgs s_is_count) (defBody s_is_count) (defScope s_is_count) .none kV10 dc10 pm10 an10 cd10 ct10), sl10⟩) (c10 : PySem.W.codeIn K cd10 "is_count" = true) (k10 : PySem.W.keepIn K (.ref f10) = true)
    (a11 : PySem.W.nsIn K mainGlobals "must_be_reach" = some (some (.ref f11))) (l11 : K.lookup f11 = some ⟨oc11, od11, .func (PySem.W.fnOf "must_be_reach" "must_be_reach" (defArgs s_must_be_reach) (defBody s_must_be_reach) (defScope s_must_be_reach) .none kV11 dc11 pm11 an11 cd11 ct11), sl11⟩) (c11 : PySem.W.codeIn K cd11 "must_be_reach" = true) (k11 : PySem.W.keepIn K (.ref f11) = true)
    (a12 : PySem.W.nsIn K mainGlobals "is_carried" = some (some (.ref f12))) (l12 : K.lookup f12 = some ⟨oc12, od12, .func (PySem.W.fnOf "is_carried" "is_carried" (defArgs s_is_carried) (defBody s_is_carried) (defScope s_is_carried) .none kV12 dc12 pm12 an12 cd12 ct12), sl12⟩) (c12 : PySem.W.codeIn K cd12 "is_carried" = true) (k12 : PySem.W.keepIn K (.ref f12) = true)
    (a13 : PySem.W.nsIn K mainGlobals "is_entry" = some (some (.ref f13))) (l13 : K.lookup f13 = some ⟨oc13, od13, .func (PySem.W.fnOf "is_entry" "is_entry" (defArgs s_is_entry) (defBody s_is_entry) (defScope s_is_entry) .none kV13 dc13 pm13 an13 cd13 ct13), sl13⟩) (c13 : PySem.W.codeIn K cd13 "is_entry" = true) (k13 : PySem.W.keepIn K (.ref f13) = true)
    (a14 : PySem.W.nsIn K mainGlobals "is_table" = some (some (.ref f14))) (l14 : K.lookup f14 = some ⟨oc14, od14, .func (PySem.W.fnOf "is_table" "is_table" (defArgs s_is_table) (defBody s_is_table) (defScope s_is_table) .none kV14 dc14 pm14 an14 cd14 ct14), sl14⟩) (c14 : PySem.W.codeIn K cd14 "is_table" = true) (k14 : PySem.W.keepIn K (.ref f14) = true)
    (a15 : PySem.W.nsIn K mainGlobals "are_alike" = some (some (.ref f15))) (l15 : K.lookup f15 = some ⟨oc15, od15, .func (PySem.W.fnOf "are_alike" "are_alike" (defArgs s_are_alike) (defBody s_are_alike) (defScope s_are_alike) .none kV15 dc15 pm15 an15 cd15 ct15), sl15⟩) (c15 : PySem.W.codeIn K cd15 "are_alike" = true) (k15 : PySem.W.keepIn K (.ref f15) = true)
    (a16 : PySem.W.nsIn K mainGlobals "alike" = some (some (.ref f16))) (l16 : K.lookup f16 = some ⟨oc16, od16, .func (PySem.W.fnOf "alike" "alike" (defArgs s_alike) (defBody s_alike) (defScope s_alike) .none kV16 dc16 pm16 an16 cd16 ct16), sl16⟩) (c16 : PySem.W.codeIn K cd16 "alike" = true) (k16 : PySem.W.keepIn K (.ref f16) = true)
    (a17 : PySem.W.nsIn K mainGlobals "law" = some (some (.ref f17))) (l17 : K.lookup f17 = some ⟨oc17, od17, .func (PySem.W.fnOf "law" "law" (defArgs s_law) (defBody s_law) (defScope s_law) .none kV17 dc17 pm17 an17 cd17 ct17), sl17⟩) (c17 : PySem.W.codeIn K cd17 "law" = true) (k17 : PySem.W.keepIn K (.ref f17) = true)
    (z0 : PySem.W.nsIn K mainGlobals "bool" = some none)
    (z1 : PySem.W.nsIn K mainGlobals "dict" = some none)
    (z2 : PySem.W.nsIn K mainGlobals "int" = some none)
    (z3 : PySem.W.nsIn K mainGlobals "isinstance" = some none)
    (z4 : PySem.W.nsIn K mainGlobals "len" = some none)
    (z5 : PySem.W.nsIn K mainGlobals "max" = some none)
    (z6 : PySem.W.nsIn K mainGlobals "min" = some none)
    (z7 : PySem.W.nsIn K mainGlobals "range" = some none)
    (z8 : PySem.W.nsIn K mainGlobals "set" = some none)
    (z9 : PySem.W.nsIn K mainGlobals "sorted" = some none)
    (z10 : PySem.W.nsIn K mainGlobals "str" = some none)
    (z11 : PySem.W.nsIn K mainGlobals "tuple" = some none)
    (z12 : PySem.W.nsIn K mainGlobals "zip" = some none)
    (v0 : PySem.W.nsIn K mainGlobals "ALPHABET" = some (some (.str "abcdefghijklmnopqrstuvwxyz" tk0)))
    : ∃ fd : FuncData, (∀ (s : Shared) (v : Value), BindsTo s fd ⟨[v], []⟩ [("script", v)]) ∧ ∀ base : Heap, K.In base → base.Ns mainGlobals mg → FnG l.prog w K mg base 6 fa fd ["script"] (spLaw K []) := by
  have e := hfa.symm.trans (PySem.W.mg_of X G a17)
  cases e
  have m_bool := PySem.W.mg_none_of X G z0
  have m_dict := PySem.W.mg_none_of X G z1
  have m_int := PySem.W.mg_none_of X G z2
  have m_isinstance := PySem.W.mg_none_of X G z3
  have m_len := PySem.W.mg_none_of X G z4
  have m_max := PySem.W.mg_none_of X G z5
  have m_min := PySem.W.mg_none_of X G z6
  have m_range := PySem.W.mg_none_of X G z7
  have m_set := PySem.W.mg_none_of X G z8
  have m_sorted := PySem.W.mg_none_of X G z9
  have m_str := PySem.W.mg_none_of X G z10
  have m_tuple := PySem.W.mg_none_of X G z11
  have m_zip := PySem.W.mg_none_of X G z12
  have m_ALPHABET : ∃ tk, mg "ALPHABET" = some (.str "abcdefghijklmnopqrstuvwxyz" tk) := ⟨_, PySem.W.mg_of X G v0⟩
  have Fu0 := fun_mk (st := s__law_tape) l0 c0 k0
  have b0 := Fu0.binds (ps := ["script", "start"]) fun _ _ _ _ _ _ us hl => match us, hl with | [_, _], _ => rfl
  have Fu1 := fun_mk (st := s__law_pick) l1 c1 k1
  have b1 := Fu1.binds (ps := ["tape", "many"]) fun _ _ _ _ _ _ us hl => match us, hl with | [_, _], _ => rfl
  have Fu2 := fun_mk (st := s_is_text) l2 c2 k2
  have b2 := Fu2.binds (ps := ["value"]) fun _ _ _ _ _ _ us hl => match us, hl with | [_], _ => rfl
  have Fu3 := fun_mk (st := s_must_be_text) l3 c3 k3
  have b3 := Fu3.binds (ps := ["value"]) fun _ _ _ _ _ _ us hl => match us, hl with | [_], _ => rfl
  have Fu4 := fun_mk (st := s_must_be_texts) l4 c4 k4
  have b4 := Fu4.binds (ps := ["one", "other"]) fun _ _ _ _ _ _ us hl => match us, hl with | [_, _], _ => rfl
  have Fu5 := fun_mk (st := s_letters_in) l5 c5 k5
  have b5 := Fu5.binds (ps := ["text"]) fun _ _ _ _ _ _ us hl => match us, hl with | [_], _ => rfl
  have Fu6 := fun_mk (st := s_moves) l6 c6 k6
  have b6 := Fu6.binds (ps := ["one", "other", "pair"]) fun _ _ _ _ _ _ us hl => match us, hl with | [_, _, _], _ => rfl
  have Fu7 := fun_mk (st := s_first_parting) l7 c7 k7
  have b7 := Fu7.binds (ps := ["one", "other"]) fun _ _ _ _ _ _ us hl => match us, hl with | [_, _], _ => rfl
  have Fu8 := fun_mk (st := s_parting) l8 c8 k8
  have b8 := Fu8.binds (ps := ["one", "other"]) fun _ _ _ _ _ _ us hl => match us, hl with | [_, _], _ => rfl
  have Fu9 := fun_mk (st := s_likeness) l9 c9 k9
  have b9 := Fu9.binds (ps := ["one", "other"]) fun _ _ _ _ _ _ us hl => match us, hl with | [_, _], _ => rfl
  have Fu10 := fun_mk (st := s_is_count) l10 c10 k10
  have b10 := Fu10.binds (ps := ["value"]) fun _ _ _ _ _ _ us hl => match us, hl with | [_], _ => rfl
  have Fu11 := fun_mk (st := s_must_be_reach) l11 c11 k11
  have b11 := Fu11.binds (ps := ["value"]) fun _ _ _ _ _ _ us hl => match us, hl with | [_], _ => rfl
  have Fu12 := fun_mk (st := s_is_carried) l12 c12 k12
  have b12 := Fu12.binds (ps := ["one", "other", "value", "pair"]) fun _ _ _ _ _ _ us hl => match us, hl with | [_, _, _, _], _ => rfl
  have Fu13 := fun_mk (st := s_is_entry) l13 c13 k13
  have b13 := Fu13.binds (ps := ["one", "other", "key", "number"]) fun _ _ _ _ _ _ us hl => match us, hl with | [_, _, _, _], _ => rfl
  have Fu14 := fun_mk (st := s_is_table) l14 c14 k14
  have b14 := Fu14.binds (ps := ["one", "other", "k", "value"]) fun _ _ _ _ _ _ us hl => match us, hl with | [_, _, _, _], _ => rfl
  have Fu15 := fun_mk (st := s_are_alike) l15 c15 k15
  have b15 := Fu15.binds (ps := ["one", "other", "k"]) fun _ _ _ _ _ _ us hl => match us, hl with | [_, _, _], _ => rfl
  have Fu16 := fun_mk (st := s_alike) l16 c16 k16
  have b16 := Fu16.binds (ps := ["one", "other", "k"]) fun _ _ _ _ _ _ us hl => match us, hl with | [_, _, _], _ => rfl
  have Fu17 := fun_mk (st := s_law) l17 c17 k17
  refine ⟨PySem.W.fnOf "law" "law" (defArgs s_law) (defBody s_law) (defScope s_law) .none kV17 dc17 pm17 an17 cd17 ct17, fun s v => .of_eq rfl, fun base _ _ => ?_⟩
  have d__law_pick : DefT l.prog w K mg base "_law_pick" 1 1 F__law_pick := ⟨_, _, _, fn__law_pick Fu1 m_int, PySem.W.mg_of X G a1, Fu1.kp, b1⟩
  have d_is_text : DefF l.prog w K mg base "is_text" 1 1 F_is_text := ⟨_, _, _, fn_is_text Fu2 m_isinstance m_str m_ALPHABET, PySem.W.mg_of X G a2, Fu2.kp, b2⟩
  have d_must_be_text : DefF l.prog w K mg base "must_be_text" 2 1 F_must_be_text := ⟨_, _, _, fn_must_be_text Fu3 d_is_text, PySem.W.mg_of X G a3, Fu3.kp, b3⟩
  have d_must_be_texts : DefF l.prog w K mg base "must_be_texts" 3 2 F_must_be_texts_v2 := ⟨_, _, _, fn_must_be_texts Fu4 d_must_be_text, PySem.W.mg_of X G a4, Fu4.kp, b4⟩
  have d_letters_in : DefF l.prog w K mg base "letters_in" 1 1 F_letters_in := ⟨_, _, _, fn_letters_in Fu5 m_set m_sorted, PySem.W.mg_of X G a5, Fu5.kp, b5⟩
  have d_moves : DefF l.prog w K mg base "moves" 2 3 F_moves_v2 := ⟨_, _, _, fn_moves Fu6 d_letters_in m_zip, PySem.W.mg_of X G a6, Fu6.kp, b6⟩
  have d_first_parting : DefF l.prog w K mg base "first_parting" 3 2 F_first_parting_v2 := ⟨_, _, _, fn_first_parting Fu7 d_moves, PySem.W.mg_of X G a7, Fu7.kp, b7⟩
  have d_parting : DefF l.prog w K mg base "parting" 4 2 F_parting_v4 := ⟨_, _, _, fn_parting Fu8 d_must_be_texts d_first_parting, PySem.W.mg_of X G a8, Fu8.kp, b8⟩
  have d_likeness : DefF l.prog w K mg base "likeness" 5 2 F_likeness_v4 := ⟨_, _, _, fn_likeness Fu9 d_parting m_len, PySem.W.mg_of X G a9, Fu9.kp, b9⟩
  have d_is_count : DefF l.prog w K mg base "is_count" 1 1 F_is_count := ⟨_, _, _, fn_is_count Fu10 m_bool m_int m_isinstance, PySem.W.mg_of X G a10, Fu10.kp, b10⟩
  have d_must_be_reach : DefF l.prog w K mg base "must_be_reach" 2 1 F_must_be_reach := ⟨_, _, _, fn_must_be_reach Fu11 d_is_count, PySem.W.mg_of X G a11, Fu11.kp, b11⟩
  have d_is_carried : DefF l.prog w K mg base "is_carried" 3 4 F_is_carried_v3 := ⟨_, _, _, fn_is_carried Fu12 d_moves, PySem.W.mg_of X G a12, Fu12.kp, b12⟩
  have d_is_entry : DefF l.prog w K mg base "is_entry" 2 4 F_is_entry := ⟨_, _, _, fn_is_entry Fu13 d_is_count m_isinstance m_len m_tuple, PySem.W.mg_of X G a13, Fu13.kp, b13⟩
  have d_is_table : DefF l.prog w K mg base "is_table" 4 4 F_is_table_v3 := ⟨_, _, _, fn_is_table Fu14 d_must_be_texts d_must_be_reach d_is_carried d_is_entry m_dict m_isinstance, PySem.W.mg_of X G a14, Fu14.kp, b14⟩
  have d_are_alike : DefF l.prog w K mg base "are_alike" 4 3 F_are_alike_v2 := ⟨_, _, _, fn_are_alike Fu15 d_first_parting m_len, PySem.W.mg_of X G a15, Fu15.kp, b15⟩
  have d_alike : DefF l.prog w K mg base "alike" 5 3 F_alike_v4 := ⟨_, _, _, fn_alike Fu16 d_must_be_texts d_must_be_reach d_are_alike, PySem.W.mg_of X G a16, Fu16.kp, b16⟩
  exact fn_law Fu17 (fn__law_tape Fu0 m_int m_len) (PySem.W.mg_of X G a0) Fu0.kp b0 d__law_pick d_parting d_likeness d_is_table d_alike m_dict m_len m_max m_min m_range okL
end K19
namespace QM
open PySem PySem.Spec L2 QL QP
abbrev XPo := Str → List (Str × D) → S → Prop
abbrev XN : XPo := fun _ _ _ => False
def wE {α : Type} (x : Res α) (P : α → S → Prop) (X : XPo) : Prop := match x with
  | .ok a s => P a s
  | .exc c f s => X c f s
  | .bad => False
structure Po where
  nx : S → Prop
  rt : SV → S → Prop
  bk : S → Prop
  ct : S → Prop
  ex : XPo
/-- .. with another wish for the next statement; within a loop -/
def Po.wn (p : Po) (f : S → Prop) : Po := { p with nx := f }
def Po.lp (p : Po) (q : S → Prop) : Po := ⟨q, p.rt, p.nx, q, p.ex⟩
def wS (x : RS) (p : Po) : Prop := match x with
  | .nx s => p.nx s
  | .bk s => p.bk s
  | .ct s => p.ct s
  | .rt v s => p.rt v s
  | .exc c f s => p.ex c f s
  | .bad => False
/-- an operation's answer -/
def wO (z : Option OV) (r : S) (P : SV → S → Prop) : Prop := ∃ z', z = some z' ∧ P (ovS z') r
/-- a target's -/
def wSm (i : Int) (P : Prop) : Prop := sml i = true ∧ P
def wRg (i j : Int) (P : Prop) : Prop := rgOk i j = true ∧ P
def wG (z : Option S) (P : S → Prop) : Prop := ∃ r, z = some r ∧ P r
/-- a branch -/
def wB (b : Bool) (A B : Prop) : Prop := (b = true → A) ∧ (b = false → B)
/-- a value as data, as a bool, as an int .. -/
def wV (x : SV) (P : D → Prop) : Prop := ∃ d, x.view = some d ∧ P d
def wBo (d : D) (P : Bool → Prop) : Prop := ∃ b, d = .bool b ∧ P b
def wIn (d : D) (P : Int → Prop) : Prop := ∃ b, d = .int b ∧ P b
def wIt (d : D) (P : List D → Prop) : Prop := ∃ ds, itemsD d = some ds ∧ P ds
/-- a slot -/
def wL (sl : List (Option SV)) (i : Nat) (P : SV → Prop) : Prop := ∃ x, sl[i]? = some (some x) ∧ P x
def wRS (sl : List (Option SV)) (tp : Option (Int × Int)) (P : S → Prop) : Prop := P ⟨sl, tp⟩
def wRT (r : S) (t : Int × Int) (P : S → Prop) : Prop := P ⟨r.sl, some t⟩
def wU (sl : List (Option SV)) (i : Nat) (x : Option SV) (P : List (Option SV) → Prop) : Prop := i < sl.length ∧ P (sl.set i x)
/-- a def's answer -/
def wF (x : FR) (P : SV → Prop) (X : Str → List (Str × D) → Prop) : Prop := match x with
  | .ok v _ => v.out = true ∧ P v
  | .exc c f _ => X c f
  | .bad => False
def wFT (x : FR) (P : SV → Int × Int → Prop) (X : Str → List (Str × D) → Int × Int → Prop) : Prop := match x with
  | .ok v (some t) => v.out = true ∧ P v t
  | .exc c f (some t) => X c f t
  | _ => False
/-- a def that answers v -/
def Ret (x : FR) (v : SV) : Prop := ∃ tp, x = .ok v tp ∧ v.out = true
class Step (g : Prop) (s : outParam Prop) : Prop where
  go : s → g
section
variable {α β : Type} {P : α → S → Prop} {Q : β → S → Prop} {X : XPo} {r : S} {p : Po}
theorem wE_mono {x : Res α} {P' : α → S → Prop} (h : wE x P X) (hp : ∀ a s, P a s → P' a s) : wE x P' X := by
  cases x with
  | ok a s => exact hp a s h
  | exc c f s => exact h
  | bad => exact h
theorem wE_bind {x : Res α} {k : α → S → Res β} (h : wE x (fun a s => wE (k a s) Q X) X) : wE (x.bind k) Q X := by cases x <;> exact h
theorem wE_bindS {x : Res α} {k : α → S → RS} (h : wE x (fun a s => wS (k a s) p) p.ex) : wS (x.bindS k) p := by cases x <;> exact h
theorem wS_go {x : RS} {k : S → RS} (h : wS x (p.wn fun s => wS (k s) p)) : wS (x.go k) p := by cases x <;> exact h
theorem wS_mono {x : RS} {q : Po} (h : wS x p) (h1 : ∀ s, p.nx s → q.nx s) (h2 : ∀ v s, p.rt v s → q.rt v s) (h3 : ∀ s, p.bk s → q.bk s) (h4 : ∀ s, p.ct s → q.ct s) (h5 : ∀ c f s, p.ex c f s → q.ex c f s) : wS x q := by
  cases x with
  | nx s => exact h1 s h
  | bk s => exact h3 s h
  | ct s => exact h4 s h
  | rt v s => exact h2 v s h
  | exc c f s => exact h5 c f s h
  | bad => exact h
theorem wFT_mono {x : FR} {P P' : SV → Int × Int → Prop} {X X' : Str → List (Str × D) → Int × Int → Prop} (h : wFT x P X) (hp : ∀ v t, P v t → P' v t) (hx : ∀ c f t, X c f t → X' c f t) : wFT x P' X' := by
  cases x with
  | ok v t => cases t with
    | none => exact h
    | some t => exact ⟨h.1, hp v t h.2⟩
  | exc c f t => cases t with
    | none => exact h
    | some t => exact hx c f t h
  | bad => exact h
theorem wFT_use {x : FR} {P P' : SV → Int × Int → Prop} {X : Str → List (Str × D) → Int × Int → Prop} (h : wFT x P (fun _ _ _ => False)) (hp : ∀ v t, P v t → P' v t) : wFT x P' X := wFT_mono h hp fun _ _ _ z => z.elim
theorem wF_ret {x : FR} {v : SV} {P : SV → Prop} {X : Str → List (Str × D) → Prop} (h : Ret x v) (hp : P v) : wF x P X := by
  obtain ⟨tp, e, o⟩ := h
  rw [e]; exact ⟨o, hp⟩
theorem Ret.of_w {x : FR} {v : SV} (h : wF x (fun y => y = v) (fun _ _ => False)) : Ret x v := by
  cases x with
  | ok y t => obtain ⟨a, b⟩ := h; subst b; exact ⟨t, rfl, a⟩
  | exc c f t => exact h.elim
  | bad => exact h.elim
theorem Ret.of_eq {x : FR} {v : SV} {tp} (h : x = .ok v tp) (o : v.out = true := by rfl) : Ret x v := ⟨tp, h, o⟩
end
section
variable {P : SV → S → Prop} {PD : D → S → Prop} {PL : List D → S → Prop} {PS : List SV → S → Prop} {PB : Bool → S → Prop} {PO : Option Int → S → Prop} {X : XPo} {r : S} {p : Po} {fa fb fc : S → Res D} {F G : S → Res SV} {FL : S → Res (List D)} {FS : S → Res (List SV)} {T U V : S → Res Bool} {A B C : S → RS}
  {op op2 : D → D → Option OV} {o1 : D → Option OV} {ob : List D → Option OV} {om : D → List D → Option OV} {d e : D} {x : SV} {i j l n : Nat} {sl : List (Option SV)} {tp : Option (Int × Int)} {ds : List D} {fl fh : S → Res (Option Int)}
instance (priority := low) : Step (wE (fC d r) PD X) (PD d r) := ⟨id⟩
theorem wV_asD {α : Type} {Q : α → S → Prop} {k : D → S → Res α} (h : wV x fun d => wE (k d r) Q X) : wE (asD x r k) Q X := by
  obtain ⟨d, e, h⟩ := h
  unfold asD
  rw [e]; exact h
instance : Step (wE (fD F r) PD X) (wE (F r) (fun x r => wV x fun d => PD d r) X) := ⟨fun h => wE_bind (wE_mono h fun _ _ h => wV_asD h)⟩
instance : Step (wE (eD fa r) P X) (wE (fa r) (fun d r => P (.fz d) r) X) := ⟨fun h => wE_bind h⟩
instance : Step (wE (gV i ⟨sl, tp⟩) PD X) (wL sl i fun x => wV x fun d => PD d ⟨sl, tp⟩) := ⟨fun ⟨x, e, d, e2, h⟩ => by
  show wE (match sl[i]? with | some (some x) => asD x ⟨sl, tp⟩ fun d r => Res.ok d r | _ => .bad) PD X
  rw [e]; exact wV_asD ⟨d, e2, h⟩⟩
/-- a slot taken: frozen from now on -/
def wT (x : SV) (sl : List (Option SV)) (i : Nat) (P : D → List (Option SV) → Prop) : Prop := ∃ d, x.view = some d ∧ P d (sl.set i (some (.fz d)))
instance (priority := low) : Step (wE (fV i ⟨sl, tp⟩) PD X) (wL sl i fun x => wT x sl i fun d sl => PD d ⟨sl, tp⟩) := ⟨fun ⟨x, e, d, e2, h⟩ => by
  show wE (match sl[i]? with | some (some x) => asD x ⟨sl, tp⟩ fun d r => Res.ok d { r with sl := r.sl.set i (some (.fz d)) } | _ => .bad) PD X
  rw [e]; exact wV_asD ⟨d, e2, h⟩⟩
theorem wO_ov {z : Option OV} (h : wO z r P) : wE (ovR z r) P X := by
  obtain ⟨z', e, h⟩ := h
  rw [e]; exact h
instance : Step (wE (fOp op fa fb r) P X) (wE (fa r) (fun x r => wE (fb r) (fun y r => wO (op x y) r P) X) X) := ⟨fun h => wE_bind (wE_mono h fun _ _ h => wE_bind (wE_mono h fun _ _ h => wO_ov h))⟩
instance : Step (wE (fOp1 o1 fa r) P X) (wE (fa r) (fun x r => wO (o1 x) r P) X) := ⟨fun h => wE_bind (wE_mono h fun _ _ h => wO_ov h)⟩
instance : Step (wE (fCB ob FL r) P X) (wE (FL r) (fun x r => wO (ob x) r P) X) := ⟨fun h => wE_bind (wE_mono h fun _ _ h => wO_ov h)⟩
def wSt (d : D) (P : Str → Prop) : Prop := ∃ z, d = .str z ∧ P z
instance : Step (wE (fMt om fa FL r) P X) (wE (fa r) (fun x r => wSt x fun z => wE (FL r) (fun ds r => wO (om (.str z) ds) r P) X) X) := ⟨fun h => wE_bind (wE_mono h fun d r h => by
  obtain ⟨z, e, h⟩ := h
  subst e
  exact wE_bind (wE_mono h fun _ _ h => wO_ov h))⟩
instance : Step (wE (fMtL om fa FL r) P X) (wE (fa r) (fun x r => ∃ z, x = .list z ∧ wE (FL r) (fun ds r => wO (om (.list z) ds) r P) X) X) := ⟨fun h => wE_bind (wE_mono h fun d r h => by
  obtain ⟨z, e, h⟩ := h
  subst e
  exact wE_bind (wE_mono h fun _ _ h => wO_ov h))⟩
instance : Step (wE (aNil r) PL X) (PL [] r) := ⟨id⟩
instance : Step (wE (aCons fa FL r) PL X) (wE (fa r) (fun d r => wE (FL r) (fun ds r => PL (d :: ds) r) X) X) := ⟨fun h => wE_bind (wE_mono h fun _ _ h => wE_bind h)⟩
instance : Step (wE (oNil r) PS X) (PS [] r) := ⟨id⟩
instance : Step (wE (oCons F FS r) PS X) (wE (F r) (fun d r => wE (FS r) (fun ds r => PS (d :: ds) r) X) X) := ⟨fun h => wE_bind (wE_mono h fun _ _ h => wE_bind h)⟩
instance : Step (wE (eLst FL r) P X) (wE (FL r) (fun ds r => ds.length ≤ sizeLine ∧ P (.ol ds) r) X) := ⟨fun h => wE_bind (wE_mono h fun ds r h => by rw [if_pos h.1]; exact h.2)⟩
instance : Step (wE (eTup FL r) P X) (wE (FL r) (fun ds r => ds.length ≤ sizeLine ∧ P (.fz (.tuple ds)) r) X) := ⟨fun h => wE_bind (wE_mono h fun ds r h => by rw [if_pos h.1]; exact h.2)⟩
instance : Step (wE (eDK r) P X) (P (.od []) r) := ⟨id⟩
instance : Step (wE (eDT r) P X) (P (.ot []) r) := ⟨id⟩
instance : Step (wE (oNon r) PO X) (PO none r) := ⟨id⟩
instance : Step (wE (oSom fa r) PO X) (wE (fa r) (fun d r => wIn d fun i => PO (some i) r) X) := ⟨fun h => wE_bind (wE_mono h fun d r h => by
  obtain ⟨z, e, h⟩ := h
  subst e; exact h)⟩
instance : Step (wE (fSl fa fl fh r) P X) (wE (fa r) (fun x r => wE (fl r) (fun l r => wE (fh r) (fun h r => wO (dSl x l h) r P) X) X) X) := ⟨fun h => wE_bind (wE_mono h fun _ _ h => wE_bind (wE_mono h fun _ _ h => wE_bind (wE_mono h fun _ _ h => wO_ov h)))⟩
instance : Step (wE (tV fa r) PB X) (wE (fa r) (fun d r => wBo d fun b => PB b r) X) := ⟨fun h => wE_bind (wE_mono h fun d r h => by
  obtain ⟨z, e, h⟩ := h
  subst e; exact h)⟩
theorem wB_if {α : Type} {Q : α → S → Prop} {b : Bool} {y z : Res α} (h : wB b (wE y Q X) (wE z Q X)) : wE (if b then y else z) Q X := by
  cases b with
  | true => exact h.1 rfl
  | false => exact h.2 rfl
instance : Step (wE (tNotF T r) PB X) (wE (T r) (fun b r => PB (!b) r) X) := ⟨fun h => wE_bind h⟩
instance : Step (wE (tAndF T U r) PB X) (wE (T r) (fun b r => wB b (wE (U r) PB X) (PB false r)) X) := ⟨fun h => wE_bind (wE_mono h fun _ _ h => wB_if h)⟩
instance : Step (wE (tOrF T U r) PB X) (wE (T r) (fun b r => wB b (PB true r) (wE (U r) PB X)) X) := ⟨fun h => wE_bind (wE_mono h fun _ _ h => wB_if h)⟩
instance : Step (wE (tYesF r) PB X) (PB true r) := ⟨id⟩
instance : Step (wE (eAndF fa G r) P X) (wE (fa r) (fun d r => wBo d fun b => wB b (wE (G r) P X) (P (.fz (.bool false)) r)) X) := ⟨fun h => wE_bind (wE_mono h fun d r h => by
  obtain ⟨z, e, h⟩ := h
  subst e
  cases z with
  | true => exact h.1 rfl
  | false => exact h.2 rfl)⟩
instance : Step (wE (eOrF fa G r) P X) (wE (fa r) (fun d r => wBo d fun b => wB b (P (.fz (.bool true)) r) (wE (G r) P X)) X) := ⟨fun h => wE_bind (wE_mono h fun d r h => by
  obtain ⟨z, e, h⟩ := h
  subst e
  cases z with
  | true => exact h.1 rfl
  | false => exact h.2 rfl)⟩
instance : Step (wE (eNotF fa r) P X) (wE (fa r) (fun d r => wBo d fun b => P (.fz (.bool (!b))) r) X) := ⟨fun h => wE_bind (wE_mono h fun d r h => by
  obtain ⟨z, e, h⟩ := h
  subst e; exact h)⟩
instance : Step (wE (eIfF T F G r) P X) (wE (T r) (fun b r => wB b (wE (F r) P X) (wE (G r) P X)) X) := ⟨fun h => wE_bind (wE_mono h fun _ _ h => wB_if h)⟩
instance : Step (wE (eIfT T U V r) PB X) (wE (T r) (fun b r => wB b (wE (U r) PB X) (wE (V r) PB X)) X) := ⟨fun h => wE_bind (wE_mono h fun _ _ h => wB_if h)⟩
instance : Step (wE (fItems fa r) PL X) (wE (fa r) (fun d r => wIt d fun ds => PL ds r) X) := ⟨fun h => wE_bind (wE_mono h fun d r h => by
  obtain ⟨z, e, h⟩ := h
  rw [e]; exact h)⟩
instance : Step (wE (fRng1 FL r) PL X) (wE (FL r) (fun ds r => ∃ j, ds = [.int j] ∧ wSm j (PL (rngL 0 j.toNat) r)) X) := ⟨fun h => wE_bind (wE_mono h fun d r h => by
  obtain ⟨j, e, h1, h⟩ := h
  subst e
  show wE (if sml j = true then Res.ok (rngL 0 j.toNat) r else Res.bad) PL X
  rw [if_pos h1]; exact h)⟩
instance : Step (wE (fRng2 FL r) PL X) (wE (FL r) (fun ds r => ∃ i j, ds = [.int i, .int j] ∧ wSm i (wSm j (PL (rngL i (j - i).toNat) r))) X) := ⟨fun h => wE_bind (wE_mono h fun d r h => by
  obtain ⟨i, j, e, h1, h2, h⟩ := h
  have h1 : sml i = true ∧ sml j = true := ⟨h1, h2⟩
  subst e
  show wE (if sml i = true ∧ sml j = true then Res.ok (rngL i (j - i).toNat) r else Res.bad) PL X
  rw [if_pos h1]; exact h)⟩
instance : Step (wE (fRng3 FL r) PL X) (wE (FL r) (fun ds r => ∃ i j c, ds = [.int i, .int j, .int c] ∧ wSm i (wSm j (c = -1 ∧ PL ((List.range (i - j).toNat).map fun k => .int (i - (k : Nat))) r))) X) := ⟨fun h => wE_bind (wE_mono h fun d r h => by
  obtain ⟨i, j, c, e, ha, hb, hc, h⟩ := h
  have h1 : sml i = true ∧ sml j = true ∧ c = -1 := ⟨ha, hb, hc⟩
  subst e
  show wE (if sml i = true ∧ sml j = true ∧ c = -1 then Res.ok ((List.range (i - j).toNat).map fun k => PyData.int (i - (k : Nat))) r else Res.bad) PL X
  rw [if_pos h1]; exact h)⟩
instance : Step (wE (fLRg1 fa r) P X) (wE (fa r) (fun d r => wIn d fun n => wRg 0 n (P (.ol (rngL 0 (n - 0).toNat)) r)) X) := ⟨fun h => wE_bind (wE_mono h fun d r h => by
  obtain ⟨n, e, h1, h⟩ := h
  subst e
  show wE (if rgOk 0 n = true then Res.ok (SV.ol (rngL 0 (n - 0).toNat)) r else Res.bad) P X
  rw [if_pos h1]; exact h)⟩
instance : Step (wE (fEnum FL r) PL X) (wE (FL r) (fun ds r => ∃ d es, ds = [d] ∧ (d = .list es ∨ ∃ z : Str, d = .str z ∧ es = z.cps.toList.map fun c => .str (tx [c])) ∧ PL (enumL es) r) X) := ⟨fun h => wE_bind (wE_mono h fun d r h => by
  obtain ⟨d, es, e, h1, h⟩ := h
  subst e
  rcases h1 with h1 | ⟨z, h1, h2⟩
  · subst h1; exact h
  · subst h1 h2; exact h)⟩
variable {a1 a3 a4 : S → Prop} {a2 : SV → S → Prop} {a5 : XPo} {f : S → Prop} {cx : Str} {fx : List (Str × D)}
instance : Step (Po.nx ⟨a1, a2, a3, a4, a5⟩ r) (a1 r) := ⟨id⟩
instance : Step (Po.rt ⟨a1, a2, a3, a4, a5⟩ x r) (a2 x r) := ⟨id⟩
instance : Step (Po.bk ⟨a1, a2, a3, a4, a5⟩ r) (a3 r) := ⟨id⟩
instance : Step (Po.ct ⟨a1, a2, a3, a4, a5⟩ r) (a4 r) := ⟨id⟩
instance : Step (Po.ex ⟨a1, a2, a3, a4, a5⟩ cx fx r) (a5 cx fx r) := ⟨id⟩
instance : Step (Po.nx (p.wn f) r) (f r) := ⟨id⟩
instance : Step (Po.rt (p.wn f) x r) (p.rt x r) := ⟨id⟩
instance : Step (Po.bk (p.wn f) r) (p.bk r) := ⟨id⟩
instance : Step (Po.ct (p.wn f) r) (p.ct r) := ⟨id⟩
instance : Step (Po.ex (p.wn f) cx fx r) (p.ex cx fx r) := ⟨id⟩
instance : Step (Po.nx (p.lp f) r) (f r) := ⟨id⟩
instance : Step (Po.rt (p.lp f) x r) (p.rt x r) := ⟨id⟩
instance : Step (Po.bk (p.lp f) r) (p.nx r) := ⟨id⟩
instance : Step (Po.ct (p.lp f) r) (f r) := ⟨id⟩
instance : Step (Po.ex (p.lp f) cx fx r) (p.ex cx fx r) := ⟨id⟩
instance : Step (wS (sSeq A B r) p) (wS (A r) (p.wn fun s => wS (B s) p)) := ⟨fun h => wS_go h⟩
instance : Step (wS (sNext r) p) (p.nx r) := ⟨id⟩
theorem wB_ifS {b : Bool} {y z : RS} (h : wB b (wS y p) (wS z p)) : wS (if b then y else z) p := by
  cases b with
  | true => exact h.1 rfl
  | false => exact h.2 rfl
instance : Step (wS (sIf T A B r) p) (wE (T r) (fun b r => wB b (wS (A r) p) (wS (B r) p)) p.ex) := ⟨fun h => wE_bindS (wE_mono h fun _ _ h => wB_ifS h)⟩
instance : Step (wS (sExp F r) p) (wE (F r) (fun _ r => p.nx r) p.ex) := ⟨fun h => wE_bindS h⟩
instance : Step (wS (sRet F r) p) (wE (F r) (fun x r => p.rt x r) p.ex) := ⟨fun h => wE_bindS h⟩
instance : Step (wS (sRetN r) p) (p.rt (.fz .none) r) := ⟨id⟩
instance : Step (wS (sRetV i ⟨sl, tp⟩) p) (wL sl i fun x => p.rt x ⟨sl.set i none, tp⟩) := ⟨fun ⟨x, e, h⟩ => by
  show wS (match sl[i]? with | some (some x) => RS.rt x ⟨sl.set i none, tp⟩ | _ => .bad) p
  rw [e]; exact h⟩
theorem wU_set (h : wU sl i (some x) fun sl => p.nx ⟨sl, tp⟩) : wS (setS i x ⟨sl, tp⟩) p := by
  show wS (if i < sl.length then RS.nx ⟨sl.set i (some x), tp⟩ else .bad) p
  rw [if_pos h.1]; exact h.2
instance : Step (wS (sAsg i F r) p) (wE (F r) (fun x r => wS (setS i x r) p) p.ex) := ⟨fun h => wE_bindS h⟩
instance : Step (wS (setS i x ⟨sl, tp⟩) p) (wU sl i (some x) fun sl => p.nx ⟨sl, tp⟩) := ⟨fun h => wU_set h⟩
instance : Step (wS (sPar2 i j FS r) p) (wE (FS r) (fun xs r => ∃ x y, xs = [x, y] ∧ wS (setS i x r) (p.wn fun r => wS (setS j y r) p)) p.ex) := ⟨fun h => wE_bindS (wE_mono h fun xs r h => by
  obtain ⟨x, y, e, h⟩ := h
  subst e
  exact wS_go h)⟩
instance : Step (wS (sPar3 i j l FS r) p) (wE (FS r) (fun xs r => ∃ x y z, xs = [x, y, z] ∧ wS (setS i x r) (p.wn fun r => wS (setS j y r) (p.wn fun r => wS (setS l z r) p))) p.ex) := ⟨fun h => wE_bindS (wE_mono h fun xs r h => by
  obtain ⟨x, y, z, e, h⟩ := h
  subst e
  exact wS_go (wS_mono h (fun s h => wS_go h) (fun _ _ h => h) (fun _ h => h) (fun _ h => h) (fun _ _ _ h => h)))⟩
def wAll : List Nat → List SV → S → (S → Prop) → Prop
  | [], [], r, P => P r
  | i :: is, x :: xs, r, P => wU r.sl i (some x) fun sl => wAll is xs ⟨sl, r.tp⟩ P
  | _, _, _, _ => False
theorem wAll_set : ∀ (is : List Nat) (xs : List SV) (r : S), wAll is xs r p.nx → wS (setAll is xs r) p
  | [], [], r, h => h
  | i :: is, x :: xs, r, h => wS_go (wU_set (tp := r.tp) (sl := r.sl) ⟨h.1, wAll_set is xs _ h.2⟩)
  | [], _ :: _, r, h => h.elim
  | _ :: _, [], r, h => h.elim
instance {is : List Nat} : Step (wS (sParN is FS r) p) (wE (FS r) (fun xs r => xs.length = is.length ∧ wAll is xs r p.nx) p.ex) := ⟨fun h => wE_bindS (wE_mono h fun xs r h => by
  rw [if_pos h.1]; exact wAll_set is xs r h.2)⟩
instance : Step (wS (sUnp fa G' r) p) (wE (fa r) (fun d r => wG (G' d r) p.nx) p.ex) := ⟨fun h => wE_bindS (wE_mono h fun d r h => by
  obtain ⟨r', e, h⟩ := h
  rw [e]; exact h)⟩
/-- what a list in a slot gets -/
def wA (x : SV) (P : List D → Prop) : Prop := ∃ xs, x = .ol xs ∧ P xs
instance : Step (wS (sApp i fa ⟨sl, tp⟩) p) (wL sl i fun x => wA x fun _ => wE (fa ⟨sl, tp⟩) (fun d r => wL r.sl i fun x => wA x fun xs => xs.length < sizeLine ∧ wU r.sl i (some (.ol (xs ++ [d]))) fun sl => wRS sl r.tp p.nx) p.ex) := ⟨fun ⟨x, e, xs, e2, h⟩ => by
  show wS (match sl[i]? with
    | some (some (.ol _)) => (fa ⟨sl, tp⟩).bindS fun d r => match r.sl[i]? with
      | some (some (.ol xs)) => if xs.length < sizeLine then RS.nx { r with sl := r.sl.set i (some (.ol (xs ++ [d]))) } else RS.bad
      | _ => RS.bad
    | _ => .bad) p
  subst e2
  rw [e]
  refine wE_bindS (wE_mono h fun d r h => ?_)
  obtain ⟨y, e3, ys, e4, h1, h⟩ := h
  subst e4
  rw [e3]
  dsimp only
  rw [if_pos h1]; exact h.2⟩
instance {f : Int → Int → Int} : Step (wS (sAug i f fa ⟨sl, tp⟩) p) (wL sl i fun x => ∃ a, x = .fz (.int a) ∧ wE (fa ⟨sl, tp⟩) (fun d r => wIn d fun b => wS (setS i (.fz (.int (f a b))) r) p) p.ex) := ⟨fun ⟨x, e, a, e2, h⟩ => by
  show wS (match sl[i]? with
    | some (some (.fz (.int a))) => (fa ⟨sl, tp⟩).bindS fun d r => match d with
      | .int b => setS i (.fz (.int (f a b))) r
      | _ => RS.bad
    | _ => RS.bad) p
  subst e2
  rw [e]
  refine wE_bindS (wE_mono h fun d r h => ?_)
  obtain ⟨b, e3, h⟩ := h
  subst e3
  exact h⟩
instance : Step (wS (RS.nx r) p) (p.nx r) := ⟨id⟩
instance : Step (wS (RS.ct r) p) (p.ct r) := ⟨id⟩
instance : Step (wS (RS.bk r) p) (p.bk r) := ⟨id⟩
instance {I : S → Res (List D)} {Gf : D → S → Option S} : Step (wS (sFor I Gf B r) p) (wE (I r) (fun ds r => wS (forF Gf B ds r) p) p.ex) := ⟨fun h => wE_bindS h⟩
theorem wF_out {x : FR} (h : wF x (fun v => P v r) (fun c f => X c f r)) : wE (outR x r) P X := by
  cases x with
  | ok v t =>
    unfold outR
    dsimp only
    rw [if_pos h.1]; exact h.2
  | exc c f t => exact h
  | bad => exact h
instance {FD : List D → FR} : Step (wE (fCall n FD FL r) P X) (wE (FL r) (fun ds r => ds.length = n ∧ wF (FD ds) (fun v => P v r) (fun c f => X c f r)) X) := ⟨fun h => wE_bind (wE_mono h fun ds r h => by
  rw [if_pos h.1]; exact wF_out h.2)⟩
theorem wFT_out {x : FR} (h : wFT x (fun v t => P v { r with tp := some t }) (fun c f t => X c f { r with tp := some t })) : wE (outT x r) P X := by
  cases x with
  | ok v t => cases t with
    | none => exact h
    | some t =>
      unfold outT
      dsimp only
      rw [if_pos h.1]; exact h.2
  | exc c f t => cases t with
    | none => exact h
    | some t => exact h
  | bad => exact h
instance {FD : Int × Int → List D → FR} : Step (wE (fCallT i n FD FL ⟨sl, tp⟩) P X) (wL sl i fun x => x = .tape ∧ wE (FL ⟨sl, tp⟩) (fun ds r => ds.length = n ∧ ∃ t, r.tp = some t ∧ wFT (FD t ds) (fun v t => wRT r t fun r => P v r) (fun c f t => wRT r t fun r => X c f r)) X) := ⟨fun ⟨x, e, e2, h⟩ => by
  show wE (match sl[i]? with
  | some (some .tape) => (FL ⟨sl, tp⟩).bind fun ds r => match r.tp with
    | some t => if ds.length = n then outT (FD t ds) r else .bad
    | none => .bad
  | _ => .bad) P X
  subst e2
  rw [e]
  refine wE_bind (wE_mono h fun ds r h => ?_)
  obtain ⟨h1, t, e3, h⟩ := h
  rw [e3]
  dsimp only
  rw [if_pos h1]
  exact wFT_out h⟩
theorem wF_body {PF : SV → Prop} {XF : Str → List (Str × D) → Prop} (h : wS (B (mkS n (ds.map .fz) none)) ⟨fun _ => PF (.fz .none), fun x _ => x.out = true ∧ PF x, fun _ => False, fun _ => False, fun c f _ => XF c f⟩) : wF (bodyF n B ds) PF XF := by
  unfold bodyF
  cases e : B (mkS n (ds.map .fz) none) with
  | nx r => rw [e] at h; exact ⟨rfl, h⟩
  | bk r => rw [e] at h; exact h
  | ct r => rw [e] at h; exact h
  | rt v r =>
    rw [e] at h
    unfold outF
    dsimp only
    rw [if_pos h.1]; exact h
  | exc c f r => rw [e] at h; exact h
  | bad => rw [e] at h; exact h
theorem wFT_body {t : Int × Int} {PF : SV → Int × Int → Prop} {XF : Str → List (Str × D) → Int × Int → Prop} (h : wS (B (mkS n (.tape :: ds.map .fz) (some t))) ⟨fun r => ∃ t, r.tp = some t ∧ PF (.fz .none) t, fun x r => x.out = true ∧ ∃ t, r.tp = some t ∧ PF x t, fun _ => False, fun _ => False, fun c f r => ∃ t, r.tp = some t ∧ XF c f t⟩) : wFT (bodyT n B t ds) PF XF := by
  unfold bodyT
  cases e : B (mkS n (.tape :: ds.map .fz) (some t)) with
  | nx r =>
    rw [e] at h
    obtain ⟨t, e2, h⟩ := h
    unfold outF
    dsimp only
    rw [e2]; exact ⟨rfl, h⟩
  | bk r => rw [e] at h; exact h
  | ct r => rw [e] at h; exact h
  | rt v r =>
    rw [e] at h
    obtain ⟨h1, t, e2, h⟩ := h
    unfold outF
    dsimp only
    rw [if_pos h1, e2]; exact ⟨h1, h⟩
  | exc c f r =>
    rw [e] at h
    obtain ⟨t, e2, h⟩ := h
    unfold outF
    dsimp only
    rw [e2]; exact h
  | bad => rw [e] at h; exact h
end
end QM
namespace QM
open PySem PySem.Spec L2 QL QP
class Get (l : List (Option SV)) (i : Nat) (x : outParam (Option SV)) : Prop where
  eq : l[i]? = some x
instance {a : Option SV} {l : List (Option SV)} : Get (a :: l) 0 a := ⟨rfl⟩
instance {a x : Option SV} {l : List (Option SV)} {i : Nat} [h : Get l i x] : Get (a :: l) (i + 1) x := ⟨by simpa using h.eq⟩
class SetL (l : List (Option SV)) (i : Nat) (x : Option SV) (l' : outParam (List (Option SV))) : Prop where
  lt : i < l.length
  eq : l.set i x = l'
instance {a x : Option SV} {l : List (Option SV)} : SetL (a :: l) 0 x (x :: l) := ⟨by simp, rfl⟩
instance {a x : Option SV} {l l' : List (Option SV)} {i : Nat} [h : SetL l i x l'] : SetL (a :: l) (i + 1) x (a :: l') := ⟨by simpa using h.lt, by rw [List.set_cons_succ, h.eq]⟩
class OfS (s : String) (l : outParam (List Nat)) : Prop where
  eq : Str.ofString s = tx l
section
variable {P : SV → S → Prop} {PD : D → S → Prop} {X : XPo} {r : S} {d e : D} {x y : SV} {i j n : Nat} {a b : Int} {u v : Bool} {l m : List Nat} {sl sl' : List (Option SV)} {tp : Option (Int × Int)} {ds es : List D} {A B : Prop}
instance {Q : SV → Prop} [h : Get sl i (some x)] : Step (wL sl i Q) (Q x) := ⟨fun q => ⟨x, h.eq, q⟩⟩
instance {Q : List (Option SV) → Prop} {z : Option SV} [h : SetL sl i z sl'] : Step (wU sl i z Q) (Q sl') := ⟨fun q => ⟨h.lt, by rw [h.eq]; exact q⟩⟩
theorem set_same {l : List (Option SV)} {i : Nat} {x : Option SV} (h : l[i]? = some x) : l.set i x = l := by
  obtain ⟨hi, e⟩ := List.getElem?_eq_some_iff.mp h
  rw [← e, List.set_getElem_self]
theorem w_fV (h : sl[i]? = some (some x)) (hv : x.view = some d) (q : PD d ⟨sl.set i (some (.fz d)), tp⟩) : wE (fV i ⟨sl, tp⟩) PD X := by
  show wE (match sl[i]? with | some (some x) => asD x ⟨sl, tp⟩ fun d r => Res.ok d { r with sl := r.sl.set i (some (.fz d)) } | _ => .bad) PD X
  rw [h]; exact wV_asD ⟨d, hv, q⟩
instance [h : Get sl i (some (.fz d))] : Step (wE (fV i ⟨sl, tp⟩) PD X) (PD d ⟨sl, tp⟩) := ⟨fun q => w_fV h.eq rfl (by rw [set_same h.eq]; exact q)⟩
instance [h : Get sl i (some (.ol ds))] [h2 : SetL sl i (some (.fz (.list ds))) sl'] : Step (wE (fV i ⟨sl, tp⟩) PD X) (PD (.list ds) ⟨sl', tp⟩) := ⟨fun q => w_fV h.eq rfl (by rw [h2.eq]; exact q)⟩
instance {kvs : List (D × D)} [h : Get sl i (some (.od kvs))] [h2 : SetL sl i (some (.fz (.dict kvs))) sl'] : Step (wE (fV i ⟨sl, tp⟩) PD X) (PD (.dict kvs) ⟨sl', tp⟩) := ⟨fun q => w_fV h.eq rfl (by rw [h2.eq]; exact q)⟩
instance {s : String} [h : OfS s l] : Step (wE (fC (.str (Str.ofString s)) r) PD X) (PD (.str (tx l)) r) := ⟨fun q => by rw [h.eq]; exact q⟩
instance {Q : D → Prop} : Step (wV (.fz d) Q) (Q d) := ⟨fun q => ⟨_, rfl, q⟩⟩
instance {Q : D → Prop} : Step (wV (.ol ds) Q) (Q (.list ds)) := ⟨fun q => ⟨_, rfl, q⟩⟩
instance {Q : D → Prop} {kvs : List (D × D)} : Step (wV (.od kvs) Q) (Q (.dict kvs)) := ⟨fun q => ⟨_, rfl, q⟩⟩
instance {Q : D → Prop} {kvs : List (D × D)} : Step (wV (.ot kvs) Q) (Q (.dict kvs)) := ⟨fun q => ⟨_, rfl, q⟩⟩
instance {Q : List D → Prop} : Step (wA (.ol ds) Q) (Q ds) := ⟨fun q => ⟨_, rfl, q⟩⟩
instance {Q : Bool → Prop} : Step (wBo (.bool u) Q) (Q u) := ⟨fun q => ⟨_, rfl, q⟩⟩
instance {Q : Int → Prop} : Step (wIn (.int a) Q) (Q a) := ⟨fun q => ⟨_, rfl, q⟩⟩
instance {Q : Str → Prop} {z : Str} : Step (wSt (.str z) Q) (Q z) := ⟨fun q => ⟨_, rfl, q⟩⟩
instance {Q : List D → Prop} : Step (wIt (.list ds) Q) (Q ds) := ⟨fun q => ⟨_, rfl, q⟩⟩
instance {Q : List D → Prop} : Step (wIt (.tuple ds) Q) (Q ds) := ⟨fun q => ⟨_, rfl, q⟩⟩
instance {Q : S → Prop} : Step (wRS sl tp Q) (Q ⟨sl, tp⟩) := ⟨id⟩
instance {Q : S → Prop} : Step (wRS sl (S.tp ⟨sl', tp⟩) Q) (Q ⟨sl, tp⟩) := ⟨id⟩
instance {Q : S → Prop} {t : Int × Int} : Step (wRT ⟨sl, tp⟩ t Q) (Q ⟨sl, some t⟩) := ⟨id⟩
instance {Q : SV → Prop} [h : Get sl i (some x)] : Step (wL (S.sl ⟨sl, tp⟩) i Q) (Q x) := ⟨fun q => ⟨x, h.eq, q⟩⟩
instance {Q : List (Option SV) → Prop} {z : Option SV} [h : SetL sl i z sl'] : Step (wU (S.sl ⟨sl, tp⟩) i z Q) (Q sl') := ⟨fun q => ⟨h.lt, by show Q (sl.set i z); rw [h.eq]; exact q⟩⟩
def ltrs (l : List Nat) : List D := l.map fun c => .str (tx [c])
instance {Q : List D → Prop} : Step (wIt (.str (tx l)) Q) (Q (ltrs l)) := ⟨fun q => ⟨_, rfl, q⟩⟩
instance : Step (wB true A B) A := ⟨fun q => ⟨fun _ => q, fun h => absurd h (by decide)⟩⟩
instance : Step (wB false A B) B := ⟨fun q => ⟨fun h => absurd h (by decide), fun _ => q⟩⟩
instance : Step (wB (id u) A B) (wB u A B) := ⟨id⟩
instance : Step (wB (!u) A B) (wB u B A) := ⟨fun q => ⟨fun h => q.2 (by simpa using h), fun h => q.1 (by simpa using h)⟩⟩
theorem wB_t {b : Bool} (h : b = true) (q : A) : wB b A B := ⟨fun _ => q, fun z => by rw [h] at z; cases z⟩
theorem wB_f {b : Bool} (h : b = false) (q : B) : wB b A B := ⟨fun z => absurd (h.symm.trans z) (by decide), fun _ => q⟩
theorem wB_d {p : Prop} [Decidable p] (h1 : p → A) (h2 : ¬ p → B) : wB (decide p) A B := ⟨fun h => h1 (of_decide_eq_true h), fun h => h2 (of_decide_eq_false h)⟩
instance {Q : S → Prop} [h : SetL sl i (some (.fz d)) sl'] : Step (wG (gNm i d ⟨sl, tp⟩) Q) (Q ⟨sl', tp⟩) := ⟨fun q => ⟨⟨sl', tp⟩, by
  show (if i < sl.length then some (⟨sl.set i (some (.fz d)), tp⟩ : S) else none) = _
  rw [if_pos h.lt, h.eq], q⟩⟩
instance {Q : S → Prop} : Step (wG (gNilF [] r) Q) (Q r) := ⟨fun q => ⟨r, rfl, q⟩⟩
instance {Q : S → Prop} {G : D → S → Option S} {Gs : List D → S → Option S} : Step (wG (gConsF G Gs (d :: ds) r) Q) (wG (G d r) fun r => wG (Gs ds r) Q) := ⟨fun ⟨r1, e1, r2, e2, q⟩ => ⟨r2, by
  unfold gConsF
  dsimp only
  rw [e1]; exact e2, q⟩⟩
instance {Q : S → Prop} {Gs : List D → S → Option S} : Step (wG (gTupF n Gs (.tuple ds) r) Q) (ds.length = n ∧ wG (Gs ds r) Q) := ⟨fun ⟨h, r1, e1, q⟩ => ⟨r1, by
  unfold gTupF
  dsimp only
  rw [if_pos h]; exact e1, q⟩⟩
theorem wO_of {z : Option OV} {z' : OV} (h : z = some z') (q : P (ovS z') r) : wO z r P := ⟨z', h, q⟩
instance : Step (wO (dAdd (.int a) (.int b)) r P) (P (.fz (.int (a + b))) r) := ⟨fun q => ⟨.fz _, rfl, q⟩⟩
instance : Step (wO (dAdd (.str (tx l)) (.str (tx m))) r P) (l.length + m.length ≤ sizeLine ∧ P (.fz (.str (tx (l ++ m)))) r) := ⟨fun q => wO_of (z' := .fz (.str (tx (l ++ m)))) (by simp [q.1]) q.2⟩
instance : Step (wO (dAdd (.list ds) (.list es)) r P) (ds.length + es.length ≤ sizeLine ∧ P (.ol (ds ++ es)) r) := ⟨fun q => wO_of (z' := .nl (ds ++ es)) (by simp [q.1]) q.2⟩
instance : Step (wO (dSub (.int a) (.int b)) r P) (P (.fz (.int (a - b))) r) := ⟨fun q => ⟨.fz _, rfl, q⟩⟩
instance : Step (wO (dMul (.int a) (.int b)) r P) (bitsI a + bitsI b ≤ 134217728 ∧ P (.fz (.int (a * b))) r) := ⟨fun q => wO_of (z' := .fz (.int (a * b))) (by simp [q.1]) q.2⟩
instance : Step (wO (dMul (.list ds) (.int b)) r P) ((ds.length * b.toNat ≤ sizeLine ∧ -(2 ^ 40) < b ∧ b < 2 ^ 40) ∧ P (.ol (List.replicate b.toNat ds).flatten) r) := ⟨fun q => wO_of (z' := .nl _) (by rw [d_mulL, if_pos q.1]) q.2⟩
instance : Step (wO (dMul (.str (tx l)) (.int b)) r P) ((l.length * b.toNat ≤ sizeLine ∧ -(2 ^ 40) < b ∧ b < 2 ^ 40) ∧ P (.fz (.str (tx (List.replicate b.toNat l).flatten))) r) := ⟨fun q => wO_of (z' := .fz (.str (tx (List.replicate b.toNat l).flatten))) (by rw [d_mulS, tx_len', if_pos q.1]; rfl) q.2⟩
instance : Step (wO (dFdiv (.int a) (.int b)) r P) ((0 < b ∧ b < 1000000000000000000000000000000) ∧ P (.fz (.int (a / b))) r) := ⟨fun q => wO_of (z' := .fz (.int (a / b))) (by rw [d_div, if_pos q.1]) q.2⟩
instance : Step (wO (dMod (.int a) (.int b)) r P) (0 < b ∧ P (.fz (.int (a % b))) r) := ⟨fun q => wO_of (z' := .fz (.int (a % b))) (by rw [d_mod, if_pos q.1]) q.2⟩
instance {fi : Int → Int → Bool} {ft : List Nat → List Nat → Bool} : Step (wO (dOrd fi ft (.int a) (.int b)) r P) (P (.fz (.bool (fi a b))) r) := ⟨fun q => ⟨.fz _, rfl, q⟩⟩
instance {fi : Int → Int → Bool} {ft : List Nat → List Nat → Bool} : Step (wO (dOrd fi ft (.str (tx l)) (.str (tx m))) r P) (P (.fz (.bool (ft l m))) r) := ⟨fun q => ⟨.fz _, rfl, q⟩⟩
instance (priority := low) {f : Bool → Bool} : Step (wO (dEqF f d e) r P) ((okD d = true ∧ okD e = true) ∧ P (.fz (.bool (f (PyData.eqv d e)))) r) := ⟨fun q => wO_of (z' := .fz (.bool (f (PyData.eqv d e)))) (by rw [d_eq, if_pos q.1]) q.2⟩
instance {f : Bool → Bool} : Step (wO (dEqF f (.int a) (.int b)) r P) (P (.fz (.bool (f (decide (a = b))))) r) := ⟨fun q => wO_of (z' := .fz (.bool (f (decide (a = b))))) (by rw [d_eq, if_pos ⟨ok_int, ok_int⟩, eqv_int]) q⟩
instance {f : Bool → Bool} : Step (wO (dEqF f (.str (tx l)) (.str (tx m))) r P) (P (.fz (.bool (f (decide (l = m))))) r) := ⟨fun q => wO_of (z' := .fz (.bool (f (decide (l = m))))) (by rw [d_eq, if_pos ⟨ok_str, ok_str⟩, eqv_str, tx_dec]) q⟩
instance {f : Bool → Bool} : Step (wO (dInF f (.str (tx l)) (.str (tx m))) r P) (P (.fz (.bool (f (strIn (tx l) (tx m))))) r) := ⟨fun q => ⟨.fz _, rfl, q⟩⟩
instance {f : Bool → Bool} : Step (wO (dInF f d (.list ds)) r P) ((okD d = true ∧ okD (.list ds) = true) ∧ P (.fz (.bool (f (ds.any fun y => PyData.eqv y d)))) r) := ⟨fun q => wO_of (z' := .fz (.bool (f (ds.any fun y => PyData.eqv y d)))) (by
  have : dInF f d (.list ds) = if okF d = true ∧ okF (.list ds) = true then some (.fz (.bool (f (ds.any fun y => eqF y d)))) else none := by cases d <;> rfl
  rw [this, okF_eq, okF_eq, if_pos q.1]
  simp only [eqF_eq]) q.2⟩
instance {f : Bool → Bool} : Step (wO (dInF f d (.tuple ds)) r P) ((okD d = true ∧ okD (.tuple ds) = true) ∧ P (.fz (.bool (f (ds.any fun y => PyData.eqv y d)))) r) := ⟨fun q => wO_of (z' := .fz (.bool (f (ds.any fun y => PyData.eqv y d)))) (by
  have : dInF f d (.tuple ds) = if okF d = true ∧ okF (.tuple ds) = true then some (.fz (.bool (f (ds.any fun y => eqF y d)))) else none := by cases d <;> rfl
  rw [this, okF_eq, okF_eq, if_pos q.1]
  simp only [eqF_eq]) q.2⟩
instance {f : Bool → Bool} : Step (wO (dIsF f d .none) r P) (P (.fz (.bool (f (isN d)))) r) := ⟨fun q => wO_of (z' := .fz (.bool (f (isN d)))) d_isN q⟩
instance {f : Bool → Bool} : Step (wO (dIsF f (.bool u) (.bool v)) r P) (P (.fz (.bool (f (decide (u = v))))) r) := ⟨fun q => ⟨.fz _, rfl, q⟩⟩
def wAt {α : Type} (xs : List α) (i : Int) (Q : α → Prop) : Prop := ∃ d, atI xs i = some d ∧ Q d
theorem wAt_r {α : Type} {xs : List α} {i : Int} {d : α} {Q : α → Prop} (h : atI xs i = some d) (q : Q d) : wAt xs i Q := ⟨d, h, q⟩
theorem at_n {α : Type} {xs : List α} {i : Nat} {d : α} (h : xs[i]? = some d) : atI xs (i : Int) = some d := atI_nat h
instance {α : Type} {x : α} {xs : List α} {Q : α → Prop} : Step (wAt (x :: xs) 0 Q) (Q x) := ⟨wAt_r (at_n (i := 0) rfl)⟩
instance {α : Type} {x y : α} {xs : List α} {Q : α → Prop} : Step (wAt (x :: y :: xs) 1 Q) (Q y) := ⟨wAt_r (at_n (i := 1) rfl)⟩
instance {α : Type} {x y z : α} {xs : List α} {Q : α → Prop} : Step (wAt (x :: y :: z :: xs) 2 Q) (Q z) := ⟨wAt_r (at_n (i := 2) rfl)⟩
instance : Step (wO (dIx (.list ds) (.int a)) r P) (wAt ds a fun d => P (.fz d) r) := ⟨fun ⟨d, h, q⟩ => wO_of (z' := .fz d) (by rw [d_ixL, h]; rfl) q⟩
instance : Step (wO (dIx (.tuple ds) (.int a)) r P) (wAt ds a fun d => P (.fz d) r) := ⟨fun ⟨d, h, q⟩ => wO_of (z' := .fz d) (by rw [d_ixT, h]; rfl) q⟩
instance : Step (wO (dIx (.str (tx l)) (.int a)) r P) (l.length ≤ sizeLine ∧ wAt l a fun c => P (.fz (.str (tx [c]))) r) := ⟨fun ⟨hl, c, h, q⟩ => wO_of (z' := .fz (.str (tx [c]))) (by
  rw [d_ixS, tx_len', if_pos hl]
  show (atI l a).map _ = _
  rw [h]; rfl) q⟩
variable {lo hi : Option Int}
instance (priority := low) : Step (wO (dSl (.list ds) lo hi) r P) (P (.ol (cutL ds lo hi)) r) := ⟨wO_of (z' := .nl _) rfl⟩
instance (priority := low) : Step (wO (dSl (.str (tx l)) lo hi) r P) (l.length ≤ sizeLine ∧ P (.fz (.str (tx (cutL l lo hi)))) r) := ⟨fun q => wO_of (z' := .fz (.str (tx (cutL l lo hi)))) (by rw [d_slS, tx_len', if_pos q.1]; rfl) q.2⟩
theorem cut_whole {α : Type} {ds : List α} (h : HT.sIx ds.length 0 lo = 0 ∧ HT.sIx ds.length ds.length hi = ds.length) : cutL ds lo hi = ds := by
  unfold cutL
  rw [h.1, h.2]; simp
instance (priority := low) : Step (wO (dSl (.tuple ds) lo hi) r P) (P (.fz (.tuple (cutL ds lo hi))) r) := ⟨fun q => by
  by_cases h : HT.sIx ds.length 0 lo = 0 ∧ HT.sIx ds.length ds.length hi = ds.length
  · refine wO_of (z' := .fz (.tuple ds)) ?_ ?_
    · unfold dSl
      dsimp only
      rw [if_pos h]
    · rw [cut_whole h] at q; exact q
  · refine wO_of (z' := .nt (cutL ds lo hi)) ?_ q
    unfold dSl
    dsimp only
    rw [if_neg h]⟩
theorem cut_tail {α : Type} (x : α) (xs : List α) : cutL (x :: xs) (some 1) none = xs := by
  unfold cutL
  have e := HT.sIx_nat (n := (x :: xs).length) (d := 0) (k := 1)
  rw [show ((1 : Nat) : Int) = 1 from rfl] at e
  rw [e, HT.sIx_none, List.length_cons, show min 1 (xs.length + 1) = 1 by omega]
  simp
instance : Step (wO (dSl (.str (tx (i :: l))) (some 1) none) r P) ((i :: l).length ≤ sizeLine ∧ P (.fz (.str (tx l))) r) := ⟨fun q => Step.go ⟨q.1, by rw [cut_tail]; exact q.2⟩⟩
instance : Step (wO (dSl (.tuple (d :: ds)) (some 1) none) r P) (P (.fz (.tuple ds)) r) := ⟨fun q => Step.go (by rw [cut_tail]; exact q)⟩
instance : Step (wO (dSl (.list (d :: ds)) (some 1) none) r P) (P (.ol ds) r) := ⟨fun q => Step.go (by rw [cut_tail]; exact q)⟩
instance : Step (wO (dRev (.list ds)) r P) (P (.ol ds.reverse) r) := ⟨wO_of (z' := .nl _) rfl⟩
instance : Step (wO (dRev (.str (tx l))) r P) (l.length ≤ sizeLine ∧ P (.fz (.str (tx l.reverse))) r) := ⟨fun q => wO_of (z' := .fz (.str (tx l.reverse))) (by rw [d_revS, tx_len', if_pos q.1]; rfl) q.2⟩
instance : Step (wO (dNeg (.int a)) r P) (P (.fz (.int (-a))) r) := ⟨fun q => ⟨.fz _, rfl, q⟩⟩
instance : Step (wO (dLen [.str (tx l)]) r P) (l.length ≤ sizeLine ∧ P (.fz (.int (l.length : Nat))) r) := ⟨fun q => wO_of (z' := .fz (.int (l.length : Nat))) (by rw [d_lenS, tx_len', if_pos q.1]) q.2⟩
instance : Step (wO (dLen [.list ds]) r P) (P (.fz (.int (ds.length : Nat))) r) := ⟨fun q => ⟨.fz _, rfl, q⟩⟩
instance : Step (wO (dLen [.tuple ds]) r P) (P (.fz (.int (ds.length : Nat))) r) := ⟨fun q => ⟨.fz _, rfl, q⟩⟩
instance : Step (wO (dInt [.int a]) r P) (P (.fz (.int a)) r) := ⟨fun q => ⟨.fz _, rfl, q⟩⟩
instance : Step (wO (dInt [.bool u]) r P) (P (.fz (.int (if u then 1 else 0))) r) := ⟨fun q => ⟨.fz _, rfl, q⟩⟩
instance : Step (wO (dMax2 [.int a, .int b]) r P) (P (.fz (.int (if b > a then b else a))) r) := ⟨fun q => ⟨.fz _, rfl, q⟩⟩
instance : Step (wO (dMin2 [.int a, .int b]) r P) (P (.fz (.int (if b < a then b else a))) r) := ⟨fun q => ⟨.fz _, rfl, q⟩⟩
instance (priority := low) {z y : Str} : Step (wO (dFind3 (.str z) [.str y, .int a]) r P) (P (.fz (.int (Txt.find3 z y a))) r) := ⟨fun q => wO_of (z' := .fz (.int (Txt.find3 z y a))) d_find3 q⟩
instance {z y : Str} : Step (wO (dRfind4 (.str z) [.str y, .int a, .int b]) r P) (P (.fz (.int (Txt.rfindIn z y a b))) r) := ⟨fun q => wO_of (z' := .fz (.int (Txt.rfindIn z y a b))) d_rfind4 q⟩
instance : Step (wO (dListA [.list ds]) r P) (P (.ol ds) r) := ⟨wO_of (z' := .nl _) rfl⟩
instance : Step (wO (dListA [.tuple ds]) r P) (P (.ol ds) r) := ⟨wO_of (z' := .nl _) rfl⟩
instance : Step (wO (dListA [.str (tx l)]) r P) (l.length ≤ sizeLine ∧ P (.ol (ltrs l)) r) := ⟨fun q => wO_of (z' := .nl (ltrs l)) (by
  show (if (tx l).length ≤ sizeLine then some (OV.nl ((tx l).cps.toList.map fun c => PyData.str (tx [c]))) else none) = _
  rw [tx_len', if_pos q.1]; rfl) q.2⟩
instance {kvs : List (D × D)} [n : NoOb kvs] : Step (wO (dListA [.dict kvs]) r P) (P (.ol (kvs.map (·.1))) r) := ⟨wO_of (z' := .nl _) (by
  show (if isOb kvs = true then none else some (OV.nl (kvs.map (·.1)))) = _
  rw [n.h]; rfl)⟩
instance : Step (wO (dTupOf [.list ds]) r P) (P (.fz (.tuple ds)) r) := ⟨wO_of (z' := .nt _) rfl⟩
instance : Step (wO (dTupOf [.tuple ds]) r P) (P (.fz (.tuple ds)) r) := ⟨fun q => ⟨.fz _, rfl, q⟩⟩
instance : Step (wO (dRepr [d]) r P) (showOk d = true ∧ P (.fz (.str d.shown)) r) := ⟨fun q => wO_of (z' := .fz (.str d.shown)) (by
  show (if showOk d = true then _ else _) = _
  rw [if_pos q.1]) q.2⟩
instance : Step (wO (dMaxL [.list ds]) r P) (∃ n ns, intsD ds = some (n :: ns) ∧ P (.fz (.int (maxI (n :: ns)))) r) := ⟨fun ⟨n, ns, e, q⟩ => wO_of (z' := .fz (.int (maxI (n :: ns)))) (by
  unfold dMaxL
  dsimp only
  rw [e]) q⟩
instance : Step (wO (dMinL [.list ds]) r P) (∃ n ns, intsD ds = some (n :: ns) ∧ P (.fz (.int (minI (n :: ns)))) r) := ⟨fun ⟨n, ns, e, q⟩ => wO_of (z' := .fz (.int (minI (n :: ns)))) (by
  unfold dMinL
  dsimp only
  rw [e]) q⟩
instance {z : Str} : Step (wO (dJoin (.str z) [.list ds]) r P) (∃ ys, strsD ds = some ys ∧ (ys.map (·.length)).sum + ys.length * z.length ≤ 1000000 ∧ P (.fz (.str (Txt.join z ys))) r) := ⟨fun ⟨ys, e, h, q⟩ => wO_of (z' := .fz (.str (Txt.join z ys))) (by
  unfold dJoin
  dsimp only
  rw [e]
  show (if _ then _ else _) = _
  rw [if_pos h]) q⟩
instance : Step (wO (dSortSet (.str (tx l))) r P) (l.length < 4000 ∧ P (.ol (ltrs (QS.sortU l))) r) := ⟨fun q => wO_of (z' := .nl (ltrs (QS.sortU l))) (by
  show (if (tx l).length < 4000 then _ else _) = _
  rw [tx_len', if_pos q.1]; rfl) q.2⟩
def wLc (vs : List Nat) (G : D → S → Option S) (T : S → Res Bool) (F : S → Res D) (ds : List D) (r : S) (P : SV → S → Prop) : Prop := match lcF vs G T F ds [] { r with sl := wipeS vs r.sl } with
  | .ok acc r' => P (.ol acc) { r' with sl := restS vs r.sl r'.sl }
  | _ => False
instance {vs : List Nat} {I : S → Res (List D)} {G : D → S → Option S} {T : S → Res Bool} {F : S → Res D} : Step (wE (fLc vs I G T F r) P X) (wE (I r) (fun ds r => wLc vs G T F ds r P) X) := ⟨fun h => wE_bind (wE_mono h fun ds r h => by
  unfold wLc at h
  show wE (match lcF vs G T F ds [] { r with sl := wipeS vs r.sl } with
    | .ok acc r' => Res.ok (SV.ol acc) { r' with sl := restS vs r.sl r'.sl }
    | _ => Res.bad) P X
  generalize lcF vs G T F ds [] { r with sl := wipeS vs r.sl } = z at h ⊢
  cases z <;> exact h)⟩
theorem lc_inv {vs : List Nat} {G : D → S → Option S} {T : S → Res Bool} {F : S → Res D} (Q : Nat → List D → S → Prop) : ∀ (ds acc : List D) (k : Nat) (r : S), Q k acc r →
    (∀ i d acc r, ds[i]? = some d → Q (k + i) acc r → wG (G d r) fun r => wE (T r) (fun b r => wB b (wE (F r) (fun y r => acc.length < sizeLine ∧ Q (k + i + 1) (acc ++ [y]) ⟨wipeS vs r.sl, r.tp⟩) XN) (Q (k + i + 1) acc ⟨wipeS vs r.sl, r.tp⟩)) XN) →
    ∃ acc' r', lcF vs G T F ds acc r = .ok acc' r' ∧ Q (k + ds.length) acc' r'
  | [], acc, k, r, h, _ => ⟨acc, r, rfl, h⟩
  | d :: ds, acc, k, r, h, st => by
    have st' : ∀ i d acc r, ds[i]? = some d → Q (k + 1 + i) acc r → wG (G d r) fun r => wE (T r) (fun b r => wB b (wE (F r) (fun y r => acc.length < sizeLine ∧ Q (k + 1 + i + 1) (acc ++ [y]) ⟨wipeS vs r.sl, r.tp⟩) XN) (Q (k + 1 + i + 1) acc ⟨wipeS vs r.sl, r.tp⟩)) XN := fun i d acc r hd hq => by
      have := st (i + 1) d acc r (by simpa using hd) (by rw [show k + (i + 1) = k + 1 + i by omega]; exact hq)
      rw [show k + (i + 1) + 1 = k + 1 + i + 1 by omega] at this
      exact this
    obtain ⟨r1, e1, h1⟩ := st 0 d acc r rfl h
    unfold lcF
    rw [e1]
    dsimp only
    cases e2 : T r1 with
    | bad => rw [e2] at h1; exact h1.elim
    | exc c f s => rw [e2] at h1; exact h1.elim
    | ok b r2 =>
      rw [e2] at h1
      cases b with
      | true =>
        have h2 := h1.1 rfl
        dsimp only
        cases e3 : F r2 with
        | bad => rw [e3] at h2; exact h2.elim
        | exc c f s => rw [e3] at h2; exact h2.elim
        | ok y r3 =>
          rw [e3] at h2
          dsimp only
          rw [if_pos h2.1]
          obtain ⟨acc', r', e4, h4⟩ := lc_inv Q ds (acc ++ [y]) (k + 1) _ h2.2 st'
          exact ⟨acc', r', e4, by rw [List.length_cons, show k + (ds.length + 1) = k + 1 + ds.length by omega]; exact h4⟩
      | false =>
        have h2 := h1.2 rfl
        dsimp only
        obtain ⟨acc', r', e4, h4⟩ := lc_inv Q ds acc (k + 1) _ h2 st'
        exact ⟨acc', r', e4, by rw [List.length_cons, show k + (ds.length + 1) = k + 1 + ds.length by omega]; exact h4⟩
/-- a comprehension by an invariant: how many are done, what is told, the state -/
theorem wLc_inv {vs : List Nat} {G : D → S → Option S} {T : S → Res Bool} {F : S → Res D} (Q : Nat → List D → S → Prop) (h0 : Q 0 [] ⟨wipeS vs r.sl, r.tp⟩)
    (st : ∀ i d acc r, ds[i]? = some d → Q i acc r → wG (G d r) fun r => wE (T r) (fun b r => wB b (wE (F r) (fun y r => acc.length < sizeLine ∧ Q (i + 1) (acc ++ [y]) ⟨wipeS vs r.sl, r.tp⟩) XN) (Q (i + 1) acc ⟨wipeS vs r.sl, r.tp⟩)) XN)
    (he : ∀ acc r', Q ds.length acc r' → P (.ol acc) ⟨restS vs r.sl r'.sl, r'.tp⟩) : wLc vs G T F ds r P := by
  obtain ⟨acc', r', e, h⟩ := lc_inv Q ds [] 0 ⟨wipeS vs r.sl, r.tp⟩ h0 (fun i d acc r hd hq => by
    have := st i d acc r hd (by simpa using hq)
    simpa using this)
  unfold wLc
  rw [e]
  exact he acc' r' (by simpa using h)
/-- .. where the state stays -/
theorem wLc_map {vs : List Nat} {G : D → S → Option S} {T : S → Res Bool} {F : S → Res D} (f : D → Option D) (hl : ds.length ≤ sizeLine)
    (st : ∀ d ∈ ds, wG (G d ⟨wipeS vs r.sl, r.tp⟩) fun r1 => wE (T r1) (fun b r2 => wB b (wE (F r2) (fun y r3 => f d = some y ∧ (⟨wipeS vs r3.sl, r3.tp⟩ : S) = ⟨wipeS vs r.sl, r.tp⟩) XN) (f d = none ∧ (⟨wipeS vs r2.sl, r2.tp⟩ : S) = ⟨wipeS vs r.sl, r.tp⟩)) XN)
    (he : P (.ol (ds.filterMap f)) ⟨restS vs r.sl (wipeS vs r.sl), r.tp⟩) : wLc vs G T F ds r P := by
  refine wLc_inv (fun i acc r' => r' = ⟨wipeS vs r.sl, r.tp⟩ ∧ acc = (ds.take i).filterMap f) ⟨rfl, by simp⟩ (fun i d acc r' hd ⟨e1, e2⟩ => ?_) (fun acc r' ⟨e1, e2⟩ => ?_)
  · subst e1
    have hi := (List.getElem?_eq_some_iff.mp hd).1
    have ht : (ds.take (i + 1)).filterMap f = acc ++ [d].filterMap f := by
      rw [List.take_add_one, hd, e2, List.filterMap_append]; rfl
    obtain ⟨r1, e3, h⟩ := st d (List.mem_of_getElem? hd)
    refine ⟨r1, e3, wE_mono h fun b r2 h => ⟨fun hb => wE_mono (h.1 hb) fun y r3 h3 => ⟨?_, h3.2, ?_⟩, fun hb => ⟨(h.2 hb).2, ?_⟩⟩⟩
    · rw [e2]
      have := List.length_filterMap_le f (ds.take i)
      rw [List.length_take] at this
      omega
    · rw [ht]
      simp [h3.1]
    · rw [ht]
      simp [(h.2 hb).1]
  · subst e1 e2
    rw [List.take_length]
    exact he
end
theorem wFor_inv {p : Po} {G : D → S → Option S} {B : S → RS} (Q : Nat → S → Prop) {ds : List D} {r : S} (h0 : Q 0 r)
    (st : ∀ i d r, ds[i]? = some d → Q i r → wG (G d r) fun r => wS (B r) (p.lp (Q (i + 1)))) (he : ∀ r, Q ds.length r → p.nx r) : wS (forF G B ds r) p := by
  have main : ∀ (ds : List D) (k : Nat) (r : S), Q k r → (∀ i d r, ds[i]? = some d → Q (k + i) r → wG (G d r) fun r => wS (B r) (p.lp (Q (k + i + 1)))) → (∀ r, Q (k + ds.length) r → p.nx r) → wS (forF G B ds r) p := by
    intro ds
    induction ds with
    | nil => exact fun k r h _ he => he r h
    | cons d ds ih =>
      intro k r h st he
      obtain ⟨r1, e1, h1⟩ := st 0 d r rfl h
      have rest : ∀ r, Q (k + 1) r → wS (forF G B ds r) p := fun r h => ih (k + 1) r h (fun i d r hd hq => by
        have := st (i + 1) d r (by simpa using hd) (by rw [show k + (i + 1) = k + 1 + i by omega]; exact hq)
        rw [show k + (i + 1) + 1 = k + 1 + i + 1 by omega] at this
        exact this) fun r hq => he r (by rw [List.length_cons, show k + (ds.length + 1) = k + 1 + ds.length by omega]; exact hq)
      unfold forF
      rw [e1]
      dsimp only
      cases e2 : B r1 with
      | nx r2 => rw [e2] at h1; exact rest r2 h1
      | ct r2 => rw [e2] at h1; exact rest r2 h1
      | bk r2 => rw [e2] at h1; exact h1
      | rt v r2 => rw [e2] at h1; exact h1
      | exc c f r2 => rw [e2] at h1; exact h1
      | bad => rw [e2] at h1; exact h1
  exact main ds 0 r h0 (fun i d r hd hq => by
    have := st i d r hd (by simpa using hq)
    simpa using this) (fun r hq => he r (by simpa using hq))
theorem wWhile_inv {p : Po} {T : S → Res Bool} {B : S → RS} (Q : Nat → S → Prop) {n : Nat} {r : S} (hn : n < fuel) (h0 : Q n r)
    (st : ∀ k r, Q k r → wE (T r) (fun b r => wB b (∃ m, k = m + 1 ∧ wS (B r) (p.lp fun r => ∃ j, j ≤ m ∧ Q j r)) (p.nx r)) p.ex) : wS (sWhile T B r) p := by
  have main : ∀ (f k : Nat) (r : S), k < f → Q k r → wS (whileF T B f r) p := by
    intro f
    induction f with
    | zero => exact fun k r h => absurd h (Nat.not_lt_zero _)
    | succ f ih =>
      intro k r hk hq
      have h := st k r hq
      unfold whileF
      refine wE_bindS (wE_mono h fun b r1 h => ?_)
      cases b with
      | false => exact h.2 rfl
      | true =>
        obtain ⟨m, em, h2⟩ := h.1 rfl
        show wS (match B r1 with
          | .nx r => whileF T B f r
          | .ct r => whileF T B f r
          | .bk r => .nx r
          | .rt v r => .rt v r
          | .exc c f r => .exc c f r
          | .bad => .bad) p
        cases e2 : B r1 with
        | nx r2 =>
          rw [e2] at h2
          obtain ⟨j, hj, hq⟩ := h2
          exact ih j r2 (by omega) hq
        | ct r2 =>
          rw [e2] at h2
          obtain ⟨j, hj, hq⟩ := h2
          exact ih j r2 (by omega) hq
        | bk r2 => rw [e2] at h2; exact h2
        | rt v r2 => rw [e2] at h2; exact h2
        | exc c f r2 => rw [e2] at h2; exact h2
        | bad => rw [e2] at h2; exact h2
  exact main fuel n r hn h0
end QM
namespace QM
open PySem PySem.Spec L2 QL QP
class Mk (n : Nat) (ds : List SV) (sl : outParam (List (Option SV))) : Prop where
  eq : ds.map some ++ List.replicate (n - ds.length) none = sl
instance : Mk 0 [] [] := ⟨rfl⟩
instance {n : Nat} {sl : List (Option SV)} [h : Mk n [] sl] : Mk (n + 1) [] (none :: sl) := ⟨by
  have := h.eq
  simp only [List.map_nil, List.length_nil, Nat.sub_zero, List.nil_append] at this ⊢
  rw [List.replicate_succ, this]⟩
instance {n : Nat} {d : SV} {ds : List SV} {sl : List (Option SV)} [h : Mk n ds sl] : Mk (n + 1) (d :: ds) (some d :: sl) := ⟨by
  have := h.eq
  simp only [List.map_cons, List.length_cons, Nat.add_sub_add_right, List.cons_append]
  rw [this]⟩
class Fz (ds : List D) (xs : outParam (List SV)) : Prop where
  eq : ds.map SV.fz = xs
instance : Fz [] [] := ⟨rfl⟩
instance {d : D} {ds : List D} {xs : List SV} [h : Fz ds xs] : Fz (d :: ds) (.fz d :: xs) := ⟨by rw [List.map_cons, h.eq]⟩
section
variable {n : Nat} {B : S → RS} {ds : List D} {xs : List SV} {sl : List (Option SV)}
theorem wF_go {PF : SV → Prop} {XF : Str → List (Str × D) → Prop} [f : Fz ds xs] [m : Mk n xs sl] (h : wS (B ⟨sl, none⟩) ⟨fun _ => PF (.fz .none), fun x _ => x.out = true ∧ PF x, fun _ => False, fun _ => False, fun c f _ => XF c f⟩) : wF (bodyF n B ds) PF XF := by
  refine wF_body ?_
  unfold mkS
  rw [f.eq, m.eq]; exact h
theorem wFT_go {t : Int × Int} {PF : SV → Int × Int → Prop} {XF : Str → List (Str × D) → Int × Int → Prop} [f : Fz ds xs] [m : Mk n (.tape :: xs) sl] (h : wS (B ⟨sl, some t⟩) ⟨fun r => ∃ t, r.tp = some t ∧ PF (.fz .none) t, fun x r => x.out = true ∧ ∃ t, r.tp = some t ∧ PF x t, fun _ => False, fun _ => False, fun c f r => ∃ t, r.tp = some t ∧ XF c f t⟩) : wFT (bodyT n B t ds) PF XF := by
  refine wFT_body ?_
  unfold mkS
  rw [f.eq, m.eq]; exact h
theorem Ret.go {v : SV} [f : Fz ds xs] [m : Mk n xs sl] (h : wS (B ⟨sl, none⟩) ⟨fun _ => SV.fz .none = v, fun x _ => x.out = true ∧ x = v, fun _ => False, fun _ => False, fun _ _ _ => False⟩) : Ret (bodyF n B ds) v := Ret.of_w (wF_go h)
end
class Wi (vs : List Nat) (sl : List (Option SV)) (sl' : outParam (List (Option SV))) : Prop where
  eq : wipeS vs sl = sl'
instance {sl : List (Option SV)} : Wi [] sl sl := ⟨rfl⟩
instance {v : Nat} {vs : List Nat} {sl l1 l2 : List (Option SV)} [h : Wi vs sl l1] [h2 : SetL l1 v none l2] : Wi (v :: vs) sl l2 := ⟨by
  unfold wipeS
  rw [h.eq, h2.eq]⟩
class Rest (vs : List Nat) (old sl : List (Option SV)) (sl' : outParam (List (Option SV))) : Prop where
  eq : restS vs old sl = sl'
instance {old sl : List (Option SV)} : Rest [] old sl sl := ⟨rfl⟩
instance {v : Nat} {vs : List Nat} {old sl l1 : List (Option SV)} [h : Rest vs old sl l1] [g : Get old v none] : Rest (v :: vs) old sl l1 := ⟨by
  unfold restS
  rw [g.eq]; exact h.eq⟩
instance {v : Nat} {vs : List Nat} {old sl l1 : List (Option SV)} {ds : List D} [h : Rest vs old sl l1] [g : Get old v (some (.ol ds))] : Rest (v :: vs) old sl l1 := ⟨by
  unfold restS
  rw [g.eq]; exact h.eq⟩
instance {v : Nat} {vs : List Nat} {old sl l1 l2 : List (Option SV)} {d : D} [h : Rest vs old sl l1] [g : Get old v (some (.fz d))] [h2 : SetL l1 v (some (.fz d)) l2] : Rest (v :: vs) old sl l2 := ⟨by
  unfold restS
  rw [g.eq]
  dsimp only
  rw [h.eq, h2.eq]⟩
section
variable {P : SV → S → Prop} {r : S} {d : D} {ds acc : List D} {vs : List Nat} {G : D → S → Option S} {T : S → Res Bool} {F : S → Res D} {sl sl' old : List (Option SV)} {tp : Option (Int × Int)}
/-- a comprehension, turn by turn -/
def wC (vs : List Nat) (G : D → S → Option S) (T : S → Res Bool) (F : S → Res D) (old : List (Option SV)) (ds acc : List D) (r : S) (P : SV → S → Prop) : Prop := match lcF vs G T F ds acc r with
  | .ok acc r' => P (.ol acc) { r' with sl := restS vs old r'.sl }
  | _ => False
def wWi (vs : List Nat) (r : S) (Q : S → Prop) : Prop := Q ⟨wipeS vs r.sl, r.tp⟩
instance {Q : S → Prop} [h : Wi vs sl sl'] : Step (wWi vs ⟨sl, tp⟩ Q) (Q ⟨sl', tp⟩) := ⟨fun q => by
  unfold wWi
  dsimp only
  rw [h.eq]; exact q⟩
instance [h : Wi vs sl sl'] : Step (wLc vs G T F (d :: ds) ⟨sl, tp⟩ P) (wC vs G T F sl (d :: ds) [] ⟨sl', tp⟩ P) := ⟨fun q => by
  unfold wLc
  dsimp only
  rw [h.eq]; exact q⟩
instance [h : Wi vs sl sl'] [h2 : Rest vs sl sl' old] : Step (wLc vs G T F [] ⟨sl, tp⟩ P) (P (.ol []) ⟨old, tp⟩) := ⟨fun q => by
  show P (.ol []) ⟨restS vs sl (wipeS vs sl), tp⟩
  rw [h.eq, h2.eq]; exact q⟩
instance [h : Rest vs old sl sl'] : Step (wC vs G T F old [] acc ⟨sl, tp⟩ P) (P (.ol acc) ⟨sl', tp⟩) := ⟨fun q => by
  show P (.ol acc) ⟨restS vs old sl, tp⟩
  rw [h.eq]; exact q⟩
instance : Step (wC vs G T F old (d :: ds) acc r P) (wG (G d r) fun r => wE (T r) (fun b r => wB b (wE (F r) (fun y r => acc.length < sizeLine ∧ wWi vs r fun r => wC vs G T F old ds (acc ++ [y]) r P) XN) (wWi vs r fun r => wC vs G T F old ds acc r P)) XN) := ⟨fun ⟨r1, e1, h1⟩ => by
  unfold wC lcF
  rw [e1]
  dsimp only at h1 ⊢
  cases e2 : T r1 with
  | bad => rw [e2] at h1; exact h1.elim
  | exc c f s => rw [e2] at h1; exact h1.elim
  | ok b r2 =>
    rw [e2] at h1
    cases b with
    | true =>
      have h2 := h1.1 rfl
      dsimp only
      cases e3 : F r2 with
      | bad => rw [e3] at h2; exact h2.elim
      | exc c f s => rw [e3] at h2; exact h2.elim
      | ok y r3 =>
        rw [e3] at h2
        dsimp only
        rw [if_pos h2.1]; exact h2.2
    | false => exact h1.2 rfl⟩
/-- .. by an invariant -/
theorem lc_go [w : Wi vs sl sl'] (Q : Nat → List D → S → Prop) (h0 : Q 0 [] ⟨sl', tp⟩)
    (st : ∀ i d acc r, ds[i]? = some d → Q i acc r → wG (G d r) fun r => wE (T r) (fun b r => wB b (wE (F r) (fun y r => acc.length < sizeLine ∧ wWi vs r fun r => Q (i + 1) (acc ++ [y]) r) XN) (wWi vs r fun r => Q (i + 1) acc r)) XN)
    (he : ∀ acc r', Q ds.length acc r' → P (.ol acc) ⟨restS vs sl r'.sl, r'.tp⟩) : wLc vs G T F ds ⟨sl, tp⟩ P :=
  wLc_inv Q (by dsimp only; rw [w.eq]; exact h0) st he
/-- .. where the state stays -/
theorem lc_map [w : Wi vs sl sl'] [q : Rest vs sl sl' old] (f : D → Option D) (hl : ds.length ≤ sizeLine)
    (st : ∀ d ∈ ds, wG (G d ⟨sl', tp⟩) fun r1 => wE (T r1) (fun b r2 => wB b (wE (F r2) (fun y r3 => f d = some y ∧ wWi vs r3 fun r => r = ⟨sl', tp⟩) XN) (f d = none ∧ wWi vs r2 fun r => r = ⟨sl', tp⟩)) XN)
    (he : P (.ol (ds.filterMap f)) ⟨old, tp⟩) : wLc vs G T F ds ⟨sl, tp⟩ P := by
  refine wLc_map f hl (fun d hd => ?_) ?_
  · dsimp only
    rw [w.eq]; exact st d hd
  · dsimp only
    rw [w.eq, q.eq]; exact he
end
theorem sml_small {n : Nat} (h : n ≤ 1000000) : sml (n : Int) = true := by
  unfold sml
  have e : (2 : Int) ^ 62 = 4611686018427387904 := by decide
  rw [e]
  exact decide_eq_true ⟨by omega, by omega⟩
instance {n : Nat} {A : Prop} : Step (wSm (n : Int) A) (n ≤ 1000000 ∧ A) := ⟨fun h => ⟨sml_small h.1, h.2⟩⟩
instance {n : Nat} {A : Prop} : Step (wSm (@OfNat.ofNat Int n instOfNat) A) (n ≤ 1000000 ∧ A) := ⟨fun h => ⟨sml_small h.1, h.2⟩⟩
theorem wSm_lit {n : Nat} {A : Prop} (h : n ≤ 1000000) (a : A) : wSm (n : Int) A := ⟨sml_small h, a⟩
instance {A : Prop} : Step (wSm 0 A) A := ⟨fun a => wSm_lit (n := 0) (by decide) a⟩
instance {A : Prop} : Step (wSm 1 A) A := ⟨fun a => wSm_lit (n := 1) (by decide) a⟩
instance {A : Prop} : Step (wSm 2 A) A := ⟨fun a => wSm_lit (n := 2) (by decide) a⟩
instance {A : Prop} : Step (wSm 3 A) A := ⟨fun a => wSm_lit (n := 3) (by decide) a⟩
instance {A : Prop} : Step (wSm 4 A) A := ⟨fun a => wSm_lit (n := 4) (by decide) a⟩
instance {A : Prop} : Step (wSm 5 A) A := ⟨fun a => wSm_lit (n := 5) (by decide) a⟩
instance {A : Prop} : Step (wSm 6 A) A := ⟨fun a => wSm_lit (n := 6) (by decide) a⟩
instance {A : Prop} : Step (wSm 7 A) A := ⟨fun a => wSm_lit (n := 7) (by decide) a⟩
instance {A : Prop} : Step (wSm 8 A) A := ⟨fun a => wSm_lit (n := 8) (by decide) a⟩
instance {A : Prop} : Step (wSm 9 A) A := ⟨fun a => wSm_lit (n := 9) (by decide) a⟩
instance {A : Prop} : Step (wSm 10 A) A := ⟨fun a => wSm_lit (n := 10) (by decide) a⟩
instance {A : Prop} : Step (wSm 11 A) A := ⟨fun a => wSm_lit (n := 11) (by decide) a⟩
instance {A : Prop} : Step (wSm 12 A) A := ⟨fun a => wSm_lit (n := 12) (by decide) a⟩
instance {A : Prop} : Step (wSm 13 A) A := ⟨fun a => wSm_lit (n := 13) (by decide) a⟩
instance {A : Prop} : Step (wSm 14 A) A := ⟨fun a => wSm_lit (n := 14) (by decide) a⟩
instance {A : Prop} : Step (wSm 15 A) A := ⟨fun a => wSm_lit (n := 15) (by decide) a⟩
instance {A : Prop} : Step (wSm 16 A) A := ⟨fun a => wSm_lit (n := 16) (by decide) a⟩
instance {A : Prop} : Step (wSm 17 A) A := ⟨fun a => wSm_lit (n := 17) (by decide) a⟩
instance {A : Prop} : Step (wSm 18 A) A := ⟨fun a => wSm_lit (n := 18) (by decide) a⟩
instance {A : Prop} : Step (wSm 19 A) A := ⟨fun a => wSm_lit (n := 19) (by decide) a⟩
instance {A : Prop} : Step (wSm 20 A) A := ⟨fun a => wSm_lit (n := 20) (by decide) a⟩
instance {A : Prop} : Step (wSm 21 A) A := ⟨fun a => wSm_lit (n := 21) (by decide) a⟩
instance {A : Prop} : Step (wSm 22 A) A := ⟨fun a => wSm_lit (n := 22) (by decide) a⟩
instance {A : Prop} : Step (wSm 23 A) A := ⟨fun a => wSm_lit (n := 23) (by decide) a⟩
instance {A : Prop} : Step (wSm 24 A) A := ⟨fun a => wSm_lit (n := 24) (by decide) a⟩
instance {A : Prop} : Step (wSm 25 A) A := ⟨fun a => wSm_lit (n := 25) (by decide) a⟩
instance {A : Prop} : Step (wSm 26 A) A := ⟨fun a => wSm_lit (n := 26) (by decide) a⟩
instance {A : Prop} : Step (wSm 27 A) A := ⟨fun a => wSm_lit (n := 27) (by decide) a⟩
instance {A : Prop} : Step (wSm 28 A) A := ⟨fun a => wSm_lit (n := 28) (by decide) a⟩
instance {A : Prop} : Step (wSm 29 A) A := ⟨fun a => wSm_lit (n := 29) (by decide) a⟩
instance {A : Prop} : Step (wSm 30 A) A := ⟨fun a => wSm_lit (n := 30) (by decide) a⟩
instance {A : Prop} : Step (wSm 31 A) A := ⟨fun a => wSm_lit (n := 31) (by decide) a⟩
instance {A : Prop} : Step (wSm 32 A) A := ⟨fun a => wSm_lit (n := 32) (by decide) a⟩
instance {A : Prop} : Step (wSm 33 A) A := ⟨fun a => wSm_lit (n := 33) (by decide) a⟩
instance {A : Prop} : Step (wSm 34 A) A := ⟨fun a => wSm_lit (n := 34) (by decide) a⟩
instance {A : Prop} : Step (wSm 35 A) A := ⟨fun a => wSm_lit (n := 35) (by decide) a⟩
instance {A : Prop} : Step (wSm 36 A) A := ⟨fun a => wSm_lit (n := 36) (by decide) a⟩
instance {A : Prop} : Step (wSm 37 A) A := ⟨fun a => wSm_lit (n := 37) (by decide) a⟩
instance {A : Prop} : Step (wSm 38 A) A := ⟨fun a => wSm_lit (n := 38) (by decide) a⟩
instance {A : Prop} : Step (wSm 39 A) A := ⟨fun a => wSm_lit (n := 39) (by decide) a⟩
instance {A : Prop} : Step (wSm 40 A) A := ⟨fun a => wSm_lit (n := 40) (by decide) a⟩
instance {A : Prop} : Step (wSm 60 A) A := ⟨fun a => wSm_lit (n := 60) (by decide) a⟩
instance {A : Prop} : Step (wSm 63 A) A := ⟨fun a => wSm_lit (n := 63) (by decide) a⟩
instance {A : Prop} : Step (wSm (-1) A) A := ⟨fun a => ⟨by decide +kernel, a⟩⟩
theorem rgOk_small {n m : Nat} (h : n ≤ 1000000) (h2 : m ≤ 1000000) : rgOk (n : Int) (m : Int) = true := by
  unfold rgOk
  rw [sml_small h, sml_small h2]
  simp only [Bool.true_and]
  exact decide_eq_true (by omega)
instance {n : Nat} {A : Prop} : Step (wRg 0 (n : Int) A) (n ≤ 1000000 ∧ A) := ⟨fun h => ⟨rgOk_small (n := 0) (by decide) h.1, h.2⟩⟩
section
variable {P : SV → S → Prop} {r : S} {z : Str} {i : Int} {u : Bool} {ds : List D} {kvs : List (D × D)}
theorem kb_NoneType_int : kitB "NoneType" "int" = some false := by decide +kernel
instance : Step (wO (dIsi "int" PyData.none) r P) (P (.fz (.bool false)) r) := ⟨fun q => ⟨.fz (.bool false), by show (kitB "NoneType" "int").map (fun b => OV.fz (PyData.bool b)) = _; rw [kb_NoneType_int]; rfl, q⟩⟩
theorem kb_bool_int : kitB "bool" "int" = some true := by decide +kernel
instance : Step (wO (dIsi "int" (.bool u)) r P) (P (.fz (.bool true)) r) := ⟨fun q => ⟨.fz (.bool true), by show (kitB "bool" "int").map (fun b => OV.fz (PyData.bool b)) = _; rw [kb_bool_int]; rfl, q⟩⟩
theorem kb_int_int : kitB "int" "int" = some true := by decide +kernel
instance : Step (wO (dIsi "int" (.int i)) r P) (P (.fz (.bool true)) r) := ⟨fun q => ⟨.fz (.bool true), by show (kitB "int" "int").map (fun b => OV.fz (PyData.bool b)) = _; rw [kb_int_int]; rfl, q⟩⟩
theorem kb_str_int : kitB "str" "int" = some false := by decide +kernel
instance : Step (wO (dIsi "int" (.str z)) r P) (P (.fz (.bool false)) r) := ⟨fun q => ⟨.fz (.bool false), by show (kitB "str" "int").map (fun b => OV.fz (PyData.bool b)) = _; rw [kb_str_int]; rfl, q⟩⟩
theorem kb_list_int : kitB "list" "int" = some false := by decide +kernel
instance : Step (wO (dIsi "int" (.list ds)) r P) (P (.fz (.bool false)) r) := ⟨fun q => ⟨.fz (.bool false), by show (kitB "list" "int").map (fun b => OV.fz (PyData.bool b)) = _; rw [kb_list_int]; rfl, q⟩⟩
theorem kb_tuple_int : kitB "tuple" "int" = some false := by decide +kernel
instance : Step (wO (dIsi "int" (.tuple ds)) r P) (P (.fz (.bool false)) r) := ⟨fun q => ⟨.fz (.bool false), by show (kitB "tuple" "int").map (fun b => OV.fz (PyData.bool b)) = _; rw [kb_tuple_int]; rfl, q⟩⟩
theorem kb_dict_int : kitB "dict" "int" = some false := by decide +kernel
instance : Step (wO (dIsi "int" (.dict kvs)) r P) (P (.fz (.bool false)) r) := ⟨fun q => ⟨.fz (.bool false), by show (if ("int" : String) = "dict" then some (OV.fz (.bool (!isOb kvs))) else (kitB "dict" "int").map (fun b => OV.fz (PyData.bool b))) = _; rw [if_neg (by decide), kb_dict_int]; rfl, q⟩⟩
theorem kb_NoneType_bool : kitB "NoneType" "bool" = some false := by decide +kernel
instance : Step (wO (dIsi "bool" PyData.none) r P) (P (.fz (.bool false)) r) := ⟨fun q => ⟨.fz (.bool false), by show (kitB "NoneType" "bool").map (fun b => OV.fz (PyData.bool b)) = _; rw [kb_NoneType_bool]; rfl, q⟩⟩
theorem kb_bool_bool : kitB "bool" "bool" = some true := by decide +kernel
instance : Step (wO (dIsi "bool" (.bool u)) r P) (P (.fz (.bool true)) r) := ⟨fun q => ⟨.fz (.bool true), by show (kitB "bool" "bool").map (fun b => OV.fz (PyData.bool b)) = _; rw [kb_bool_bool]; rfl, q⟩⟩
theorem kb_int_bool : kitB "int" "bool" = some false := by decide +kernel
instance : Step (wO (dIsi "bool" (.int i)) r P) (P (.fz (.bool false)) r) := ⟨fun q => ⟨.fz (.bool false), by show (kitB "int" "bool").map (fun b => OV.fz (PyData.bool b)) = _; rw [kb_int_bool]; rfl, q⟩⟩
theorem kb_str_bool : kitB "str" "bool" = some false := by decide +kernel
instance : Step (wO (dIsi "bool" (.str z)) r P) (P (.fz (.bool false)) r) := ⟨fun q => ⟨.fz (.bool false), by show (kitB "str" "bool").map (fun b => OV.fz (PyData.bool b)) = _; rw [kb_str_bool]; rfl, q⟩⟩
theorem kb_list_bool : kitB "list" "bool" = some false := by decide +kernel
instance : Step (wO (dIsi "bool" (.list ds)) r P) (P (.fz (.bool false)) r) := ⟨fun q => ⟨.fz (.bool false), by show (kitB "list" "bool").map (fun b => OV.fz (PyData.bool b)) = _; rw [kb_list_bool]; rfl, q⟩⟩
theorem kb_tuple_bool : kitB "tuple" "bool" = some false := by decide +kernel
instance : Step (wO (dIsi "bool" (.tuple ds)) r P) (P (.fz (.bool false)) r) := ⟨fun q => ⟨.fz (.bool false), by show (kitB "tuple" "bool").map (fun b => OV.fz (PyData.bool b)) = _; rw [kb_tuple_bool]; rfl, q⟩⟩
theorem kb_dict_bool : kitB "dict" "bool" = some false := by decide +kernel
instance : Step (wO (dIsi "bool" (.dict kvs)) r P) (P (.fz (.bool false)) r) := ⟨fun q => ⟨.fz (.bool false), by show (if ("bool" : String) = "dict" then some (OV.fz (.bool (!isOb kvs))) else (kitB "dict" "bool").map (fun b => OV.fz (PyData.bool b))) = _; rw [if_neg (by decide), kb_dict_bool]; rfl, q⟩⟩
theorem kb_NoneType_str : kitB "NoneType" "str" = some false := by decide +kernel
instance : Step (wO (dIsi "str" PyData.none) r P) (P (.fz (.bool false)) r) := ⟨fun q => ⟨.fz (.bool false), by show (kitB "NoneType" "str").map (fun b => OV.fz (PyData.bool b)) = _; rw [kb_NoneType_str]; rfl, q⟩⟩
theorem kb_bool_str : kitB "bool" "str" = some false := by decide +kernel
instance : Step (wO (dIsi "str" (.bool u)) r P) (P (.fz (.bool false)) r) := ⟨fun q => ⟨.fz (.bool false), by show (kitB "bool" "str").map (fun b => OV.fz (PyData.bool b)) = _; rw [kb_bool_str]; rfl, q⟩⟩
theorem kb_int_str : kitB "int" "str" = some false := by decide +kernel
instance : Step (wO (dIsi "str" (.int i)) r P) (P (.fz (.bool false)) r) := ⟨fun q => ⟨.fz (.bool false), by show (kitB "int" "str").map (fun b => OV.fz (PyData.bool b)) = _; rw [kb_int_str]; rfl, q⟩⟩
theorem kb_str_str : kitB "str" "str" = some true := by decide +kernel
instance : Step (wO (dIsi "str" (.str z)) r P) (P (.fz (.bool true)) r) := ⟨fun q => ⟨.fz (.bool true), by show (kitB "str" "str").map (fun b => OV.fz (PyData.bool b)) = _; rw [kb_str_str]; rfl, q⟩⟩
theorem kb_list_str : kitB "list" "str" = some false := by decide +kernel
instance : Step (wO (dIsi "str" (.list ds)) r P) (P (.fz (.bool false)) r) := ⟨fun q => ⟨.fz (.bool false), by show (kitB "list" "str").map (fun b => OV.fz (PyData.bool b)) = _; rw [kb_list_str]; rfl, q⟩⟩
theorem kb_tuple_str : kitB "tuple" "str" = some false := by decide +kernel
instance : Step (wO (dIsi "str" (.tuple ds)) r P) (P (.fz (.bool false)) r) := ⟨fun q => ⟨.fz (.bool false), by show (kitB "tuple" "str").map (fun b => OV.fz (PyData.bool b)) = _; rw [kb_tuple_str]; rfl, q⟩⟩
theorem kb_dict_str : kitB "dict" "str" = some false := by decide +kernel
instance : Step (wO (dIsi "str" (.dict kvs)) r P) (P (.fz (.bool false)) r) := ⟨fun q => ⟨.fz (.bool false), by show (if ("str" : String) = "dict" then some (OV.fz (.bool (!isOb kvs))) else (kitB "dict" "str").map (fun b => OV.fz (PyData.bool b))) = _; rw [if_neg (by decide), kb_dict_str]; rfl, q⟩⟩
theorem kb_NoneType_list : kitB "NoneType" "list" = some false := by decide +kernel
instance : Step (wO (dIsi "list" PyData.none) r P) (P (.fz (.bool false)) r) := ⟨fun q => ⟨.fz (.bool false), by show (kitB "NoneType" "list").map (fun b => OV.fz (PyData.bool b)) = _; rw [kb_NoneType_list]; rfl, q⟩⟩
theorem kb_bool_list : kitB "bool" "list" = some false := by decide +kernel
instance : Step (wO (dIsi "list" (.bool u)) r P) (P (.fz (.bool false)) r) := ⟨fun q => ⟨.fz (.bool false), by show (kitB "bool" "list").map (fun b => OV.fz (PyData.bool b)) = _; rw [kb_bool_list]; rfl, q⟩⟩
theorem kb_int_list : kitB "int" "list" = some false := by decide +kernel
instance : Step (wO (dIsi "list" (.int i)) r P) (P (.fz (.bool false)) r) := ⟨fun q => ⟨.fz (.bool false), by show (kitB "int" "list").map (fun b => OV.fz (PyData.bool b)) = _; rw [kb_int_list]; rfl, q⟩⟩
theorem kb_str_list : kitB "str" "list" = some false := by decide +kernel
instance : Step (wO (dIsi "list" (.str z)) r P) (P (.fz (.bool false)) r) := ⟨fun q => ⟨.fz (.bool false), by show (kitB "str" "list").map (fun b => OV.fz (PyData.bool b)) = _; rw [kb_str_list]; rfl, q⟩⟩
theorem kb_list_list : kitB "list" "list" = some true := by decide +kernel
instance : Step (wO (dIsi "list" (.list ds)) r P) (P (.fz (.bool true)) r) := ⟨fun q => ⟨.fz (.bool true), by show (kitB "list" "list").map (fun b => OV.fz (PyData.bool b)) = _; rw [kb_list_list]; rfl, q⟩⟩
theorem kb_tuple_list : kitB "tuple" "list" = some false := by decide +kernel
instance : Step (wO (dIsi "list" (.tuple ds)) r P) (P (.fz (.bool false)) r) := ⟨fun q => ⟨.fz (.bool false), by show (kitB "tuple" "list").map (fun b => OV.fz (PyData.bool b)) = _; rw [kb_tuple_list]; rfl, q⟩⟩
theorem kb_dict_list : kitB "dict" "list" = some false := by decide +kernel
instance : Step (wO (dIsi "list" (.dict kvs)) r P) (P (.fz (.bool false)) r) := ⟨fun q => ⟨.fz (.bool false), by show (if ("list" : String) = "dict" then some (OV.fz (.bool (!isOb kvs))) else (kitB "dict" "list").map (fun b => OV.fz (PyData.bool b))) = _; rw [if_neg (by decide), kb_dict_list]; rfl, q⟩⟩
theorem kb_NoneType_tuple : kitB "NoneType" "tuple" = some false := by decide +kernel
instance : Step (wO (dIsi "tuple" PyData.none) r P) (P (.fz (.bool false)) r) := ⟨fun q => ⟨.fz (.bool false), by show (kitB "NoneType" "tuple").map (fun b => OV.fz (PyData.bool b)) = _; rw [kb_NoneType_tuple]; rfl, q⟩⟩
theorem kb_bool_tuple : kitB "bool" "tuple" = some false := by decide +kernel
instance : Step (wO (dIsi "tuple" (.bool u)) r P) (P (.fz (.bool false)) r) := ⟨fun q => ⟨.fz (.bool false), by show (kitB "bool" "tuple").map (fun b => OV.fz (PyData.bool b)) = _; rw [kb_bool_tuple]; rfl, q⟩⟩
theorem kb_int_tuple : kitB "int" "tuple" = some false := by decide +kernel
instance : Step (wO (dIsi "tuple" (.int i)) r P) (P (.fz (.bool false)) r) := ⟨fun q => ⟨.fz (.bool false), by show (kitB "int" "tuple").map (fun b => OV.fz (PyData.bool b)) = _; rw [kb_int_tuple]; rfl, q⟩⟩
theorem kb_str_tuple : kitB "str" "tuple" = some false := by decide +kernel
instance : Step (wO (dIsi "tuple" (.str z)) r P) (P (.fz (.bool false)) r) := ⟨fun q => ⟨.fz (.bool false), by show (kitB "str" "tuple").map (fun b => OV.fz (PyData.bool b)) = _; rw [kb_str_tuple]; rfl, q⟩⟩
theorem kb_list_tuple : kitB "list" "tuple" = some false := by decide +kernel
instance : Step (wO (dIsi "tuple" (.list ds)) r P) (P (.fz (.bool false)) r) := ⟨fun q => ⟨.fz (.bool false), by show (kitB "list" "tuple").map (fun b => OV.fz (PyData.bool b)) = _; rw [kb_list_tuple]; rfl, q⟩⟩
theorem kb_tuple_tuple : kitB "tuple" "tuple" = some true := by decide +kernel
instance : Step (wO (dIsi "tuple" (.tuple ds)) r P) (P (.fz (.bool true)) r) := ⟨fun q => ⟨.fz (.bool true), by show (kitB "tuple" "tuple").map (fun b => OV.fz (PyData.bool b)) = _; rw [kb_tuple_tuple]; rfl, q⟩⟩
theorem kb_dict_tuple : kitB "dict" "tuple" = some false := by decide +kernel
instance : Step (wO (dIsi "tuple" (.dict kvs)) r P) (P (.fz (.bool false)) r) := ⟨fun q => ⟨.fz (.bool false), by show (if ("tuple" : String) = "dict" then some (OV.fz (.bool (!isOb kvs))) else (kitB "dict" "tuple").map (fun b => OV.fz (PyData.bool b))) = _; rw [if_neg (by decide), kb_dict_tuple]; rfl, q⟩⟩
theorem kb_NoneType_dict : kitB "NoneType" "dict" = some false := by decide +kernel
instance : Step (wO (dIsi "dict" PyData.none) r P) (P (.fz (.bool false)) r) := ⟨fun q => ⟨.fz (.bool false), by show (kitB "NoneType" "dict").map (fun b => OV.fz (PyData.bool b)) = _; rw [kb_NoneType_dict]; rfl, q⟩⟩
theorem kb_bool_dict : kitB "bool" "dict" = some false := by decide +kernel
instance : Step (wO (dIsi "dict" (.bool u)) r P) (P (.fz (.bool false)) r) := ⟨fun q => ⟨.fz (.bool false), by show (kitB "bool" "dict").map (fun b => OV.fz (PyData.bool b)) = _; rw [kb_bool_dict]; rfl, q⟩⟩
theorem kb_int_dict : kitB "int" "dict" = some false := by decide +kernel
instance : Step (wO (dIsi "dict" (.int i)) r P) (P (.fz (.bool false)) r) := ⟨fun q => ⟨.fz (.bool false), by show (kitB "int" "dict").map (fun b => OV.fz (PyData.bool b)) = _; rw [kb_int_dict]; rfl, q⟩⟩
theorem kb_str_dict : kitB "str" "dict" = some false := by decide +kernel
instance : Step (wO (dIsi "dict" (.str z)) r P) (P (.fz (.bool false)) r) := ⟨fun q => ⟨.fz (.bool false), by show (kitB "str" "dict").map (fun b => OV.fz (PyData.bool b)) = _; rw [kb_str_dict]; rfl, q⟩⟩
theorem kb_list_dict : kitB "list" "dict" = some false := by decide +kernel
instance : Step (wO (dIsi "dict" (.list ds)) r P) (P (.fz (.bool false)) r) := ⟨fun q => ⟨.fz (.bool false), by show (kitB "list" "dict").map (fun b => OV.fz (PyData.bool b)) = _; rw [kb_list_dict]; rfl, q⟩⟩
theorem kb_tuple_dict : kitB "tuple" "dict" = some false := by decide +kernel
instance : Step (wO (dIsi "dict" (.tuple ds)) r P) (P (.fz (.bool false)) r) := ⟨fun q => ⟨.fz (.bool false), by show (kitB "tuple" "dict").map (fun b => OV.fz (PyData.bool b)) = _; rw [kb_tuple_dict]; rfl, q⟩⟩
instance : Step (wO (dIsi "dict" (.dict kvs)) r P) (P (.fz (.bool (!isOb kvs))) r) := ⟨fun q => ⟨.fz (.bool (!isOb kvs)), by show (if ("dict" : String) = "dict" then some (OV.fz (.bool (!isOb kvs))) else (kitB "dict" "dict").map (fun b => OV.fz (PyData.bool b))) = _; rw [if_pos rfl], q⟩⟩
instance [n : NoOb kvs] : Step (wO (dIsi "dict" (.dict kvs)) r P) (P (.fz (.bool true)) r) := ⟨fun q => ⟨.fz (.bool true), by show (if ("dict" : String) = "dict" then some (OV.fz (.bool (!isOb kvs))) else (kitB "dict" "dict").map (fun b => OV.fz (PyData.bool b))) = _; rw [if_pos rfl, n.h]; rfl, q⟩⟩
end
section
variable {P : SV → S → Prop} {r : S} {l : List Nat} {c s : Nat}
instance : Step (wO (dFind3 (.str (tx l)) [.str (tx [c]), .int (s : Nat)]) r P) (P (.fz (.int (optI (nxt l c s)))) r) := ⟨fun q => ⟨.fz (.int (optI (nxt l c s))), by
  rw [d_find3, find3_one l c (s : Nat) (by omega)]; rfl, q⟩⟩
instance : Step (wO (dFind3 (.str (tx l)) [.str (tx [c]), .int 0]) r P) (P (.fz (.int (optI (nxt l c 0)))) r) := ⟨fun q => ⟨.fz (.int (optI (nxt l c 0))), by
  rw [d_find3, find3_one l c 0 (by omega)]; rfl, q⟩⟩
end
theorem ltrs_get {l : List Nat} {i : Nat} {d : D} (h : (ltrs l)[i]? = some d) : ∃ c, l[i]? = some c ∧ d = .str (tx [c]) := by
  unfold ltrs at h
  rw [List.getElem?_map] at h
  obtain ⟨c, hc, e⟩ := Option.map_eq_some_iff.mp h
  exact ⟨c, hc, e.symm⟩
theorem ltrs_len {l : List Nat} : (ltrs l).length = l.length := by simp [ltrs]
theorem szb' {n : Nat} (h : n ≤ 1000000) : n ≤ sizeLine := by rw [sizeLine_eq]; omega
theorem szl' {n : Nat} (h : n ≤ 1000000) : n < sizeLine := by rw [sizeLine_eq]; omega
end QM
namespace QM
open PySem PySem.Spec L2 QL QP
local macro_rules | `(tactic| decreasing_trivial_pre_omega) => `(tactic| first
  | apply QM.Step.go
  | refine ⟨rfl, ?_⟩
  | refine ⟨⟨rfl, rfl⟩, ?_⟩
  | refine ⟨_, rfl, ?_⟩
  | refine ⟨_, _, rfl, ?_⟩
  | refine ⟨_, _, _, rfl, ?_⟩
  | refine ⟨Nat.le_of_ble_eq_true rfl, ?_⟩
  | refine wAt_r rfl ?_
  | refine wB_t rfl ?_
  | refine wB_f rfl ?_)
theorem pick_sp {t : Int × Int} {many : Int} (ok : TapeOk t = true) (h0 : 0 < many) (h1 : many < 1000000000000000000000000000000) : wFT (F__law_pick t [.int many]) (fun v t' => TapeOk t' = true ∧ ∃ f : Nat, v = .fz (.int f) ∧ (f : Int) < many) (fun _ _ _ => False) := by
  obtain ⟨f, t', e, o, p, q⟩ := pick_eq ok h0 h1
  rw [e]
  exact ⟨rfl, o, f.toNat, by rw [Int.toNat_of_nonneg p], by omega⟩
theorem atI_lt {α : Type} {xs : List α} {f : Nat} (h : f < xs.length) : atI xs (f : Int) = some xs[f] := by
  have := atI_nat (List.getElem?_eq_getElem h)
  exact this
theorem one_of_sp {t : Int × Int} {ds : List D} (ok : TapeOk t = true) (h0 : ds ≠ []) (h1 : ds.length < 1000000000000) : wFT (F__law_one_of t [.list ds]) (fun v t' => TapeOk t' = true ∧ ∃ d ∈ ds, v = .fz d) (fun _ _ _ => False) := by
  refine wFT_go ?_
  unfold B__law_one_of
  repeat' decreasing_trivial_pre_omega
  have hl : 0 < ds.length := List.length_pos_iff.mpr h0
  refine wFT_use (pick_sp ok (by omega) (by omega)) (fun v t' ⟨o, f, e, hf⟩ => ?_)
  subst e
  repeat' decreasing_trivial_pre_omega
  refine wAt_r (atI_lt (by omega)) ?_
  exact ⟨rfl, t', rfl, o, _, List.getElem_mem _, rfl⟩
instance : OfS "" [] := ⟨by decide⟩
theorem strs_ltrs (l : List Nat) : strsD (ltrs l) = some (l.map fun c => tx [c]) := by
  induction l with
  | nil => rfl
  | cons c l ih =>
    show (strsD (ltrs l)).map _ = _
    rw [ih]; rfl
theorem cut_up {α : Type} (xs : List α) (b : Nat) : cutL xs none (some (b : Int)) = xs.take b := cut_to xs b
/-- what is left of p behind a walk through l -/
def remL : List Nat → List Nat → List Nat
  | _, [] => []
  | [], p => p
  | b :: l, a :: p => if a = b then remL l p else remL l (a :: p)
theorem remL_nil (l : List Nat) : remL l [] = [] := by cases l <;> rfl
theorem remL_sub : ∀ (l p : List Nat), remL l p = [] ↔ p.Sublist l
  | l, [] => by simp [remL_nil]
  | [], a :: p => by simp [remL]
  | b :: l, a :: p => by
    unfold remL
    split
    · rename_i h
      subst h
      rw [remL_sub l p, List.cons_sublist_cons]
    · rename_i h
      rw [remL_sub l (a :: p)]
      constructor
      · exact fun z => z.cons b
      · intro z
        cases z with
        | cons _ z => exact z
        | cons_cons _ z => exact absurd rfl h
theorem remL_drop {l : List Nat} {q : List Nat} {i c : Nat} (h : l[i]? = some c) : l.drop i = c :: l.drop (i + 1) := by
  obtain ⟨hi, e⟩ := List.getElem?_eq_some_iff.mp h
  rw [← e, List.drop_eq_getElem_cons hi]
/-- the first places of p in l, from s on -/
def paL (l : List Nat) : List Nat → Nat → Option (List Nat)
  | [], _ => some []
  | c :: p, s => match nxt l c s with
    | none => none
    | some k => (paL l p (k + 1)).map (k :: ·)
theorem remL_skip {l p : List Nat} {c : Nat} : ∀ (n s : Nat), (∀ j, s ≤ j → j < s + n → l[j]? ≠ some c) → s + n ≤ l.length → remL (l.drop s) (c :: p) = remL (l.drop (s + n)) (c :: p)
  | 0, s, _, _ => rfl
  | n + 1, s, h, hl => by
    have hs : s < l.length := by omega
    rw [List.drop_eq_getElem_cons hs]
    have hne : c ≠ l[s] := fun e => h s (Nat.le_refl _) (by omega) (by rw [List.getElem?_eq_getElem hs, e])
    rw [remL, if_neg hne, remL_skip n (s + 1) (fun j a b => h j (by omega) (by omega)) (by omega), show s + 1 + n = s + (n + 1) by omega]
theorem remL_absent {p : List Nat} {c : Nat} : ∀ {l : List Nat}, c ∉ l → remL l (c :: p) = c :: p
  | [], _ => rfl
  | b :: l, h => by
    have h1 : c ≠ b := fun e => h (by simp [e])
    rw [remL, if_neg h1, remL_absent fun z => h (List.mem_cons_of_mem _ z)]
theorem paL_rem (l : List Nat) : ∀ (p : List Nat) (s : Nat), (paL l p s).isSome = decide (remL (l.drop s) p = [])
  | [], s => by simp [paL, remL_nil]
  | c :: p, s => by
    unfold paL
    cases e : nxt l c s with
    | none =>
      have ab : c ∉ l.drop s := fun hc => by
        obtain ⟨i, hi, e2⟩ := List.mem_iff_getElem.mp hc
        rw [List.length_drop] at hi
        rw [List.getElem_drop] at e2
        exact nxt_none e (s + i) (by omega) (by rw [List.getElem?_eq_getElem (by omega), e2])
      rw [remL_absent ab]
      simp
    | some k =>
      obtain ⟨h1, h2, h3⟩ := nxt_some e
      have hk := (List.getElem?_eq_some_iff.mp h2).1
      have := remL_skip (l := l) (p := p) (c := c) (k - s) s (fun j a b => h3 j a (by omega)) (by omega)
      rw [show s + (k - s) = k by omega] at this
      rw [this, remL_drop (q := p) h2, remL, if_pos rfl]
      simp [paL_rem l p (k + 1)]
end QM
namespace QM
open PySem PySem.Spec L2 QL QP
local macro_rules | `(tactic| decreasing_trivial_pre_omega) => `(tactic| first
  | apply QM.Step.go
  | refine ⟨rfl, ?_⟩
  | refine ⟨⟨rfl, rfl⟩, ?_⟩
  | refine ⟨_, rfl, ?_⟩
  | refine ⟨_, _, rfl, ?_⟩
  | refine ⟨_, _, _, rfl, ?_⟩
  | refine ⟨Nat.le_of_ble_eq_true rfl, ?_⟩
  | refine wAt_r rfl ?_
  | refine wB_t rfl ?_
  | refine wB_f rfl ?_)
inductive Sy where
  | has (p : List Nat) | no (s : Sy) | an (s t : Sy) | or (s t : Sy)
instance : OfS "has" [104, 97, 115] := ⟨by decide +kernel⟩
instance : OfS "not" [110, 111, 116] := ⟨by decide +kernel⟩
instance : OfS "and" [97, 110, 100] := ⟨by decide +kernel⟩
instance : OfS "or" [111, 114] := ⟨by decide +kernel⟩
def Sy.deep : Sy → Nat
  | .has _ => 1
  | .no s => s.deep + 1
  | .an s t => max s.deep t.deep + 1
  | .or s t => max s.deep t.deep + 1
def Sy.ok : Sy → Prop
  | .has p => Tx p ∧ p.length ≤ 1000
  | .no s => s.ok
  | .an s t => s.ok ∧ t.ok
  | .or s t => s.ok ∧ t.ok
def Sy.kept (l : List Nat) : Sy → Bool
  | .has p => decide (remL l p = [])
  | .no s => !s.kept l
  | .an s t => s.kept l && t.kept l
  | .or s t => s.kept l || t.kept l
theorem Sy.pos (s : Sy) : 1 ≤ s.deep := by cases s <;> simp [Sy.deep]
theorem is_text_R {l : List Nat} (hl : l.length ≤ 1000000) : Ret (F_is_text [.str (tx l)]) (.fz (.bool (decide (Tx l)))) := Ret.of_eq (is_text_eq l (szb' hl))
end QM
namespace QM
open PySem PySem.Spec L2 QL QP
section
variable {P : SV → S → Prop} {PD : D → S → Prop} {PL : List D → S → Prop} {PP : List (D × D) → S → Prop} {X : XPo} {r : S} {p : Po} {fa fb fc fk fv : S → Res D} {F : S → Res (List (D × D))} {FL : S → Res (List D)}
  {op op2 : D → D → Option OV} {i j : Nat} {a b : Int} {sl : List (Option SV)} {tp : Option (Int × Int)} {ds es : List D} {l m : List Nat}
instance : Step (wE (fChain op op2 fa fb fc r) P X) (wE (fa r) (fun x r => wE (fb r) (fun y r => wO (op x y) r fun v r => wV v fun d => wBo d fun b => wB b (wE (fc r) (fun z r => wO (op2 y z) r P) X) (P (.fz (.bool false)) r)) X) X) := ⟨fun h => wE_bind (wE_mono h fun x r h => wE_bind (wE_mono h fun y r h => by
  obtain ⟨z, e, d, e2, b, e3, h⟩ := h
  subst e3
  have ez : z = .fz (.bool b) := by
    cases z with
    | fz d => cases e2; rfl
    | nl d => cases e2
    | nt d => cases e2
    | nd d => cases e2
  subst ez
  rw [e]
  cases b with
  | true => exact wE_bind (wE_mono (h.1 rfl) fun _ _ h => wO_ov h)
  | false => exact h.2 rfl))⟩
instance : Step (wO (dPow (.int a) (.int b)) r P) ((0 ≤ b ∧ (bitsI a : Int) * b ≤ 2 ^ 27) ∧ P (.fz (.int (a ^ b.toNat))) r) := ⟨fun q => wO_of (z' := .fz (.int (a ^ b.toNat))) (by unfold dPow; exact if_pos q.1) q.2⟩
instance : Step (wE (pNil r) PP X) (PP [] r) := ⟨id⟩
instance : Step (wE (pCons fk fv F r) PP X) (wE (fk r) (fun k r => wE (fv r) (fun v r => wE (F r) (fun ps r => PP ((k, v) :: ps) r) X) X) X) := ⟨fun h => wE_bind (wE_mono h fun _ _ h => wE_bind (wE_mono h fun _ _ h => wE_bind (wE_mono h fun _ _ h => h)))⟩
instance : Step (wE (eDisp F r) P X) (wE (F r) (fun ps r => ∃ cs, keysD ps = some cs ∧ ps.length ≤ 15 ∧ P (.od (mergeD [] cs)) r) X) := ⟨fun h => wE_bind (wE_mono h fun ps r h => by
  obtain ⟨cs, e, hl, h⟩ := h
  rw [e]
  show wE (if ps.length ≤ 15 then _ else _) P X
  rw [if_pos hl]; exact h)⟩
instance : Step (wE (eDispT F r) P X) (wE (F r) (fun ps r => ∃ cs, keysDT ps = some cs ∧ ps.length ≤ 15 ∧ P (.ot (mergeDT [] cs)) r) X) := ⟨fun h => wE_bind (wE_mono h fun ps r h => by
  obtain ⟨cs, e, hl, h⟩ := h
  rw [e]
  show wE (if ps.length ≤ 15 then _ else _) P X
  rw [if_pos hl]; exact h)⟩
def wPp (xs : List D) (k : Int) (Q : D → List D → Prop) : Prop := False ∨ ∃ q, popD xs k = some q ∧ Q q.1 q.2
instance {fe : S → Res D} : Step (wE (fPop j fe ⟨sl, tp⟩) PD X) (wL sl j fun x => wA x fun _ => wE (fe ⟨sl, tp⟩) (fun d r => wIn d fun k => wL r.sl j fun x => wA x fun xs => wPp xs k fun d xs' => wU r.sl j (some (.ol xs')) fun sl => wRS sl r.tp fun r => PD d r) X) := ⟨fun ⟨x, e, xs0, e1, h⟩ => by
  subst e1
  unfold fPop
  try dsimp only
  rw [e]
  refine wE_bind (wE_mono h fun d r h => ?_)
  obtain ⟨k, e2, y, e3, xs, e4, h | ⟨q, e5, e6, h⟩⟩ := h
  · exact h.elim
  subst e2 e4
  try dsimp only
  rw [e3]
  try dsimp only
  rw [e5]
  exact h⟩
instance : Step (wE (fZip FL r) PL X) (wE (FL r) (fun ds r => ∃ x y, ds = [x, y] ∧ wIt x fun ds => wIt y fun es => PL (zipL ds es) r) X) := ⟨fun h => wE_bind (wE_mono h fun ds r h => by
  obtain ⟨x, y, e, ds, e2, es, e3, h⟩ := h
  subst e
  show wE (match itemsD x, itemsD y with
    | some ds, some es => Res.ok (zipL ds es) r
    | _, _ => Res.bad) PL X
  rw [e2, e3]
  exact h)⟩
instance : Step (wO (dSortA [.list ds]) r P) (∃ ys, strsD ds = some ys ∧ P (.ol ((sortS ys).map .str)) r) := ⟨fun ⟨ys, e, q⟩ => wO_of (z' := .nl ((sortS ys).map .str)) (by
  unfold dSortA
  dsimp only
  rw [e]) q⟩
instance : Step (wO (dTupA [.list ds]) r P) (P (.fz (.tuple ds)) r) := ⟨wO_of (z' := .nt _) rfl⟩
instance : Step (wO (dTupA [.tuple ds]) r P) (P (.fz (.tuple ds)) r) := ⟨fun q => ⟨.fz _, rfl, q⟩⟩
instance : Step (wO (dTupA [.str (tx l)]) r P) (l.length ≤ sizeLine ∧ P (.fz (.tuple (ltrs l))) r) := ⟨fun q => wO_of (z' := .nt (ltrs l)) (by
  unfold dTupA
  dsimp only
  rw [tx_len', if_pos q.1]; rfl) q.2⟩
end
end QM
namespace QM
open PySem PySem.Spec L2 QL QP
local macro_rules | `(tactic| decreasing_trivial_pre_omega) => `(tactic| first
  | apply QM.Step.go
  | refine ⟨rfl, ?_⟩
  | refine ⟨⟨rfl, rfl⟩, ?_⟩
  | refine ⟨_, rfl, ?_⟩
  | refine ⟨_, _, rfl, ?_⟩
  | refine ⟨_, _, _, rfl, ?_⟩
  | refine ⟨Nat.le_of_ble_eq_true rfl, ?_⟩
  | refine wAt_r rfl ?_
  | refine wB_t rfl ?_
  | refine wB_f rfl ?_)
def ddL {α : Type} [DecidableEq α] : List α → List α → List α
  | acc, [] => acc
  | acc, c :: r => if c ∈ acc then ddL acc r else ddL (acc ++ [c]) r
section
variable {α : Type} [DecidableEq α]
theorem ddL_snoc (a : α) : ∀ (l acc : List α), ddL acc (l ++ [a]) = if a ∈ ddL acc l then ddL acc l else ddL acc l ++ [a]
  | [], acc => by by_cases h : a ∈ acc <;> simp [ddL, h]
  | c :: l, acc => by
    simp only [List.cons_append, ddL]
    split
    · exact ddL_snoc a l acc
    · exact ddL_snoc a l (acc ++ [c])
theorem ddL_mem (a : α) : ∀ (l acc : List α), a ∈ ddL acc l ↔ a ∈ acc ∨ a ∈ l
  | [], acc => by simp [ddL]
  | c :: l, acc => by
    simp only [ddL]
    split
    · rename_i h
      rw [ddL_mem a l acc, List.mem_cons]
      constructor
      · rintro (h2 | h2)
        · exact .inl h2
        · exact .inr (.inr h2)
      · rintro (h2 | h2 | h2)
        · exact .inl h2
        · exact .inl (h2 ▸ h)
        · exact .inr h2
    · rw [ddL_mem a l (acc ++ [c])]
      simp only [List.mem_append, List.mem_cons, List.not_mem_nil, or_false, or_assoc]
theorem ddL_len : ∀ (l acc : List α), (ddL acc l).length ≤ acc.length + l.length
  | [], acc => by simp [ddL]
  | c :: l, acc => by
    simp only [ddL, List.length_cons]
    split
    · have := ddL_len l acc; omega
    · have := ddL_len l (acc ++ [c]); simp at this; omega
end
theorem eqv_nil (xs : List D) : PyData.eqv (.list xs) (.list []) = xs.isEmpty := by
  cases xs <;> rfl
theorem any_eqv {α : Type} [DecidableEq α] {f : α → D} (h : ∀ a b, PyData.eqv (f a) (f b) = decide (a = b)) (a : α) (xs : List α) : ((xs.map f).any fun y => PyData.eqv y (f a)) = decide (a ∈ xs) := by
  induction xs with
  | nil => rfl
  | cons x xs ih =>
    rw [List.map_cons, List.any_cons, ih, h]
    simp only [List.mem_cons, eq_comm (a := x)]
    by_cases e : a = x <;> simp [e]
theorem unlike_R {α : Type} [DecidableEq α] {f : α → D} (hf : ∀ a b, PyData.eqv (f a) (f b) = decide (a = b)) (hok : ∀ a, okN 3 (f a)) {l : List α} (hl : l.length ≤ 1000000) : Ret (F__law_unlike [.list (l.map f)]) (.ol ((ddL [] l).map f)) := by
  refine Ret.go ?_
  unfold B__law_unlike
  repeat' decreasing_trivial_pre_omega
  refine wFor_inv (fun i r => ∃ z, r = ⟨[some (.fz (.list (l.map f))), some (.ol ((ddL [] (l.take i)).map f)), z], none⟩) ⟨none, rfl⟩ ?_ ?_
  · rintro i d r hd ⟨z, rfl⟩
    rw [List.getElem?_map] at hd
    obtain ⟨a, ha, e⟩ := Option.map_eq_some_iff.mp hd
    subst e
    have hi := (List.getElem?_eq_some_iff.mp ha).1
    have ht : l.take (i + 1) = l.take i ++ [a] := by rw [List.take_add_one, ha]; rfl
    have hs : ((ddL [] (l.take i)).map f).length < sizeLine := by
      have := ddL_len (l.take i) []
      rw [List.length_take] at this
      rw [List.length_map]
      exact szl' (by simp at this; omega)
    unfold _law_unlike_b1
    repeat' decreasing_trivial_pre_omega
    refine ⟨⟨(hok a).ok, (okN_list (n := 3) fun d hd => ?_).ok⟩, ?_⟩
    · obtain ⟨b, _, rfl⟩ := List.mem_map.mp hd
      exact hok b
    rw [any_eqv hf]
    repeat' decreasing_trivial_pre_omega
    refine wB_d (fun h => ?_) (fun h => ?_)
    · repeat' decreasing_trivial_pre_omega
      refine ⟨some (.fz (f a)), ?_⟩
      rw [ht, ddL_snoc, if_pos h]
    · repeat' decreasing_trivial_pre_omega
      refine ⟨hs, ?_⟩
      repeat' decreasing_trivial_pre_omega
      refine ⟨some (.fz (f a)), ?_⟩
      rw [ht, ddL_snoc, if_neg h, List.map_append]
      rfl
  · rintro r ⟨z, rfl⟩
    rw [List.length_map, List.take_length]
    repeat' decreasing_trivial_pre_omega
    rfl
end QM
namespace QM
open PySem PySem.Spec L2 QL QP
local macro_rules | `(tactic| decreasing_trivial_pre_omega) => `(tactic| first
  | apply QM.Step.go
  | refine ⟨rfl, ?_⟩
  | refine ⟨⟨rfl, rfl⟩, ?_⟩
  | refine ⟨_, rfl, ?_⟩
  | refine ⟨_, _, rfl, ?_⟩
  | refine ⟨_, _, _, rfl, ?_⟩
  | refine ⟨Nat.le_of_ble_eq_true rfl, ?_⟩
  | refine wAt_r rfl ?_
  | refine wB_t rfl ?_
  | refine wB_f rfl ?_)
theorem lt_one (a b : Nat) : decide ([a] < [b]) = decide (a < b) := by
  apply decide_eq_decide.mpr
  constructor
  · intro h
    cases h with
    | rel h => exact h
    | cons h => cases h
  · exact fun h => List.Lex.rel h
theorem eqv_bool (a b : Bool) : PyData.eqv (.bool a) (.bool b) = decide (a = b) := by cases a <;> cases b <;> decide
theorem any_bool (bs : List Bool) : ((bs.map PyData.bool).any fun y => PyData.eqv y (.bool false)) = !bs.all id := by
  induction bs with
  | nil => rfl
  | cons b bs ih =>
    rw [List.map_cons, List.any_cons, ih, eqv_bool, List.all_cons]
    cases b <;> simp
theorem ok_bools (bs : List Bool) : okD (.list (bs.map PyData.bool)) = true := (okN_list (n := 3) fun d hd => by
  obtain ⟨b, _, rfl⟩ := List.mem_map.mp hd
  exact okN_bool).ok
end QM
namespace QM
open PySem PySem.Spec L2 QL QP
local macro_rules | `(tactic| decreasing_trivial_pre_omega) => `(tactic| first
  | apply QM.Step.go
  | refine ⟨rfl, ?_⟩
  | refine ⟨⟨rfl, rfl⟩, ?_⟩
  | refine ⟨_, rfl, ?_⟩
  | refine ⟨_, _, rfl, ?_⟩
  | refine ⟨_, _, _, rfl, ?_⟩
  | refine ⟨Nat.le_of_ble_eq_true rfl, ?_⟩
  | refine wAt_r rfl ?_
  | refine wB_t rfl ?_
  | refine wB_f rfl ?_)
theorem perm_map_inv {α β : Type} {f : α → β} (g : β → α) (hg : ∀ a, g (f a) = a) {ys : List β} {l : List α} (h : ys.Perm (l.map f)) : ∃ s : List α, ys = s.map f ∧ s.Perm l := by
  refine ⟨ys.map g, ?_, ?_⟩
  · rw [List.map_map]
    have : ys.map (f ∘ g) = ys.map id := List.map_congr_left fun y hy => by
      obtain ⟨a, _, e⟩ := List.mem_map.mp (h.mem_iff.mp hy)
      subst e
      show f (g (f a)) = f a
      rw [hg]
    rw [this, List.map_id]
  · have := h.map g
    rw [List.map_map] at this
    have e : l.map (g ∘ f) = l := by
      have : l.map (g ∘ f) = l.map id := List.map_congr_left fun a _ => hg a
      rw [this, List.map_id]
    rwa [e] at this
def unT (s : Str) : Nat := s.cps.toList.headD 0
theorem leS_one (a b : Nat) : leS (tx [a]) (tx [b]) = true ↔ a ≤ b := by
  unfold leS
  show (!decide ([b] < [a])) = true ↔ _
  rw [lt_one]
  simp
theorem sort_ones (l : List Nat) : ∃ s : List Nat, sortS (l.map fun c => tx [c]) = (s.map fun c => tx [c]) ∧ s.Perm l ∧ s.Pairwise (· ≤ ·) := by
  obtain ⟨s, e, p⟩ := perm_map_inv (f := fun c => tx [c]) unT (fun a => rfl) (sortS_perm (l.map fun c => tx [c]))
  refine ⟨s, e, p, ?_⟩
  have h := sortS_sorted (l.map fun c => tx [c])
  rw [e, List.pairwise_map] at h
  exact h.imp fun h => (leS_one _ _).mp h
instance : OfS "abcxz" [97, 98, 99, 120, 122] := ⟨by decide +kernel⟩
theorem ltrs_strs (s : List Nat) : (s.map fun c => tx [c]).map PyData.str = ltrs s := by unfold ltrs; rw [List.map_map]; rfl
end QM
namespace QM
open PySem PySem.Spec L2 QL QP
/-- a def that raises -/
def Thr (x : FR) (c : Str) (f : List (Str × D)) : Prop := ∃ tp, x = .exc c f tp
section
variable {x : FR} {c v : Str} {f : List (Str × D)} {P : SV → Prop} {X : Str → List (Str × D) → Prop} {n : Nat} {B : S → RS} {ds : List D} {xs : List SV} {sl : List (Option SV)} {p : Po} {r : S} {fe : S → Res D} {tp : Option (Int × Int)} {PV : SV → S → Prop} {XV : XPo} {FB : S → Res SV} {hs : List HM} {PT : Addr}
theorem Thr.of_w (h : wF x (fun _ => False) (fun c' f' => c' = c ∧ f' = f)) : Thr x c f := by
  cases x with
  | ok y t => exact h.2.elim
  | exc c' f' t => obtain ⟨a, b⟩ := h; subst a b; exact ⟨t, rfl⟩
  | bad => exact h.elim
theorem Thr.go [f' : Fz ds xs] [m : Mk n xs sl] (h : wS (B ⟨sl, none⟩) ⟨fun _ => False, fun x _ => x.out = true ∧ False, fun _ => False, fun _ => False, fun c' f' _ => c' = c ∧ f' = f⟩) : Thr (bodyF n B ds) c f := Thr.of_w (wF_go h)
instance : Step (wS (sRaise c v fe r) p) (wE (fe r) (fun d r => p.ex c [(v, d)] r) p.ex) := ⟨fun h => wE_bindS (wE_mono h fun _ _ h => h)⟩
def wTell (hs : List HM) (c : Str) (f : List (Str × D)) (Q : List D → Prop) : Prop := False ∨ ∃ ds, tellR hs c f = some ds ∧ Q ds
def wScr (x : SV) (PT : Addr) (Q : Prop) : Prop := ∃ T, x = .scr T ∧ PT ∈ T ∧ Q
instance {Q : Prop} : Step (wScr (.scr [PT]) PT Q) Q := ⟨fun q => ⟨_, rfl, by simp, q⟩⟩
instance : Step (wE (fRef PT hs FB ⟨sl, tp⟩) PV XV) (wL sl 0 fun x => wScr x PT (wE (FB ⟨sl, tp⟩) (fun _ r => PV (.ol []) r) (fun c f r => wTell hs c f fun ds => PV (.ol ds) r))) := ⟨fun ⟨x, e, T, e2, hT, h⟩ => by
  subst e2
  unfold fRef
  dsimp only
  rw [e]
  dsimp only
  rw [if_pos hT]
  cases e3 : FB ⟨sl, tp⟩ with
  | ok y r => rw [e3] at h; exact h
  | bad => rw [e3] at h; exact h
  | exc c f r =>
    rw [e3] at h
    rcases h with h | ⟨ds, e4, h⟩
    · exact h.elim
    · unfold refIn
      dsimp only
      rw [e4]
      exact h⟩
end
end QM
namespace QM
open PySem PySem.Spec L2 QL QP
def sml (d : D) : Bool := d.showable && decide (d.depth ≤ 50) && d.leavesShort 40 && decide (d.weight ≤ 10000)
theorem sml_tx {l : List Nat} (h : l.length ≤ 1000) (hc : ∀ c ∈ l, c < 16 ^ 8) : sml (.str (tx l)) = true := by
  unfold sml
  simp only [Bool.and_eq_true, decide_eq_true_eq]
  refine ⟨⟨⟨rfl, by simp [PyData.depth]⟩, ?_⟩, ?_⟩
  · show (tx l).cps.toList.all _ = true
    simp only [List.all_eq_true, decide_eq_true_eq]
    intro c hcm
    exact hc c (by simpa [tx] using hcm)
  · simp [PyData.weight, tx]
    omega
instance : Step (wO (dReprA [d]) r P) (showA d = true ∧ P (.fz (.str d.shown)) r) := ⟨fun q => wO_of (z' := .fz (.str d.shown)) (by
  show (if showA d = true then _ else _) = _
  rw [if_pos q.1]) q.2⟩
end QM
namespace QM
open PySem PySem.Spec L2 QL QP
local macro_rules | `(tactic| decreasing_trivial_pre_omega) => `(tactic| first
  | apply QM.Step.go
  | refine ⟨rfl, ?_⟩
  | refine ⟨⟨rfl, rfl⟩, ?_⟩
  | refine ⟨_, rfl, ?_⟩
  | refine ⟨_, _, rfl, ?_⟩
  | refine ⟨_, _, _, rfl, ?_⟩
  | refine ⟨Nat.le_of_ble_eq_true rfl, ?_⟩
  | refine ⟨⟨Nat.le_of_ble_eq_true rfl, by decide, by decide⟩, ?_⟩
  | refine wAt_r rfl ?_
  | refine wB_t rfl ?_
  | refine wB_f rfl ?_)
def wOd (x : SV) (Q : List (D × D) → Prop) : Prop := ∃ kvs, x = .od kvs ∧ Q kvs
def wKey (k : D) (Q : Key → Prop) : Prop := ∃ c, keyD k = some c ∧ Q c
section
variable {P : SV → S → Prop} {X : XPo} {r : S} {p : Po} {fv fk : S → Res D} {i : Nat} {sl : List (Option SV)} {tp : Option (Int × Int)}
instance {Q : List (D × D) → Prop} {kvs : List (D × D)} : Step (wOd (.od kvs) Q) (Q kvs) := ⟨fun q => ⟨_, rfl, q⟩⟩
instance {Q : Key → Prop} {a : Int} : Step (wKey (.int a) Q) (Q (.inl a)) := ⟨fun q => ⟨_, rfl, q⟩⟩
instance {Q : Key → Prop} {z : Str} : Step (wKey (.str z) Q) (Q (.inr z)) := ⟨fun q => ⟨_, rfl, q⟩⟩
instance : Step (wS (sPutK i fv fk r) p) (wE (fv r) (fun v r => wL r.sl i fun x => wOd x fun _ => wE (fk r) (fun k r => wKey k fun c => wL r.sl i fun x => wOd x fun kvs => kvs.length < sizeLine ∧ wU r.sl i (some (.od (putD kvs c v))) fun sl => wRS sl r.tp p.nx) p.ex) p.ex) := ⟨fun h => wE_bindS (wE_mono h fun v r h => by
  obtain ⟨x, e, kvs, e2, h⟩ := h
  subst e2
  rw [e]
  refine wE_bindS (wE_mono h fun k r h => ?_)
  obtain ⟨c, e3, x, e4, kvs, e5, hl, h⟩ := h
  subst e5
  rw [e3, e4]
  show wS (if kvs.length < sizeLine then _ else _) p
  rw [if_pos hl]
  exact h.2)⟩
instance : Step (wE (fLenK i ⟨sl, tp⟩) P X) (wL sl i fun x => wOd x fun kvs => P (.fz (.int (kvs.length : Nat))) ⟨sl, tp⟩) := ⟨fun ⟨x, e, kvs, e2, h⟩ => by
  subst e2
  unfold fLenK
  dsimp only
  rw [e]
  exact h⟩
instance {PL : List D → S → Prop} {l : List Nat} [h : Get sl i (some (.fz (.str (tx l))))] : Step (wE (fEnum (aCons (fV i) aNil) ⟨sl, tp⟩) PL X) (PL (enumL (ltrs l)) ⟨sl, tp⟩) := ⟨fun q => Step.go (Step.go (Step.go (Step.go ⟨_, _, rfl, .inr ⟨_, rfl, rfl⟩, q⟩)))⟩
end
abbrev Pn (q : S → Prop) : Po := ⟨q, fun _ _ => False, fun _ => False, fun _ => False, XN⟩
theorem cutP {x : RS} {p : Po} {q : S → Prop} (h : wS x (Pn q)) (k : ∀ s, q s → p.nx s) : wS x p := wS_mono h k (fun _ _ z => z.elim) (fun _ z => z.elim) (fun _ z => z.elim) (fun _ _ _ z => z.elim)
theorem seqP {A B : S → RS} {r : S} {q : S → Prop} {p : Po} (h : wS (A r) (Pn q)) (k : ∀ s, q s → wS (B s) p) : wS (sSeq A B r) p := wS_go (cutP h k)
theorem lawOk_of {n : Nat} {T : List Addr} {B : S → RS} {G : S → Res SV}
    (turn : ∀ (i : Int) (t : Int × Int), TapeOk t = true → wS (B (lawS n T i t)) (Pn fun r => r.sl[0]? = some (some (.scr T)) ∧ r.sl.length = n + 3))
    (last : wE (G (lawE n T)) (fun v _ => v = .fz (.bool true)) XN) : LawOk n T B G where
  turn := fun i t _ _ ok => by
    have key := turn i t ok
    cases e : B (lawS n T i t) with
    | nx r => rw [e] at key; exact ⟨r, rfl, key⟩
    | bk r => rw [e] at key; exact key.elim
    | ct r => rw [e] at key; exact key.elim
    | rt v r => rw [e] at key; exact key.elim
    | exc c f r => rw [e] at key; exact key.elim
    | bad => rw [e] at key; exact key.elim
  last := by
    cases e : G (lawE n T) with
    | ok v r => rw [e] at last; have last : v = _ := last; subst last; exact ⟨r, rfl⟩
    | exc c f r => rw [e] at last; exact last.elim
    | bad => rw [e] at last; exact last.elim
theorem one_all {Pb : D → Bool} {t : Int × Int} {ds : List D} (ok : TapeOk t = true) (hall : ds.all Pb = true) (h0 : ds ≠ []) (h1 : ds.length < 1000000000000) : wFT (F__law_one_of t [.list ds]) (fun v t' => TapeOk t' = true ∧ ∃ d, v = .fz d ∧ Pb d = true) (fun _ _ _ => False) :=
  wFT_use (one_of_sp ok h0 h1) fun v t' ⟨o, d, hd, e⟩ => ⟨o, d, e, List.all_eq_true.mp hall d hd⟩
/-- a thing that weighs little -/
def tiny (d : D) : Bool := sml d && decide (d.depth ≤ 40) && decide (d.weight ≤ 1000)
theorem tiny_of {d : D} (h : tiny d = true) : sml d = true ∧ d.depth ≤ 40 ∧ d.weight ≤ 1000 := by
  unfold tiny at h
  simp only [Bool.and_eq_true, decide_eq_true_eq] at h
  exact ⟨h.1.1, h.1.2, h.2⟩
theorem tiny_tx {l : List Nat} (h : l.length ≤ 200) (hc : ∀ c ∈ l, c < 16 ^ 8) : tiny (.str (tx l)) = true := by
  unfold tiny
  simp only [Bool.and_eq_true, decide_eq_true_eq]
  refine ⟨⟨sml_tx (by omega) hc, by simp [PyData.depth]⟩, ?_⟩
  simp [PyData.weight, tx]
  omega
abbrev Good (d : D) : Prop := Ret (F_is_text [d]) (.fz (.bool true))
theorem good_tx {l : List Nat} (hl : l.length ≤ 1000000) (h : Tx l) : Good (.str (tx l)) := by
  have := is_text_R hl
  rwa [decide_eq_true h] at this
instance : OfS "a" [97] := ⟨by decide +kernel⟩
instance : OfS "b" [98] := ⟨by decide +kernel⟩
instance : OfS "A" [65] := ⟨by decide +kernel⟩
instance : OfS "-" [45] := ⟨by decide +kernel⟩
instance : OfS "1" [49] := ⟨by decide +kernel⟩
instance : OfS "a1" [97, 49] := ⟨by decide +kernel⟩
instance : OfS "a b" [97, 32, 98] := ⟨by decide +kernel⟩
instance : OfS "ab" [97, 98] := ⟨by decide +kernel⟩
instance : OfS "ba" [98, 97] := ⟨by decide +kernel⟩
instance : OfS "aa" [97, 97] := ⟨by decide +kernel⟩
instance : OfS "aba" [97, 98, 97] := ⟨by decide +kernel⟩
instance : OfS "abc" [97, 98, 99] := ⟨by decide +kernel⟩
instance : OfS "text" [116, 101, 120, 116] := ⟨by decide +kernel⟩
instance : OfS "letters" [108, 101, 116, 116, 101, 114, 115] := ⟨by decide +kernel⟩
theorem nats_ints (ns : List Nat) : (ns.map fun n => PyData.int (n : Nat)) = (ns.map fun (n : Nat) => ((n : Nat) : Int)).map .int := by rw [List.map_map]; rfl
theorem ok_nats {ns : List Nat} : okD (.list (ns.map fun n => PyData.int (n : Nat))) = true := by rw [nats_ints]; exact ok_ints
end QM
namespace QM
open PySem PySem.Spec L2 QL QP
/-- behind the first places of p from s on -/
def adv (l : List Nat) : List Nat → Nat → Option Nat
  | [], s => some s
  | c :: p, s => (nxt l c s).bind fun k => adv l p (k + 1)
theorem adv_snoc (l : List Nat) (c : Nat) : ∀ (p : List Nat) (s : Nat), adv l (p ++ [c]) s = (adv l p s).bind fun k => (nxt l c k).map (· + 1)
  | [], s => by
    show ((nxt l c s).bind fun k => some (k + 1)) = (nxt l c s).map (· + 1)
    cases nxt l c s <;> rfl
  | a :: p, s => by
    show ((nxt l a s).bind fun k => adv l (p ++ [c]) (k + 1)) = ((nxt l a s).bind fun k => adv l p (k + 1)).bind _
    cases nxt l a s with
    | none => rfl
    | some k => exact adv_snoc l c p (k + 1)
theorem adv_paL (l : List Nat) : ∀ (p : List Nat) (s : Nat), (adv l p s).isSome = (paL l p s).isSome
  | [], s => rfl
  | a :: p, s => by
    unfold adv paL
    cases nxt l a s with
    | none => rfl
    | some k =>
      show (adv l p (k + 1)).isSome = _
      rw [adv_paL l p (k + 1), Option.isSome_map]
theorem adv_rem (l p : List Nat) (s : Nat) : (adv l p s).isSome = true ↔ p.Sublist (l.drop s) := by
  rw [adv_paL, paL_rem, decide_eq_true_iff, remL_sub]
theorem adv_sub (l p : List Nat) : (adv l p 0).isSome = true ↔ p.Sublist l := by rw [adv_rem, List.drop_zero]
theorem nxt_lt {l : List Nat} {c s k : Nat} (h : nxt l c s = some k) : s ≤ k ∧ k < l.length := ⟨(nxt_some h).1, (List.getElem?_eq_some_iff.mp (nxt_some h).2.1).1⟩
theorem adv_le (l : List Nat) : ∀ (p : List Nat) (s k : Nat), s ≤ l.length → adv l p s = some k → s ≤ k ∧ k ≤ l.length
  | [], s, k, hs, h => by cases h; exact ⟨Nat.le_refl _, hs⟩
  | a :: p, s, k, hs, h => by
    unfold adv at h
    cases e : nxt l a s with
    | none => rw [e] at h; cases h
    | some j =>
      rw [e] at h
      have := nxt_lt e
      have := adv_le l p (j + 1) k (by omega) h
      omega
theorem nxt_mem {l : List Nat} {c s : Nat} : c ∈ l.drop s ↔ ∃ k, nxt l c s = some k := by
  constructor
  · intro hc
    cases e : nxt l c s with
    | some k => exact ⟨k, rfl⟩
    | none =>
      obtain ⟨i, hi, e2⟩ := List.mem_iff_getElem.mp hc
      rw [List.length_drop] at hi
      rw [List.getElem_drop] at e2
      exact absurd (by rw [List.getElem?_eq_getElem (by omega), e2]) (nxt_none e (s + i) (by omega))
  · rintro ⟨k, e⟩
    obtain ⟨h1, h2, h3⟩ := nxt_some e
    exact List.mem_iff_getElem?.mpr ⟨k - s, by rw [List.getElem?_drop, show s + (k - s) = k by omega, h2]⟩
def fnext (l : List Nat) (q : List Nat × Nat) : List (List Nat × Nat) := (QS.sortU (l.drop q.2)).map fun c => (q.1 ++ [c], (nxt l c q.2).getD 0 + 1)
def fnd (l : List Nat) : Nat → List (List Nat × Nat)
  | 0 => [([], 0)]
  | n + 1 => (fnd l n).flatMap (fnext l)
/-- the unlike pieces of n letters -/
def pcs (l : List Nat) (n : Nat) : List (List Nat) := (fnd l n).map (·.1)
theorem lex_irr {p : List Nat} : ¬ p < p := List.lt_irrefl p
theorem asc_ndp {a : List (List Nat)} (h : a.Pairwise (· < ·)) : a.Nodup := List.Pairwise.imp (fun {a b} (h : a < b) (e : a = b) => lex_irr (e ▸ h)) h
theorem lex_tri : ∀ a b : List Nat, a < b ∨ a = b ∨ b < a
  | [], [] => .inr (.inl rfl)
  | [], b :: q => .inl (List.nil_lt_cons _ _)
  | a :: p, [] => .inr (.inr (List.nil_lt_cons _ _))
  | a :: p, b :: q => by
    rw [List.cons_lt_cons_iff, List.cons_lt_cons_iff]
    rcases Nat.lt_trichotomy a b with h | h | h
    · exact .inl (.inl h)
    · subst h
      rcases lex_tri p q with h | h | h
      · exact .inl (.inr ⟨rfl, h⟩)
      · exact .inr (.inl (by rw [h]))
      · exact .inr (.inr (.inr ⟨rfl, h⟩))
    · exact .inr (.inr (.inl h))
theorem asc_ext {a b : List (List Nat)} (ha : a.Pairwise (· < ·)) (hb : b.Pairwise (· < ·)) (h : ∀ x, x ∈ a ↔ x ∈ b) : a = b :=
  List.Perm.eq_of_pairwise (fun x y _ _ h1 h2 => absurd (List.lt_trans h1 h2) lex_irr) ha hb ((List.perm_ext_iff_of_nodup (asc_ndp ha) (asc_ndp hb)).mpr h)
def addP (k c : Nat) (K : List (List Nat)) : List (List Nat) → List (List Nat)
  | [] => K
  | p :: r => addP k c (if p.length < k then (if p ++ [c] ∈ K then K else K ++ [p ++ [c]]) else K) r
theorem addP_mem (k c : Nat) (x : List Nat) : ∀ (r K : List (List Nat)), x ∈ addP k c K r ↔ x ∈ K ∨ ∃ p ∈ r, p.length < k ∧ x = p ++ [c]
  | [], K => by simp [addP]
  | p :: r, K => by
    rw [addP, addP_mem k c x r]
    by_cases h : p.length < k
    · rw [if_pos h]
      by_cases h2 : p ++ [c] ∈ K
      · rw [if_pos h2]
        constructor
        · rintro (h3 | ⟨q, h3, h4⟩)
          · exact .inl h3
          · exact .inr ⟨q, List.mem_cons_of_mem _ h3, h4⟩
        · rintro (h3 | ⟨q, h3, h4, h5⟩)
          · exact .inl h3
          · rcases List.mem_cons.mp h3 with h6 | h6
            · subst h6; exact .inl (h5 ▸ h2)
            · exact .inr ⟨q, h6, h4, h5⟩
      · rw [if_neg h2]
        constructor
        · rintro (h3 | ⟨q, h3, h4⟩)
          · rcases List.mem_append.mp h3 with h3 | h3
            · exact .inl h3
            · exact .inr ⟨p, List.mem_cons_self .., h, List.mem_singleton.mp h3⟩
          · exact .inr ⟨q, List.mem_cons_of_mem _ h3, h4⟩
        · rintro (h3 | ⟨q, h3, h4, h5⟩)
          · exact .inl (List.mem_append_left _ h3)
          · rcases List.mem_cons.mp h3 with h6 | h6
            · subst h6; exact .inl (List.mem_append_right _ (by rw [h5]; simp))
            · exact .inr ⟨q, h6, h4, h5⟩
    · rw [if_neg h]
      constructor
      · rintro (h3 | ⟨q, h3, h4⟩)
        · exact .inl h3
        · exact .inr ⟨q, List.mem_cons_of_mem _ h3, h4⟩
      · rintro (h3 | ⟨q, h3, h4, h5⟩)
        · exact .inl h3
        · rcases List.mem_cons.mp h3 with h6 | h6
          · subst h6; exact absurd h4 h
          · exact .inr ⟨q, h6, h4, h5⟩
theorem nodup_snoc {α : Type} {K : List α} {x : α} (h : K.Nodup) (hx : x ∉ K) : (K ++ [x]).Nodup :=
  List.nodup_append.mpr ⟨h, by simp, fun a ha b hb => by simp at hb; subst hb; exact fun e => hx (e ▸ ha)⟩
theorem addP_nodup (k c : Nat) : ∀ (r K : List (List Nat)), K.Nodup → (addP k c K r).Nodup
  | [], K, h => h
  | p :: r, K, h => by
    rw [addP]
    refine addP_nodup k c r _ ?_
    split
    · split
      · exact h
      · rename_i h2; exact nodup_snoc h h2
    · exact h
/-- the keys behind j letters -/
def spk (k : Nat) (l : List Nat) : Nat → List (List Nat)
  | 0 => [[]]
  | j + 1 => addP k (l.getD j 0) (spk k l j) (spk k l j)
theorem spk_nodup (k : Nat) (l : List Nat) : ∀ j, (spk k l j).Nodup
  | 0 => by simp [spk]
  | j + 1 => addP_nodup _ _ _ _ (spk_nodup k l j)
theorem sub_snoc {p m : List Nat} {c : Nat} : p.Sublist (m ++ [c]) ↔ p.Sublist m ∨ ∃ q, p = q ++ [c] ∧ q.Sublist m := by
  rw [List.sublist_append_iff]
  constructor
  · rintro ⟨a, b, e, h1, h2⟩
    cases h2 with
    | cons _ h2 =>
      have := List.sublist_nil.mp h2
      subst this
      rw [List.append_nil] at e
      exact .inl (e ▸ h1)
    | cons_cons _ h2 =>
      have := List.sublist_nil.mp h2
      subst this
      exact .inr ⟨a, e, h1⟩
  · rintro (h | ⟨q, e, h⟩)
    · exact ⟨p, [], by simp, h, List.nil_sublist _⟩
    · exact ⟨q, [c], e, h, List.Sublist.refl _⟩
theorem spk_mem (k : Nat) (l : List Nat) (p : List Nat) : ∀ j, j ≤ l.length → (p ∈ spk k l j ↔ p.length ≤ k ∧ p.Sublist (l.take j))
  | 0, _ => by
    simp only [spk, List.mem_singleton, List.take_zero, List.sublist_nil]
    constructor
    · rintro rfl; exact ⟨Nat.zero_le _, rfl⟩
    · exact fun h => h.2
  | j + 1, hj => by
    have ih := fun q => spk_mem k l q j (by omega)
    have hc : l[j]? = some l[j] := List.getElem?_eq_getElem (by omega)
    have e : l.getD j 0 = l[j] := by rw [List.getD_eq_getElem?_getD, hc]; rfl
    rw [spk, addP_mem, e, List.take_add_one, hc]
    simp only [Option.toList, ih]
    rw [sub_snoc]
    constructor
    · rintro (⟨h1, h2⟩ | ⟨q, ⟨h1, h2⟩, h3, rfl⟩)
      · exact ⟨h1, .inl h2⟩
      · exact ⟨by simp; omega, .inr ⟨q, rfl, h2⟩⟩
    · rintro ⟨h1, h2 | ⟨q, rfl, h2⟩⟩
      · exact .inl ⟨h1, h2⟩
      · refine .inr ⟨q, ⟨?_, h2⟩, ?_, rfl⟩ <;> simp at h1 <;> omega
/-- texts, sorted -/
def srtL (K : List (List Nat)) : List (List Nat) := (sortS (K.map tx)).map fun s => s.cps.toList
theorem srtL_txs (K : List (List Nat)) : sortS (K.map tx) = (srtL K).map tx := by
  unfold srtL
  rw [List.map_map]
  have : (sortS (K.map tx)).map (tx ∘ fun s => s.cps.toList) = (sortS (K.map tx)).map id := List.map_congr_left fun s _ => (Str.tx s).symm
  rw [this, List.map_id]
theorem srtL_perm (K : List (List Nat)) : (srtL K).Perm K := by
  have h := (sortS_perm (K.map tx)).map fun s : Str => s.cps.toList
  rw [List.map_map] at h
  have e : K.map ((fun s : Str => s.cps.toList) ∘ tx) = K.map id := List.map_congr_left fun p _ => by simp [tx]
  rwa [e, List.map_id] at h
theorem srtL_asc {K : List (List Nat)} (h : K.Nodup) : (srtL K).Pairwise (· < ·) := by
  have h1 := sortS_sorted (K.map tx)
  rw [srtL_txs, List.pairwise_map] at h1
  have h2 : (srtL K).Nodup := (srtL_perm K).nodup_iff.mpr h
  refine (List.pairwise_and_iff.mpr ⟨h1, h2⟩).imp fun {a b} ⟨h3, h4⟩ => ?_
  rcases lex_tri a b with h | h | h
  · exact h
  · exact absurd h h4
  · unfold leS at h3
    have h3 : (!decide (b < a)) = true := h3
    have h3 : decide (b < a) = false := by simpa only [Bool.not_eq_true'] using h3
    exact absurd h (of_decide_eq_false h3)
/-- the pieces of at most k letters, ascending -/
def spL (k : Nat) (l : List Nat) : List (List Nat) := srtL (spk k l l.length)
theorem spL_asc (k : Nat) (l : List Nat) : (spL k l).Pairwise (· < ·) := srtL_asc (spk_nodup k l _)
theorem spL_mem {k : Nat} {l p : List Nat} : p ∈ spL k l ↔ p.length ≤ k ∧ p.Sublist l := by
  unfold spL
  rw [(srtL_perm _).mem_iff, spk_mem k l p _ (Nat.le_refl _), List.take_length]
theorem sub_lenA {α : Type} [DecidableEq α] : ∀ {S ls : List α}, S.Nodup → (∀ c ∈ S, c ∈ ls) → S.length ≤ ls.length
  | [], _, _, _ => Nat.zero_le _
  | c :: S, ls, hn, h => by
    have hc := h c (List.mem_cons_self ..)
    have ih := sub_lenA (S := S) (ls := ls.erase c) (List.nodup_cons.mp hn).2 fun d hd => by
      have : d ≠ c := fun e => (List.nodup_cons.mp hn).1 (e ▸ hd)
      exact (List.mem_erase_of_ne this).mpr (h d (List.mem_cons_of_mem _ hd))
    rw [List.length_erase_of_mem hc] at ih
    have := List.length_pos_of_mem hc
    simp only [List.length_cons]
    omega
end QM
namespace QM
open PySem PySem.Spec L2 QL QP
local macro_rules | `(tactic| decreasing_trivial_pre_omega) => `(tactic| first
  | apply QM.Step.go
  | refine ⟨rfl, ?_⟩
  | refine ⟨⟨rfl, rfl⟩, ?_⟩
  | refine ⟨_, rfl, ?_⟩
  | refine ⟨_, _, rfl, ?_⟩
  | refine ⟨_, _, _, rfl, ?_⟩
  | refine ⟨Nat.le_of_ble_eq_true rfl, ?_⟩
  | refine ⟨⟨Nat.le_of_ble_eq_true rfl, by decide, by decide⟩, ?_⟩
  | refine wAt_r rfl ?_
  | refine wB_t rfl ?_
  | refine wB_f rfl ?_)
theorem cut_fr {α : Type} (xs : List α) (b : Nat) : cutL xs (some (b : Int)) none = xs.drop b := by
  unfold cutL
  rw [HT.sIx_nat, HT.sIx_none]
  by_cases h : b ≤ xs.length
  · rw [Nat.min_eq_left h, List.take_of_length_le (by rw [List.length_drop]; exact Nat.le_refl _)]
  · rw [Nat.min_eq_right (by omega), Nat.sub_self, List.take_zero, List.drop_of_length_le (by omega)]
theorem rngL_get {m j : Nat} {d : D} (h : (rngL 0 m)[j]? = some d) : d = .int (j : Nat) ∧ j < m := by
  unfold rngL at h
  rw [List.getElem?_map] at h
  obtain ⟨a, ha, e⟩ := Option.map_eq_some_iff.mp h
  obtain ⟨h1, h2⟩ := List.getElem?_eq_some_iff.mp ha
  rw [List.length_range] at h1
  rw [List.getElem_range] at h2
  subst h2
  exact ⟨by rw [← e]; simp, h1⟩
instance {n : Nat} {b : Int} {A : Prop} : Step (wRg 0 ((n : Nat) + b) A) ((0 ≤ b ∧ (n : Int) + b ≤ 1000000) ∧ A) := ⟨fun h => ⟨by
  have e : ((n : Nat) : Int) + b = ((n + b.toNat : Nat) : Int) := by omega
  rw [e]
  exact rgOk_small (n := 0) (by decide) (by omega), h.2⟩⟩
instance {n : Nat} {b : Int} {A : Prop} : Step (wSm ((n : Nat) + b) A) ((0 ≤ b ∧ (n : Int) + b ≤ 1000000) ∧ A) := ⟨fun h => ⟨by
  have e : ((n : Nat) : Int) + b = ((n + b.toNat : Nat) : Int) := by omega
  rw [e]
  exact sml_small (by omega), h.2⟩⟩
theorem letters_in_R {l : List Nat} (hl : l.length < 4000) : Ret (F_letters_in [.str (tx l)]) (.ol (ltrs (QS.sortU l))) := by
  refine Ret.go ?_
  unfold B_letters_in
  repeat' decreasing_trivial_pre_omega
  refine ⟨hl, ?_⟩
  repeat' decreasing_trivial_pre_omega
  rfl
abbrev seenP (K : List (List Nat)) : List (D × D) := K.map fun p => (.str (tx p), .bool true)
instance {K : List (List Nat)} : NoOb (seenP K) := ⟨by cases K <;> rfl⟩
instance {α : Type} {K : List α} {f : α → Str} {g : α → D} : NoOb (K.map fun p => (PyData.str (f p), g p)) := ⟨by cases K <;> rfl⟩
instance {α : Type} {K : List α} {f : α → List D} {g : α → D} : NoOb (K.map fun p => (PyData.tuple (f p), g p)) := ⟨by cases K <;> rfl⟩
/-- none, or frozen -/
def Fzo (x : Option SV) : Prop := x = none ∨ ∃ d, x = some (.fz d)
theorem remL_drop' {α : Type} {l : List α} {i : Nat} {c : α} (h : l[i]? = some c) : l.drop i = c :: l.drop (i + 1) := by
  obtain ⟨hi, e⟩ := List.getElem?_eq_some_iff.mp h
  rw [← e, List.drop_eq_getElem_cons hi]
end QM
namespace QM
open PySem PySem.Spec L2 QL QP
theorem adv_len (l : List Nat) : ∀ (p : List Nat) (s k : Nat), adv l p s = some k → s + p.length ≤ k
  | [], s, k, h => by cases h; exact Nat.le_refl _
  | a :: p, s, k, h => by
    unfold adv at h
    cases e : nxt l a s with
    | none => rw [e] at h; cases h
    | some j =>
      rw [e] at h
      have := nxt_lt e
      have := adv_len l p (j + 1) k h
      simp only [List.length_cons]
      omega
/-- the way ahead of a place -/
def wv (l : List Nat) (i : Nat) : Int := wstep l (waysTo l i) i (l.getD i 0)
theorem waysTo_map (l : List Nat) : ∀ n, waysTo l n = (List.range n).map (wv l)
  | 0 => rfl
  | n + 1 => by
    rw [waysTo, waysTo_map l n, List.range_succ, List.map_append]
    show (List.range n).map (wv l) ++ [wstep l ((List.range n).map (wv l)) n (l.getD n 0)] = (List.range n).map (wv l) ++ [wv l n]
    unfold wv
    rw [waysTo_map l n]
    rfl
theorem waysL_map (l : List Nat) : waysL l = (List.range l.length).map (wv l) := waysTo_map l l.length
theorem wv_eq (l : List Nat) (i : Nat) : wv l i = match prv l (l.getD i 0) i with
    | none => 1
    | some k => 1 + minI (((List.range i).map (wv l)).drop k) := by
  show wstep l (waysTo l i) i (l.getD i 0) = _
  rw [waysTo_map]
  rfl
theorem drop_range_mem {i k j : Nat} : j ∈ (List.range i).drop k ↔ k ≤ j ∧ j < i := by
  rw [List.range_eq_range', List.drop_range', List.mem_range']
  constructor
  · rintro ⟨n, h1, h2⟩; omega
  · rintro ⟨h1, h2⟩; exact ⟨j - k, by omega, by omega⟩
theorem snoc_cases {α : Type} (q : List α) : q = [] ∨ ∃ p c, q = p ++ [c] := by
  rcases List.eq_nil_or_concat q with h | ⟨p, c, h⟩
  · exact .inl h
  · exact .inr ⟨p, c, by rw [h, List.concat_eq_append]⟩
theorem getD_some {l : List Nat} {i : Nat} (h : i < l.length) : l[i]? = some (l.getD i 0) := by
  rw [List.getD_eq_getElem?_getD, List.getElem?_eq_getElem h]; rfl
/-- the least of the pieces whose first places end there -/
theorem wv_spec (l : List Nat) : ∀ i, i < l.length → (∃ q : List Nat, (q.length : Int) = wv l i ∧ adv l q 0 = some (i + 1)) ∧ ∀ q, adv l q 0 = some (i + 1) → wv l i ≤ q.length := by
  intro i
  induction i using Nat.strongRecOn with
  | ind i ih =>
    intro hi
    have hg := getD_some hi
    rw [wv_eq]
    cases e : prv l (l.getD i 0) i with
    | none =>
      have pn := prv_none e
      constructor
      · refine ⟨[l.getD i 0], rfl, ?_⟩
        show ((nxt l (l.getD i 0) 0).bind fun k => some (k + 1)) = _
        rw [nxt_is (Nat.zero_le _) hg fun j _ hj => pn j hj]; rfl
      · intro q hq
        rcases snoc_cases q with rfl | ⟨p, c, rfl⟩
        · cases hq
        · show (1 : Int) ≤ _
          simp only [List.length_append, List.length_cons, List.length_nil]; omega
    | some k =>
      obtain ⟨p1, p2, p3⟩ := prv_some e
      have ne : (((List.range i).map (wv l)).drop k) ≠ [] := by
        intro z
        have := congrArg List.length z
        simp at this
        omega
      constructor
      · have hm := minI_mem ne
        rw [← List.map_drop] at hm
        obtain ⟨j, hj, ej⟩ := List.mem_map.mp hm
        obtain ⟨j1, j2⟩ := drop_range_mem.mp hj
        obtain ⟨⟨q, hq1, hq2⟩, _⟩ := ih j j2 (by omega)
        refine ⟨q ++ [l.getD i 0], ?_, ?_⟩
        · show ((q ++ [l.getD i 0]).length : Int) = 1 + minI (((List.range i).map (wv l)).drop k)
          rw [← List.map_drop, ← ej, ← hq1]
          simp only [List.length_append, List.length_cons, List.length_nil]; omega
        · rw [adv_snoc, hq2]
          show (nxt l (l.getD i 0) (j + 1)).map (· + 1) = _
          rw [nxt_is (by omega) hg fun m a b => p3 m (by omega) b]; rfl
      · intro q hq
        rcases snoc_cases q with rfl | ⟨p, c, rfl⟩
        · cases hq
        · rw [adv_snoc] at hq
          cases es : adv l p 0 with
          | none => rw [es] at hq; cases hq
          | some s =>
            rw [es] at hq
            change (nxt l c s).map (· + 1) = some (i + 1) at hq
            obtain ⟨i', ei, ei2⟩ := Option.map_eq_some_iff.mp hq
            have : i' = i := by omega
            subst this
            obtain ⟨n1, n2, n3⟩ := (nxt_iff' hi).mp ei
            have hs : k < s := Nat.lt_of_not_le fun z => n3 k z p1 (by rw [p2, n2])
            have := (ih (s - 1) (by omega) (by omega)).2 p (by rw [es]; congr 1; omega)
            have hmem : wv l (s - 1) ∈ ((List.range i').map (wv l)).drop k := by
              rw [← List.map_drop]
              exact List.mem_map.mpr ⟨s - 1, drop_range_mem.mpr ⟨by omega, by omega⟩, rfl⟩
            have hle := minI_le hmem
            show 1 + minI _ ≤ _
            simp only [List.length_append, List.length_cons, List.length_nil]
            omega
where
  nxt_iff' {l : List Nat} {c s p : Nat} (hp : p < l.length) : nxt l c s = some p ↔ s ≤ p ∧ l.getD p 0 = c ∧ ∀ j, s ≤ j → j < p → l[j]? ≠ some c := by
    have hg := getD_some hp
    constructor
    · intro e
      obtain ⟨h1, h2, h3⟩ := nxt_some e
      exact ⟨h1, by rw [hg] at h2; exact Option.some.inj h2, h3⟩
    · rintro ⟨h1, h2, h3⟩
      exact nxt_is h1 (by rw [hg, h2]) h3
def wN (l : List Nat) (i : Nat) : Nat := (wv l i).toNat
theorem wN_ex {l : List Nat} {i : Nat} (h : i < l.length) : ∃ q : List Nat, q.length = wN l i ∧ adv l q 0 = some (i + 1) := by
  obtain ⟨⟨q, h1, h2⟩, _⟩ := wv_spec l i h
  exact ⟨q, by unfold wN; omega, h2⟩
theorem wN_le {l : List Nat} {i : Nat} (h : i < l.length) {q : List Nat} (hq : adv l q 0 = some (i + 1)) : wN l i ≤ q.length := by
  have := (wv_spec l i h).2 q hq
  unfold wN
  omega
theorem wN_wv {l : List Nat} {i : Nat} (h : i < l.length) : (wN l i : Int) = wv l i := by
  obtain ⟨⟨q, h1, h2⟩, _⟩ := wv_spec l i h
  unfold wN
  omega
theorem wN_pos {l : List Nat} {i : Nat} (h : i < l.length) : 1 ≤ wN l i := by
  obtain ⟨q, h1, h2⟩ := wN_ex h
  cases q with
  | nil => cases h2
  | cons a q => rw [← h1]; simp
theorem wN_max {l : List Nat} {i : Nat} (h : i < l.length) : wN l i ≤ i + 1 := by
  obtain ⟨q, h1, h2⟩ := wN_ex h
  have := adv_len l q 0 (i + 1) h2
  omega
theorem waysL_nats (l : List Nat) : (waysL l).map PyData.int = ((List.range l.length).map (wN l)).map fun n => .int (n : Nat) := by
  rw [waysL_map, List.map_map, List.map_map]
  refine List.map_congr_left fun i hi => ?_
  show PyData.int (wv l i) = .int (wN l i : Nat)
  rw [wN_wv (List.mem_range.mp hi)]
/-- a start that is reached with j letters and no fewer -/
def atJ (l : List Nat) (j s : Nat) : Prop := (j = 0 ∧ s = 0) ∨ ∃ p, s = p + 1 ∧ p < l.length ∧ wN l p = j
theorem atJ_ex {l : List Nat} {j s : Nat} (h : atJ l j s) : ∃ q : List Nat, q.length = j ∧ adv l q 0 = some s := by
  rcases h with ⟨rfl, rfl⟩ | ⟨p, rfl, hp, hw⟩
  · exact ⟨[], rfl, rfl⟩
  · obtain ⟨q, h1, h2⟩ := wN_ex hp
    exact ⟨q, by omega, h2⟩
theorem atJ_le {l : List Nat} {j s : Nat} (h : atJ l j s) : s ≤ l.length := by
  rcases h with ⟨rfl, rfl⟩ | ⟨p, rfl, hp, hw⟩
  · exact Nat.zero_le _
  · exact hp
theorem ways_up {l : List Nat} {j s c p : Nat} (h : atJ l j s) (hn : nxt l c s = some p) : wN l p ≤ j + 1 := by
  obtain ⟨q, h1, h2⟩ := atJ_ex h
  have := wN_le (l := l) (i := p) (nxt_lt hn).2 (q := q ++ [c]) (by rw [adv_snoc, h2]; show (nxt l c s).map (· + 1) = _; rw [hn]; rfl)
  simp only [List.length_append, List.length_cons, List.length_nil] at this
  omega
theorem ways_from {l : List Nat} {j p : Nat} (hp : p < l.length) (hw : wN l p = j + 1) : ∃ s c, atJ l j s ∧ nxt l c s = some p := by
  obtain ⟨q, h1, h2⟩ := wN_ex hp
  rcases snoc_cases q with rfl | ⟨q', c, rfl⟩
  · cases h2
  · rw [adv_snoc] at h2
    cases es : adv l q' 0 with
    | none => rw [es] at h2; cases h2
    | some s =>
      rw [es] at h2
      change (nxt l c s).map (· + 1) = some (p + 1) at h2
      obtain ⟨p', e1, e2⟩ := Option.map_eq_some_iff.mp h2
      have : p' = p := by omega
      subst this
      have hl : q'.length = j := by simp at h1; omega
      refine ⟨s, c, ?_, e1⟩
      cases s with
      | zero =>
        refine .inl ⟨?_, rfl⟩
        have := adv_len l q' 0 0 es
        omega
      | succ s =>
        have hs : s < l.length := by have := nxt_lt e1; omega
        refine .inr ⟨s, rfl, hs, ?_⟩
        have h3 := wN_le hs es
        refine Nat.le_antisymm (by omega) (Nat.le_of_not_lt fun z => ?_)
        obtain ⟨q2, g1, g2⟩ := wN_ex hs
        have := wN_le (l := l) (i := p') hp (q := q2 ++ [c]) (by rw [adv_snoc, g2]; show (nxt l c (s + 1)).map (· + 1) = _; rw [e1]; rfl)
        simp only [List.length_append, List.length_cons, List.length_nil] at this
        omega
abbrev dKP (K : List (Nat × Nat)) : List (D × D) := K.map fun p => (.int (p.1 : Nat), .int (p.2 : Nat))
theorem getKP_some {K : List (Nat × Nat)} {p : Nat} {f : Nat → Nat} (hf : ∀ q ∈ K, q.2 = f q.1) (h : p ∈ K.map (·.1)) : getK (dKP K) (.inl (p : Int)) = some (.int (f p : Nat)) := by
  induction K with
  | nil => simp at h
  | cons q K ih =>
    unfold getK at ih ⊢
    rw [show dKP (q :: K) = (PyData.int (q.1 : Nat), .int (q.2 : Nat)) :: dKP K from rfl, List.find?_cons]
    by_cases e : q.1 = p
    · have : (keyD (PyData.int (q.1 : Nat)) = some (.inl (p : Int))) := by rw [e]; rfl
      simp only [decide_eq_true this, Option.map_some]
      rw [hf q (List.mem_cons_self ..), e]
    · have : ¬ (keyD (PyData.int (q.1 : Nat)) = some (.inl (p : Int))) := by
        show ¬ ((some (Sum.inl (q.1 : Int)) : Option Key) = some (.inl (p : Int)))
        intro z
        have z : ((q.1 : Nat) : Int) = p := by injection z with z; injection z
        exact e (by omega)
      simp only [decide_eq_false this]
      refine ih (fun r hr => hf r (List.mem_cons_of_mem _ hr)) ?_
      rcases List.mem_cons.mp h with h | h
      · exact absurd h.symm e
      · exact h
theorem getKP_none {K : List (Nat × Nat)} {p : Nat} (h : p ∉ K.map (·.1)) : getK (dKP K) (.inl (p : Int)) = none := by
  unfold getK
  rw [Option.map_eq_none_iff, List.find?_eq_none]
  intro q hq
  obtain ⟨r, hr, rfl⟩ := List.mem_map.mp hq
  simp only [decide_eq_true_eq]
  intro z
  have z : ((r.1 : Nat) : Int) = p := by
    have : (some (Sum.inl (r.1 : Int)) : Option Key) = some (.inl (p : Int)) := z
    injection this with z; injection z
  exact h (List.mem_map.mpr ⟨r, hr, by omega⟩)
theorem putKP {K : List (Nat × Nat)} {p t : Nat} (h : p ∉ K.map (·.1)) : putD (dKP K) (.inl (p : Int)) (.int (t : Nat)) = dKP (K ++ [(p, t)]) := by
  have e : ((dKP K).any fun q => decide (keyD q.1 = some (.inl (p : Int)))) = false := by
    rw [List.any_eq_false]
    intro q hq
    obtain ⟨r, hr, rfl⟩ := List.mem_map.mp hq
    simp only [decide_eq_true_eq]
    intro z
    have z : ((r.1 : Nat) : Int) = p := by
      have : (some (Sum.inl (r.1 : Int)) : Option Key) = some (.inl (p : Int)) := z
      injection this with z; injection z
    exact h (List.mem_map.mpr ⟨r, hr, by omega⟩)
  unfold putD
  rw [e, if_neg (by decide)]
  show dKP K ++ _ = (K ++ [(p, t)]).map _
  rw [List.map_append]
  rfl
end QM
namespace QM
open PySem PySem.Spec L2 QL QP
instance {r : S} {P : S → Prop} : Step (wAll [] [] r P) (P r) := ⟨id⟩
instance {i : Nat} {is : List Nat} {x : SV} {xs : List SV} {sl sl' : List (Option SV)} {tp : Option (Int × Int)} {P : S → Prop} [h : SetL sl i (some x) sl'] : Step (wAll (i :: is) (x :: xs) ⟨sl, tp⟩ P) (wAll is xs ⟨sl', tp⟩ P) := ⟨fun q => ⟨h.lt, by
  show wAll is xs ⟨sl.set i (some x), tp⟩ P
  rw [h.eq]; exact q⟩⟩
def wLk (r : S) (i : Nat) (k : D) (Q : Option D → Prop) : Prop := ∃ o, lkS r i k = some o ∧ Q o
section
variable {P : SV → S → Prop} {X : XPo} {r : S} {p : Po} {fk fx : S → Res D} {i : Nat} {sl : List (Option SV)} {tp : Option (Int × Int)} {kvs : List (D × D)} {Q : Option D → Prop} {a b : Int} {z : Str} {o : Option D}
theorem wLk_k {k : D} {c : Key} [h : Get sl i (some (.od kvs))] (hk : keyD k = some c) (q : Q (getK kvs c)) : wLk ⟨sl, tp⟩ i k Q := ⟨_, by
  unfold lkS
  dsimp only
  rw [h.eq]
  dsimp only
  rw [hk]
  rfl, q⟩
theorem wLk_t {k : D} {c : List Key} [h : Get sl i (some (.ot kvs))] (hk : keyT k = some c) (q : Q (getT kvs c)) : wLk ⟨sl, tp⟩ i k Q := ⟨_, by
  unfold lkS
  dsimp only
  rw [h.eq]
  dsimp only
  rw [hk]
  rfl, q⟩
instance [h : Get sl i (some (.od kvs))] : Step (wLk ⟨sl, tp⟩ i (.int a) Q) (Q (getK kvs (.inl a))) := ⟨wLk_k rfl⟩
instance [h : Get sl i (some (.od kvs))] : Step (wLk ⟨sl, tp⟩ i (.str z) Q) (Q (getK kvs (.inr z))) := ⟨wLk_k rfl⟩
instance [h : Get sl i (some (.ot kvs))] : Step (wLk ⟨sl, tp⟩ i (.tuple [.int a, .int b]) Q) (Q (getT kvs [.inl a, .inl b])) := ⟨wLk_t rfl⟩
instance {f : Bool → Bool} : Step (wE (fInS f i fk r) P X) (wE (fk r) (fun k r => wLk r i k fun o => P (.fz (.bool (f o.isSome))) r) X) := ⟨fun h => wE_bind (wE_mono h fun k r h => by
  obtain ⟨o, e, h⟩ := h
  rw [e]; exact h)⟩
def wSm' (o : Option D) (Q : D → Prop) : Prop := ∃ d, o = some d ∧ Q d
instance {d : D} {Q : D → Prop} : Step (wSm' (some d) Q) (Q d) := ⟨fun q => ⟨d, rfl, q⟩⟩
theorem isDS_k [h : Get sl i (some (.od kvs))] : isDS ⟨sl, tp⟩ i = true := by unfold isDS; dsimp only; rw [h.eq]
theorem isDS_t [h : Get sl i (some (.ot kvs))] : isDS ⟨sl, tp⟩ i = true := by unfold isDS; dsimp only; rw [h.eq]
theorem isDS_f [h : Get sl i (some (.fz (.dict kvs)))] [n : NoOb kvs] : isDS ⟨sl, tp⟩ i = true := by unfold isDS; dsimp only; rw [h.eq]; dsimp only; rw [n.h]; rfl
theorem w_getS (hd : isDS r i = true) (h : wE (fk r) (fun k r => wLk r i k fun o => wSm' o fun d => P (.fz d) r) X) : wE (fGetS i fk r) P X := by
  unfold fGetS
  rw [if_pos hd]
  refine wE_bind (wE_mono h fun k r h => ?_)
  obtain ⟨o, e, d, e2, h⟩ := h
  subst e2
  rw [e]; exact h
instance [h : Get sl i (some (.od kvs))] : Step (wE (fGetS i fk ⟨sl, tp⟩) P X) (wE (fk ⟨sl, tp⟩) (fun k r => wLk r i k fun o => wSm' o fun d => P (.fz d) r) X) := ⟨w_getS isDS_k⟩
instance [h : Get sl i (some (.ot kvs))] : Step (wE (fGetS i fk ⟨sl, tp⟩) P X) (wE (fk ⟨sl, tp⟩) (fun k r => wLk r i k fun o => wSm' o fun d => P (.fz d) r) X) := ⟨w_getS isDS_t⟩
theorem w_get1S (hd : isDS r i = true) (h : wE (fk r) (fun k r => wLk r i k fun o => P (.fz (o.getD .none)) r) X) : wE (fGet1S i fk r) P X := by
  unfold fGet1S
  rw [if_pos hd]
  refine wE_bind (wE_mono h fun k r h => ?_)
  obtain ⟨o, e, h⟩ := h
  rw [e]; exact h
instance [h : Get sl i (some (.od kvs))] : Step (wE (fGet1S i fk ⟨sl, tp⟩) P X) (wE (fk ⟨sl, tp⟩) (fun k r => wLk r i k fun o => P (.fz (o.getD .none)) r) X) := ⟨w_get1S isDS_k⟩
instance [h : Get sl i (some (.ot kvs))] : Step (wE (fGet1S i fk ⟨sl, tp⟩) P X) (wE (fk ⟨sl, tp⟩) (fun k r => wLk r i k fun o => P (.fz (o.getD .none)) r) X) := ⟨w_get1S isDS_t⟩
theorem w_get2S (hd : isDS r i = true) (h : wE (fk r) (fun k r => wE (fx r) (fun x r => wLk r i k fun o => P (.fz (o.getD x)) r) X) X) : wE (fGet2S i fk fx r) P X := by
  unfold fGet2S
  rw [if_pos hd]
  refine wE_bind (wE_mono h fun k r h => wE_bind (wE_mono h fun x r h => ?_))
  obtain ⟨o, e, h⟩ := h
  rw [e]; exact h
instance [h : Get sl i (some (.od kvs))] : Step (wE (fGet2S i fk fx ⟨sl, tp⟩) P X) (wE (fk ⟨sl, tp⟩) (fun k r => wE (fx r) (fun x r => wLk r i k fun o => P (.fz (o.getD x)) r) X) X) := ⟨w_get2S isDS_k⟩
instance [h : Get sl i (some (.ot kvs))] : Step (wE (fGet2S i fk fx ⟨sl, tp⟩) P X) (wE (fk ⟨sl, tp⟩) (fun k r => wE (fx r) (fun x r => wLk r i k fun o => P (.fz (o.getD x)) r) X) X) := ⟨w_get2S isDS_t⟩
end
end QM
namespace QM
open PySem PySem.Spec L2 QL QP
local macro_rules | `(tactic| decreasing_trivial_pre_omega) => `(tactic| first
  | apply QM.Step.go
  | refine ⟨rfl, ?_⟩
  | refine ⟨⟨rfl, rfl⟩, ?_⟩
  | refine ⟨_, rfl, ?_⟩
  | refine ⟨_, _, rfl, ?_⟩
  | refine ⟨_, _, _, rfl, ?_⟩
  | refine ⟨Nat.le_of_ble_eq_true rfl, ?_⟩
  | refine wAt_r rfl ?_
  | refine wB_t rfl ?_
  | refine wB_f rfl ?_)
theorem canLay_ltrs {m : List Nat} (h : ∀ c ∈ m, c < 0x110000) : PyData.canLayAll0 (ltrs m) = true := by
  induction m with
  | nil => rfl
  | cons c m ih =>
    show ((PyData.str (tx [c])).canLay0 && PyData.canLayAll0 (ltrs m)) = true
    rw [ih fun d hd => h d (List.mem_cons_of_mem _ hd), Bool.and_true]
    have := h c (List.mem_cons_self ..)
    simp [PyData.canLay0, PyData.strOk, tx, this]
theorem depth_ltrs (m : List Nat) : PyData.depthAll (ltrs m) = 0 := by
  induction m with
  | nil => rfl
  | cons c m ih =>
    show max 0 (PyData.depthAll (ltrs m)) = 0
    rw [ih]; rfl
theorem index_ltrs {m : List Nat} {c k : Nat} (hm : ∀ c ∈ m, c < 0x110000) (hc : m[k]? = some c) (hk : ∀ j, j < k → m[j]? ≠ some c) : dIndex (.list (ltrs m)) [.str (tx [c])] = some (.fz (.int (k : Nat))) := by
  have hl := (List.getElem?_eq_some_iff.mp hc).1
  have s1 : SeqAt.shaped (.list (ltrs m)) = true := by
    unfold SeqAt.shaped
    simp only [PyData.canLay0, PyData.depth, canLay_ltrs hm, depth_ltrs]
    rfl
  have s2 : SeqAt.shaped (.str (tx [c])) = true := by
    have hcm := hm c (List.mem_of_getElem? hc)
    have := canLay_ltrs (m := [c]) (by intro d hd; simp at hd; omega)
    unfold SeqAt.shaped
    have e : (PyData.str (tx [c])).canLay0 = true := by
      have h2 : ((PyData.str (tx [c])).canLay0 && PyData.canLayAll0 []) = true := this
      simp only [Bool.and_eq_true] at h2
      exact h2.1
    rw [e]
    rfl
  have o1 : okD (.list (ltrs m)) = true := (okN_list (n := 0) fun d hd => by obtain ⟨b, _, rfl⟩ := mem_lets hd; exact okN_str).ok
  unfold dIndex
  dsimp only
  rw [if_pos ⟨o1, ok_str, s1, s2⟩]
  have hm' : ((ltrs m).findIdx? fun z => PyData.eqv z (.str (tx [c]))) = some k := by
    rw [List.findIdx?_eq_some_iff_getElem]
    have hl' : k < (ltrs m).length := by rw [ltrs_len]; exact hl
    refine ⟨hl', ?_, fun j hj => ?_⟩
    · have : (ltrs m)[k] = .str (tx [c]) := by
        have := List.getElem?_eq_getElem hl'
        unfold ltrs at this
        rw [List.getElem?_map, hc] at this
        exact (Option.some.inj this).symm
      rw [this, eqv_str]; simp
    · have hj' : j < m.length := by omega
      have : (ltrs m)[j]'(by omega) = .str (tx [m[j]]) := by simp [ltrs]
      rw [this, eqv_str, tx_dec]
      have := hk j hj
      rw [List.getElem?_eq_getElem hj'] at this
      simp at this ⊢
      exact this
  rw [hm']; rfl
/-- the table of the law, in turn j + 1: what was known, what is new -/
structure Tbl (l : List Nat) (j : Nat) (K : List (Nat × Nat)) (N : List Nat) (Dn : Nat → Nat → Prop) : Prop where
  kk : ∀ p t, (p, t) ∈ K ↔ p < l.length ∧ wN l p = t ∧ t ≤ j
  kn : (K.map (·.1)).Nodup
  nd : N.Nodup
  nn : ∀ p ∈ N, p < l.length ∧ wN l p = j + 1
  dn : ∀ s c p, Dn s c → nxt l c s = some p → wN l p ≤ j ∨ p ∈ N
abbrev kOf (j : Nat) (K : List (Nat × Nat)) (N : List Nat) : List (Nat × Nat) := K ++ N.map fun p => (p, j + 1)
theorem Tbl.keys {l : List Nat} {j : Nat} {K : List (Nat × Nat)} {N : List Nat} {Dn : Nat → Nat → Prop} (h : Tbl l j K N Dn) {p : Nat} : p ∈ (kOf j K N).map (·.1) ↔ (p < l.length ∧ wN l p ≤ j) ∨ p ∈ N := by
  rw [List.map_append, List.mem_append, List.map_map]
  constructor
  · rintro (h1 | h1)
    · obtain ⟨⟨q, t⟩, hq, rfl⟩ := List.mem_map.mp h1
      obtain ⟨a, b, c⟩ := (h.kk q t).mp hq
      exact .inl ⟨a, by show wN l q ≤ j; omega⟩
    · obtain ⟨q, hq, rfl⟩ := List.mem_map.mp h1
      exact .inr hq
  · rintro (⟨h1, h2⟩ | h1)
    · exact .inl (List.mem_map.mpr ⟨(p, wN l p), (h.kk p _).mpr ⟨h1, rfl, h2⟩, rfl⟩)
    · exact .inr (List.mem_map.mpr ⟨p, h1, rfl⟩)
theorem Tbl.val {l : List Nat} {j : Nat} {K : List (Nat × Nat)} {N : List Nat} {Dn : Nat → Nat → Prop} (h : Tbl l j K N Dn) : ∀ q ∈ kOf j K N, q.2 = wN l q.1 := by
  intro q hq
  rcases List.mem_append.mp hq with hq | hq
  · obtain ⟨a, b⟩ := q
    exact ((h.kk a b).mp hq).2.1.symm
  · obtain ⟨p, hp, rfl⟩ := List.mem_map.mp hq
    exact (h.nn p hp).2.symm
theorem Tbl.len {l : List Nat} {j : Nat} {K : List (Nat × Nat)} {N : List Nat} {Dn : Nat → Nat → Prop} (h : Tbl l j K N Dn) : N.length ≤ l.length := by
  have := sub_lenA (S := N) (ls := List.range l.length) h.nd fun p hp => List.mem_range.mpr (h.nn p hp).1
  rwa [List.length_range] at this
theorem Tbl.klen {l : List Nat} {j : Nat} {K : List (Nat × Nat)} {N : List Nat} {Dn : Nat → Nat → Prop} (h : Tbl l j K N Dn) : K.length ≤ l.length := by
  have := sub_lenA (S := K.map (·.1)) (ls := List.range l.length) h.kn fun p hp => by
    obtain ⟨⟨q, t⟩, hq, rfl⟩ := List.mem_map.mp hp
    exact List.mem_range.mpr ((h.kk q t).mp hq).1
  rwa [List.length_range, List.length_map] at this
theorem Tbl.mono {l : List Nat} {j : Nat} {K : List (Nat × Nat)} {N : List Nat} {D1 D2 : Nat → Nat → Prop} (h : Tbl l j K N D1) (hd : ∀ s c p, D2 s c → nxt l c s = some p → D1 s c ∨ wN l p ≤ j ∨ p ∈ N) : Tbl l j K N D2 :=
  ⟨h.kk, h.kn, h.nd, h.nn, fun s c p h2 hp => by
    rcases hd s c p h2 hp with h3 | h3
    · exact h.dn s c p h3 hp
    · exact h3⟩
/-- the slots of the law's ways -/
abbrev Sw (l : List Nat) (kvs : List (Nat × Nat)) (x2 : SV) (x3 : Option SV) (later : List Nat) (x5 x6 x7 : Option SV) : S := ⟨[some (.fz (.str (tx l))), some (.od (dKP kvs)), some x2, x3, some (.ol (nats later)), x5, x6, x7], none⟩
section
variable {l : List Nat} {j : Nat} {K : List (Nat × Nat)} {x2 : SV} {x5 x6 x7 : Option SV}
theorem lw1 (hl : l.length ≤ 1000) (ht : ∀ c ∈ l, c < 0x110000) {N : List Nat} {Dn : Nat → Nat → Prop} (h : Tbl l j K N Dn) {s c : Nat} (hs : atJ l j s) (hc : c ∈ l.drop s) :
    wS (_law_ways_b1 (Sw l (kOf j K N) x2 (some (.fz (.int ((j + 1 : Nat) : Int)))) (N.map (· + 1)) (some (.fz (.int (s : Nat)))) (some (.fz (.str (tx [c])))) x7))
      (Pn fun r => ∃ N' x7', Fzo x7' ∧ Tbl l j K N' (fun s' c' => Dn s' c' ∨ (s' = s ∧ c' = c)) ∧ r = Sw l (kOf j K N') x2 (some (.fz (.int ((j + 1 : Nat) : Int)))) (N'.map (· + 1)) (some (.fz (.int (s : Nat)))) (some (.fz (.str (tx [c])))) x7') := by
  obtain ⟨p, ep⟩ := nxt_mem.mp hc
  obtain ⟨p1, p2, p3⟩ := nxt_some ep
  have hp := (List.getElem?_eq_some_iff.mp p2).1
  have hup := ways_up hs ep
  have hlen := h.len
  unfold _law_ways_b1
  repeat' decreasing_trivial_pre_omega
  refine ⟨szb' (by omega), ?_⟩
  rw [cut_fr]
  repeat' decreasing_trivial_pre_omega
  refine ⟨szb' (by rw [List.length_drop]; omega), ?_⟩
  repeat' decreasing_trivial_pre_omega
  refine wO_of (z' := .fz (.int ((p - s : Nat) : Int))) (index_ltrs (fun d hd => ht d (List.mem_of_mem_drop hd)) (by rw [List.getElem?_drop, show s + (p - s) = p by omega, p2]) fun i hi => by rw [List.getElem?_drop]; exact p3 (s + i) (by omega) (by omega)) ?_
  show wV (.fz (.int ((p - s : Nat) : Int))) _
  repeat' decreasing_trivial_pre_omega
  rw [show ((s : Nat) : Int) + ((p - s : Nat) : Int) = ((p : Nat) : Int) by omega]
  repeat' decreasing_trivial_pre_omega
  by_cases hk : p ∈ (kOf j K N).map (·.1)
  · rw [getKP_some (f := wN l) h.val hk]
    repeat' decreasing_trivial_pre_omega
    refine ⟨N, some (.fz (.int (p : Nat))), .inr ⟨_, rfl⟩, h.mono fun s' c' p' hd hn => ?_, rfl⟩
    rcases hd with hd | ⟨rfl, rfl⟩
    · exact .inl hd
    · rw [ep] at hn; cases hn
      rcases h.keys.mp hk with ⟨_, h1⟩ | h1
      · exact .inr (.inl h1)
      · exact .inr (.inr h1)
  · have hk' := fun z => hk (h.keys.mpr z)
    rw [getKP_none hk]
    repeat' decreasing_trivial_pre_omega
    have hkl : (kOf j K N).length < sizeLine := by
      have hK := h.klen
      have e : (kOf j K N).length = K.length + N.length := by simp [kOf]
      rw [e, sizeLine_eq]
      omega
    refine ⟨by rw [List.length_map]; exact hkl, ?_⟩
    repeat' decreasing_trivial_pre_omega
    rw [putKP hk]
    refine ⟨szl' (by rw [show (nats (N.map (· + 1))).length = N.length by simp [nats]]; omega), ?_⟩
    repeat' decreasing_trivial_pre_omega
    have hw : wN l p = j + 1 := by
      have : ¬ (p < l.length ∧ wN l p ≤ j) := fun z => hk' (.inl z)
      omega
    have hpN : p ∉ N := fun z => hk' (.inr z)
    refine ⟨N ++ [p], some (.fz (.int (p : Nat))), .inr ⟨_, rfl⟩, ⟨h.kk, h.kn, nodup_snoc h.nd hpN, fun q hq => ?_, fun s' c' p' hd hn => ?_⟩, ?_⟩
    · rcases List.mem_append.mp hq with hq | hq
      · exact h.nn q hq
      · rw [List.mem_singleton.mp hq]; exact ⟨hp, hw⟩
    · rcases hd with hd | ⟨rfl, rfl⟩
      · rcases h.dn s' c' p' hd hn with h1 | h1
        · exact .inl h1
        · exact .inr (List.mem_append_left _ h1)
      · rw [ep] at hn; cases hn
        exact .inr (by simp)
    · unfold Sw kOf nats
      rw [List.map_append, List.map_append, List.append_assoc, List.map_append]
      rfl
/-- the letters that follow, each once -/
theorem lets_of (m : List Nat) : ∃ q : List Nat, sortS ((ddL [] m).map fun c => tx [c]) = (q.map fun c => tx [c]) ∧ (∀ c, c ∈ q ↔ c ∈ m) ∧ q.length ≤ m.length := by
  obtain ⟨q, e, p, _⟩ := sort_ones (ddL [] m)
  refine ⟨q, e, fun c => by rw [p.mem_iff, ddL_mem]; simp, ?_⟩
  have := ddL_len m []
  rw [p.length_eq]
  simpa using this
theorem unlike_ltrs {m : List Nat} (hl : m.length ≤ 1000000) : Ret (F__law_unlike [.list (ltrs m)]) (.ol (ltrs (ddL [] m))) :=
  unlike_R (f := fun c => PyData.str (tx [c])) (fun a b => by rw [eqv_str, tx_dec]; simp) (fun a => okN_str) hl
theorem lw2 (h7 : Fzo x7) (hl : l.length ≤ 1000) (ht : ∀ c ∈ l, c < 0x110000) {N : List Nat} {Dn : Nat → Nat → Prop} (h : Tbl l j K N Dn) {s : Nat} (hs : atJ l j s) :
    wS (_law_ways_b2 (Sw l (kOf j K N) x2 (some (.fz (.int ((j + 1 : Nat) : Int)))) (N.map (· + 1)) (some (.fz (.int (s : Nat)))) x6 x7))
      (Pn fun r => ∃ N' x6 x7, Fzo x7 ∧ Tbl l j K N' (fun s' c' => Dn s' c' ∨ s' = s) ∧ r = Sw l (kOf j K N') x2 (some (.fz (.int ((j + 1 : Nat) : Int)))) (N'.map (· + 1)) (some (.fz (.int (s : Nat)))) x6 x7) := by
  have hsl := atJ_le hs
  obtain ⟨q, eq, hq, hql⟩ := lets_of (l.drop s)
  unfold _law_ways_b2
  repeat' decreasing_trivial_pre_omega
  refine ⟨szb' (by omega), ?_⟩
  rw [cut_fr]
  repeat' decreasing_trivial_pre_omega
  refine ⟨szb' (by rw [List.length_drop]; omega), ?_⟩
  repeat' decreasing_trivial_pre_omega
  refine wF_ret (unlike_ltrs (by rw [List.length_drop]; omega)) ?_
  repeat' decreasing_trivial_pre_omega
  refine ⟨_, strs_ltrs _, ?_⟩
  rw [eq, ltrs_strs]
  repeat' decreasing_trivial_pre_omega
  refine wFor_inv (fun i r => ∃ N' x6 x7, Fzo x7 ∧ Tbl l j K N' (fun s' c' => Dn s' c' ∨ (s' = s ∧ c' ∈ q.take i)) ∧ r = Sw l (kOf j K N') x2 (some (.fz (.int ((j + 1 : Nat) : Int)))) (N'.map (· + 1)) (some (.fz (.int (s : Nat)))) x6 x7) ⟨N, x6, x7, h7, h.mono fun s' c' p hd hn => by
    rcases hd with hd | ⟨_, hd⟩
    · exact .inl hd
    · simp at hd, rfl⟩ ?_ ?_
  · rintro i d r hd ⟨N', y6, y7, g7, h', rfl⟩
    obtain ⟨c, hc, rfl⟩ := ltrs_get hd
    have et : q.take (i + 1) = q.take i ++ [c] := by rw [List.take_add_one, hc]; rfl
    repeat' decreasing_trivial_pre_omega
    refine cutP (lw1 hl ht h' hs ((hq c).mp (List.mem_of_getElem? hc))) fun s1 hx => ?_
    obtain ⟨N2, x7', g7', h2, rfl⟩ := hx
    refine ⟨N2, _, x7', g7', h2.mono fun s' c' p hd hn => ?_, rfl⟩
    rcases hd with hd | ⟨e1, hd⟩
    · exact .inl (.inl (.inl hd))
    · rw [et] at hd
      rcases List.mem_append.mp hd with hd | hd
      · exact .inl (.inl (.inr ⟨e1, hd⟩))
      · exact .inl (.inr ⟨e1, List.mem_singleton.mp hd⟩)
  · rintro r ⟨N', y6, y7, g7, h', rfl⟩
    refine ⟨N', y6, y7, g7, h'.mono fun s' c' p hd hn => ?_, rfl⟩
    rcases hd with hd | rfl
    · exact .inl (.inl hd)
    · refine .inl (.inr ⟨rfl, ?_⟩)
      rw [ltrs_len, List.take_length, hq]
      exact nxt_mem.mpr ⟨p, hn⟩
/-- behind j turns -/
structure Wj (l : List Nat) (j : Nat) (K : List (Nat × Nat)) (here : List Nat) : Prop where
  kk : ∀ p t, (p, t) ∈ K ↔ p < l.length ∧ wN l p = t ∧ t ≤ j
  kn : (K.map (·.1)).Nodup
  hh : ∀ s, s ∈ here ↔ atJ l j s
theorem lw3 (h7 : Fzo x7) (hl : l.length ≤ 1000) (ht : ∀ c ∈ l, c < 0x110000) {here : List Nat} (h : Wj l j K here) {x4 : Option SV} (h2 : x2 = .ol (nats here) ∨ x2 = .fz (.list (nats here))) :
    wS (_law_ways_b3 ⟨[some (.fz (.str (tx l))), some (.od (dKP K)), some x2, some (.fz (.int ((j + 1 : Nat) : Int))), x4, x5, x6, x7], none⟩)
      (Pn fun r => ∃ K' here' x4 x5 x6 x7, Fzo x7 ∧ Wj l (j + 1) K' here' ∧ r = ⟨[some (.fz (.str (tx l))), some (.od (dKP K')), some (.fz (.list (nats here'))), some (.fz (.int ((j + 1 : Nat) : Int))), x4, x5, x6, x7], none⟩) := by
  have main : wS (forF (gNm 5) (_law_ways_b2) (nats here) (Sw l K (.fz (.list (nats here))) (some (.fz (.int ((j + 1 : Nat) : Int)))) [] x5 x6 x7))
      (Pn fun r => ∃ N x5 x6 x7, Fzo x7 ∧ Tbl l j K N (fun s' c' => atJ l j s') ∧ r = Sw l (kOf j K N) (.fz (.list (nats here))) (some (.fz (.int ((j + 1 : Nat) : Int)))) (N.map (· + 1)) x5 x6 x7) := by
    refine wFor_inv (fun i r => ∃ N x5 x6 x7, Fzo x7 ∧ Tbl l j K N (fun s' c' => s' ∈ here.take i) ∧ r = Sw l (kOf j K N) (.fz (.list (nats here))) (some (.fz (.int ((j + 1 : Nat) : Int)))) (N.map (· + 1)) x5 x6 x7) ⟨[], x5, x6, x7, h7, ⟨h.kk, h.kn, List.nodup_nil, by simp, by simp⟩, by simp [kOf, Sw]⟩ ?_ ?_
    · rintro i d r hd ⟨N, y5, y6, y7, g7, h', rfl⟩
      have hd : ∃ s, here[i]? = some s ∧ d = .int (s : Nat) := by
        unfold nats at hd
        rw [List.getElem?_map] at hd
        obtain ⟨s, h1, h2⟩ := Option.map_eq_some_iff.mp hd
        exact ⟨s, h1, h2.symm⟩
      obtain ⟨s, hs, rfl⟩ := hd
      have et : here.take (i + 1) = here.take i ++ [s] := by rw [List.take_add_one, hs]; rfl
      repeat' decreasing_trivial_pre_omega
      refine cutP (lw2 g7 hl ht h' ((h.hh s).mp (List.mem_of_getElem? hs))) fun s1 hx => ?_
      obtain ⟨N', z6, z7, g7', h3, rfl⟩ := hx
      refine ⟨N', _, z6, z7, g7', h3.mono fun s' c' p hd hn => ?_, rfl⟩
      rw [et] at hd
      rcases List.mem_append.mp hd with hd | hd
      · exact .inl (.inl hd)
      · exact .inl (.inr (List.mem_singleton.mp hd))
    · rintro r ⟨N, y5, y6, y7, g7, h', rfl⟩
      refine ⟨N, y5, y6, y7, g7, h'.mono fun s' c' p hd hn => ?_, rfl⟩
      refine .inl ?_
      rw [show (nats here).length = here.length by simp [nats], List.take_length]
      exact (h.hh s').mpr hd
  unfold _law_ways_b3
  refine seqP (q := fun r => r = ⟨[some (.fz (.str (tx l))), some (.od (dKP K)), some x2, some (.fz (.int ((j + 1 : Nat) : Int))), some (.ol []), x5, x6, x7], none⟩) ?_ fun s1 hx => ?_
  · repeat' decreasing_trivial_pre_omega
    rfl
  subst hx
  refine seqP (q := fun r => ∃ N x5 x6 x7, Fzo x7 ∧ Tbl l j K N (fun s' c' => atJ l j s') ∧ r = Sw l (kOf j K N) (.fz (.list (nats here))) (some (.fz (.int ((j + 1 : Nat) : Int)))) (N.map (· + 1)) x5 x6 x7) ?_ fun s1 hx => ?_
  · rcases h2 with rfl | rfl
    · repeat' decreasing_trivial_pre_omega
      exact main
    · repeat' decreasing_trivial_pre_omega
      exact main
  obtain ⟨N, y5, y6, y7, g7, h', rfl⟩ := hx
  have hall : ∀ p, p < l.length → wN l p = j + 1 → p ∈ N := fun p hp hw => by
    obtain ⟨s, c, hs, hn⟩ := ways_from hp hw
    rcases h'.dn s c p hs hn with h1 | h1
    · omega
    · exact h1
  repeat' decreasing_trivial_pre_omega
  refine ⟨kOf j K N, N.map (· + 1), _, y5, y6, y7, g7, ⟨fun p t => ?_, ?_, fun s => ?_⟩, rfl⟩
  · rw [List.mem_append, h.kk, List.mem_map]
    constructor
    · rintro (⟨a, b, c⟩ | ⟨q, hq, e⟩)
      · exact ⟨a, b, by omega⟩
      · cases e
        exact ⟨(h'.nn _ hq).1, (h'.nn _ hq).2, Nat.le_refl _⟩
    · rintro ⟨a, b, c⟩
      by_cases z : t ≤ j
      · exact .inl ⟨a, b, z⟩
      · have : t = j + 1 := by omega
        subst this
        exact .inr ⟨p, hall p a b, rfl⟩
  · rw [List.map_append, List.map_map]
    refine List.nodup_append.mpr ⟨h.kn, ?_, fun a ha b hb => ?_⟩
    · have : N.map ((fun x : Nat × Nat => x.1) ∘ fun p => (p, j + 1)) = N := by
        rw [show ((fun x : Nat × Nat => x.1) ∘ fun p => (p, j + 1)) = id from rfl, List.map_id]
      rw [this]; exact h'.nd
    · obtain ⟨⟨q, t⟩, hq, rfl⟩ := List.mem_map.mp ha
      obtain ⟨p, hp, rfl⟩ := List.mem_map.mp hb
      intro e
      have e : q = p := e
      subst e
      have h1 := (h.kk _ t).mp hq
      have h2 := h'.nn _ hp
      omega
  · rw [List.mem_map]
    constructor
    · rintro ⟨p, hp, rfl⟩
      exact .inr ⟨p, rfl, (h'.nn p hp).1, (h'.nn p hp).2⟩
    · rintro (⟨h1, _⟩ | ⟨p, rfl, hp, hw⟩)
      · omega
      · exact ⟨p, hall p hp hw, rfl⟩
end
theorem law_ways_R {l : List Nat} (hl : l.length ≤ 1000) (ht : ∀ c ∈ l, c < 0x110000) : Ret (F__law_ways [.str (tx l)]) (.ol ((waysL l).map .int)) := by
  refine Ret.go ?_
  unfold B__law_ways
  repeat' decreasing_trivial_pre_omega
  refine ⟨szb' (by omega), ?_⟩
  repeat' decreasing_trivial_pre_omega
  refine ⟨⟨by omega, by omega⟩, ?_⟩
  rw [show ((l.length : Nat) : Int) + 1 - 1 = ((l.length : Nat) : Int) by omega, Int.toNat_natCast]
  refine wFor_inv (fun j r => ∃ K here x2 x3 x4 x5 x6, (x2 = .ol (nats here) ∨ x2 = .fz (.list (nats here))) ∧ Wj l j K here ∧ ∃ x7, Fzo x7 ∧ r = ⟨[some (.fz (.str (tx l))), some (.od (dKP K)), some x2, x3, x4, x5, x6, x7], none⟩) ⟨[], [0], _, none, none, none, none, .inl rfl, ⟨fun p t => ?_, List.nodup_nil, fun s => ?_⟩, none, .inl rfl, rfl⟩ ?_ ?_
  · constructor
    · intro h; simp at h
    · rintro ⟨h1, h2, h3⟩
      have := wN_pos h1
      omega
  · rw [List.mem_singleton]
    constructor
    · rintro rfl; exact .inl ⟨rfl, rfl⟩
    · rintro (⟨_, h⟩ | ⟨p, rfl, hp, hw⟩)
      · exact h
      · have := wN_pos hp
        omega
  · rintro j d r hd ⟨K, here, x2, x3, x4, x5, x6, h2, h, x7, h7, rfl⟩
    have hd : d = .int ((j + 1 : Nat) : Int) := by
      unfold rngL at hd
      rw [List.getElem?_map] at hd
      obtain ⟨a, ha, e⟩ := Option.map_eq_some_iff.mp hd
      obtain ⟨g1, g2⟩ := List.getElem?_eq_some_iff.mp ha
      rw [List.getElem_range] at g2
      subst g2
      rw [← e]; congr 1; omega
    subst hd
    repeat' decreasing_trivial_pre_omega
    refine cutP (lw3 h7 hl ht h h2) fun s1 hx => ?_
    obtain ⟨K', here', y4, y5, y6, y7, g7, h', rfl⟩ := hx
    exact ⟨K', here', _, _, y4, y5, y6, .inr rfl, h', y7, g7, rfl⟩
  · rintro r ⟨K, here, x2, x3, x4, x5, x6, h2, h, x7, h7, rfl⟩
    rw [show (rngL 1 l.length).length = l.length by simp [rngL]] at h
    have fin : (rngL 0 ((l.length : Nat) : Int).toNat).filterMap (fun d => match d with | PyData.int p => some (PyData.int (wN l p.toNat : Nat)) | _ => none) = (waysL l).map PyData.int := by
      rw [waysL_nats, Int.toNat_natCast]
      unfold rngL
      rw [List.filterMap_map, List.map_map]
      generalize List.range l.length = q
      induction q with
      | nil => rfl
      | cons a q ih => rw [List.filterMap_cons, List.map_cons, ih]; simp
    rcases h7 with rfl | ⟨d7, rfl⟩ <;>
    · repeat' decreasing_trivial_pre_omega
      refine ⟨szb' (by omega), ?_⟩
      repeat' decreasing_trivial_pre_omega
      refine ⟨by omega, ?_⟩
      repeat' decreasing_trivial_pre_omega
      refine lc_map (fun d => match d with | .int p => some (.int (wN l p.toNat : Nat)) | _ => none) (szb' (by simp [rngL]; omega)) (fun d hd => ?_) ?_
      · obtain ⟨p, hp⟩ := List.getElem?_of_mem hd
        obtain ⟨rfl, hp⟩ := rngL_get hp
        have hp : p < l.length := by omega
        unfold _law_ways_e4
        repeat' decreasing_trivial_pre_omega
        rw [getKP_some (f := wN l) (fun q hq => ((h.kk q.1 q.2).mp hq).2.1.symm) (List.mem_map.mpr ⟨(p, wN l p), (h.kk p _).mpr ⟨hp, rfl, by have := wN_max hp; omega⟩, rfl⟩)]
        repeat' decreasing_trivial_pre_omega
        first | exact ⟨rfl, rfl⟩ | exact rfl
      · rw [fin]
        repeat' decreasing_trivial_pre_omega
        rfl
end QM
namespace QM
open PySem PySem.Spec L2 QL QP
local macro_rules | `(tactic| decreasing_trivial_pre_omega) => `(tactic| first
  | apply QM.Step.go
  | refine ⟨rfl, ?_⟩
  | refine ⟨⟨rfl, rfl⟩, ?_⟩
  | refine ⟨_, rfl, ?_⟩
  | refine ⟨_, _, rfl, ?_⟩
  | refine ⟨_, _, _, rfl, ?_⟩
  | refine ⟨Nat.le_of_ble_eq_true rfl, ?_⟩
  | refine wAt_r rfl ?_
  | refine wB_t rfl ?_
  | refine wB_f rfl ?_)
instance {FL : S → Res (List D)} {r : S} {P : SV → S → Prop} {X : XPo} : Step (wE (fListZip FL r) P X) (wE (FL r) (fun ds r => ∃ xs ys, ds = [.list xs, .list ys] ∧ P (.ol (zipL xs ys)) r) X) := ⟨fun h => wE_bind (wE_mono h fun ds r h => by
  obtain ⟨xs, ys, e, h⟩ := h
  subst e
  exact h)⟩
instance {a b : Int} {r : S} {P : SV → S → Prop} : Step (wO (dSumA [.tuple [.int a, .int b]]) r P) (P (.fz (.int (a + b))) r) := ⟨fun q => wO_of (z' := .fz (.int (a + b))) d_sumA2 q⟩
theorem law_both_ways_R {l : List Nat} (hl : l.length ≤ 1000) (ht : ∀ c ∈ l, c < 0x110000) : Ret (F__law_both_ways [.str (tx l)]) (.ol ((bwL l).map pr2)) := by
  have hr : l.reverse.length ≤ 1000 := by rw [List.length_reverse]; exact hl
  refine Ret.go ?_
  unfold B__law_both_ways
  repeat' decreasing_trivial_pre_omega
  refine wF_ret (law_ways_R hl ht) ?_
  repeat' decreasing_trivial_pre_omega
  refine ⟨szb' (by omega), ?_⟩
  repeat' decreasing_trivial_pre_omega
  refine wF_ret (law_ways_R hr (fun c hc => ht c (List.mem_reverse.mp hc))) ?_
  repeat' decreasing_trivial_pre_omega
  rw [← List.map_reverse, zipL_ints, bwL, waysF_eq, waysF_eq]
theorem law_spares_R {l : List Nat} {k : Int} (hl : l.length ≤ 1000) (ht : ∀ c ∈ l, c < 0x110000) : Ret (F__law_spares [.str (tx l), .int k]) (.ol (nats (spI k (bwL l) 0))) := by
  refine Ret.go ?_
  unfold B__law_spares
  repeat' decreasing_trivial_pre_omega
  refine wF_ret (law_both_ways_R hl ht) ?_
  repeat' decreasing_trivial_pre_omega
  refine ⟨_, _, rfl, .inl rfl, ?_⟩
  refine lc_map (fun d => if spP k d then some (spG d) else none) (szb' (by rw [enumL_len, List.length_map, bwL_len]; omega)) (fun d hd => ?_) ?_
  · obtain ⟨i, hi⟩ := List.getElem?_of_mem hd
    obtain ⟨d', hd', rfl⟩ := enumL_get hi
    rw [List.getElem?_map] at hd'
    obtain ⟨⟨a, b⟩, _, rfl⟩ := Option.map_eq_some_iff.mp hd'
    show wG (gTupF 2 (gConsF (gNm 2) (gConsF (gNm 3) gNilF)) (.tuple [.int (i : Nat), .tuple [.int a, .int b]]) _) _
    unfold _law_spares_t1 _law_spares_e2
    repeat' decreasing_trivial_pre_omega
    refine wB_d (fun h => ?_) (fun h => ?_)
    · repeat' decreasing_trivial_pre_omega
      show (if decide (k + 1 < a + b) = true then some (PyData.int (i : Nat)) else none) = _ ∧ _
      rw [if_pos (decide_eq_true h)]
      exact ⟨rfl, rfl⟩
    · repeat' decreasing_trivial_pre_omega
      show (if decide (k + 1 < a + b) = true then some (PyData.int (i : Nat)) else none) = _ ∧ _
      rw [decide_eq_false h]
      exact ⟨rfl, rfl⟩
  · have e : (enumL ((bwL l).map pr2)).filterMap (fun d => if spP k d = true then some (spG d) else none) = nats (spI k (bwL l) 0) := by
      rw [← sp_list k (bwL l) 0]
      unfold enumL
      rw [List.length_map, List.range_eq_range']
      generalize List.zipWith _ _ _ = q
      induction q with
      | nil => rfl
      | cons a q ih =>
        rw [List.filterMap_cons, List.filter_cons]
        by_cases h : spP k a = true
        · rw [if_pos h, if_pos h, List.map_cons, ih]
        · rw [if_neg h, if_neg h, ih]
    rw [e]
    repeat' decreasing_trivial_pre_omega
    rfl
abbrev GoodK (d : D) : Prop := Ret (F_is_count [d]) (.fz (.bool true))
theorem goodK_int {k : Int} (h : 0 ≤ k) : GoodK (.int k) := by
  have := Ret.of_eq (is_count_eq k)
  rwa [decide_eq_true h] at this
instance : OfS "reach" [114, 101, 97, 99, 104] := ⟨by decide +kernel⟩
theorem adv_take {l : List Nat} : ∀ (n : Nat) (q : List Nat) (s : Nat), q.length = n → adv l q 0 = some s → q.Sublist (l.take s)
  | 0, q, s, hn, h => by
    have : q = [] := List.length_eq_zero_iff.mp hn
    subst this
    exact List.nil_sublist _
  | n + 1, q, s, hn, h => by
    rcases snoc_cases q with rfl | ⟨p, c, rfl⟩
    · simp at hn
    · rw [adv_snoc] at h
      cases es : adv l p 0 with
      | none => rw [es] at h; cases h
      | some u =>
        rw [es] at h
        change (nxt l c u).map (· + 1) = some s at h
        obtain ⟨k, e1, e2⟩ := Option.map_eq_some_iff.mp h
        subst e2
        have ih := adv_take n p u (by simpa using hn) es
        obtain ⟨h1, h2, h3⟩ := nxt_some e1
        rw [List.take_add_one, h2]
        refine sub_snoc.mpr (.inr ⟨p, rfl, ih.trans ?_⟩)
        exact List.take_sublist_take_left h1
theorem adv_of_take {l : List Nat} {p : Nat} : ∀ (q : List Nat) (s k : Nat), adv (l.take p) q s = some k → adv l q s = some k
  | [], s, k, h => h
  | c :: q, s, k, h => by
    unfold adv at h ⊢
    cases e : nxt (l.take p) c s with
    | none => rw [e] at h; cases h
    | some j =>
      rw [e] at h
      obtain ⟨h1, h2, h3⟩ := nxt_some e
      have hj := (List.getElem?_eq_some_iff.mp h2).1
      rw [List.length_take] at hj
      have e2 : nxt l c s = some j := by
        refine nxt_is h1 ?_ fun m a b => ?_
        · rwa [List.getElem?_take_of_lt (by omega)] at h2
        · have := h3 m a b
          rwa [List.getElem?_take_of_lt (by omega)] at this
      rw [e2]
      exact adv_of_take q (j + 1) k h
theorem adv_in_take {l q : List Nat} {p : Nat} (h : q.Sublist (l.take p)) : ∃ s, s ≤ p ∧ adv l q 0 = some s := by
  obtain ⟨s, e⟩ := Option.isSome_iff_exists.mp ((adv_sub (l.take p) q).mpr h)
  have := (adv_le (l.take p) q 0 s (Nat.zero_le _) e).2
  rw [List.length_take] at this
  exact ⟨s, by omega, adv_of_take q 0 s e⟩
/-- too short to end here first -/
theorem before {l q : List Nat} {p : Nat} (hp : p < l.length) (hq : q.Sublist (l.take p)) (hw : q.length + 1 < wN l p) : (q ++ [l.getD p 0]).Sublist (l.take p) := by
  obtain ⟨s, hs, es⟩ := adv_in_take hq
  have hc : l.getD p 0 ∈ l.drop s := List.mem_iff_getElem?.mpr ⟨p - s, by rw [List.getElem?_drop, show s + (p - s) = p by omega]; exact getD_some hp⟩
  obtain ⟨k, ek⟩ := nxt_mem.mp hc
  obtain ⟨h1, h2, h3⟩ := nxt_some ek
  have ea : adv l (q ++ [l.getD p 0]) 0 = some (k + 1) := by
    rw [adv_snoc, es]
    show (nxt l (l.getD p 0) s).map (· + 1) = _
    rw [ek]; rfl
  have hk : k ≤ p := Nat.le_of_not_lt fun z => h3 p hs z (getD_some hp)
  have hk2 : k ≠ p := fun z => by
    subst z
    have := wN_le hp ea
    simp only [List.length_append, List.length_cons, List.length_nil] at this
    omega
  exact (adv_take _ _ _ rfl ea).trans (List.take_sublist_take_left (by omega))
theorem rev_getD {l : List Nat} {p : Nat} (hp : p < l.length) : l.reverse.getD (l.length - 1 - p) 0 = l.getD p 0 := by
  rw [List.getD_eq_getElem?_getD, List.getElem?_reverse (by omega), show l.length - 1 - (l.length - 1 - p) = p by omega, ← List.getD_eq_getElem?_getD]
theorem behind_ {l q : List Nat} {p : Nat} (hp : p < l.length) (hq : q.Sublist (l.drop (p + 1))) (hw : q.length + 1 < wN l.reverse (l.length - 1 - p)) : (l.getD p 0 :: q).Sublist (l.drop (p + 1)) := by
  have e : l.reverse.take (l.length - 1 - p) = (l.drop (p + 1)).reverse := by
    rw [List.take_reverse, show l.length - (l.length - 1 - p) = p + 1 by omega]
  have h := before (l := l.reverse) (q := q.reverse) (p := l.length - 1 - p) (by rw [List.length_reverse]; omega) (by rw [e]; exact List.reverse_sublist.mpr hq) (by rw [List.length_reverse]; exact hw)
  rw [rev_getD hp, e, show q.reverse ++ [l.getD p 0] = (l.getD p 0 :: q).reverse by simp] at h
  exact List.reverse_sublist.mp h
theorem out_alike {l : List Nat} {p k : Nat} (hp : p < l.length) (hw : k + 1 < wN l p + wN l.reverse (l.length - 1 - p)) : spL k l = spL k (l.take p ++ l.drop (p + 1)) := by
  refine asc_ext (spL_asc _ _) (spL_asc _ _) fun q => ?_
  rw [spL_mem, spL_mem]
  have el : l = l.take p ++ (l.getD p 0 :: l.drop (p + 1)) := by
    rw [← remL_drop' (getD_some hp), List.take_append_drop]
  constructor
  · rintro ⟨hk, hq⟩
    refine ⟨hk, ?_⟩
    rw [el, List.sublist_append_iff] at hq
    obtain ⟨q1, q2, rfl, h1, h2⟩ := hq
    cases h2 with
    | cons _ h2 => exact h1.append h2
    | cons_cons _ h2 =>
      rename_i q3
      simp only [List.length_append, List.length_cons] at hk
      by_cases z : q1.length + 1 < wN l p
      · have := (before hp h1 z).append h2
        rwa [List.append_assoc] at this
      · by_cases z2 : q3.length + 1 < wN l.reverse (l.length - 1 - p)
        · exact h1.append (behind_ hp h2 z2)
        · omega
  · rintro ⟨hk, hq⟩
    refine ⟨hk, hq.trans ?_⟩
    conv => rhs; rw [el]
    exact (List.Sublist.refl _).append (List.sublist_cons_self _ _)
theorem spI_mem {k : Int} : ∀ {bw : List (Int × Int)} {s p : Nat}, p ∈ spI k bw s → s ≤ p ∧ ∃ a b, bw[p - s]? = some (a, b) ∧ k + 1 < a + b
  | [], s, p, h => by simp [spI] at h
  | (a, b) :: r, s, p, h => by
    unfold spI at h
    have go : p ∈ spI k r (s + 1) → s ≤ p ∧ ∃ a' b', ((a, b) :: r)[p - s]? = some (a', b') ∧ k + 1 < a' + b' := fun h => by
      obtain ⟨h1, a', b', h2, h3⟩ := spI_mem h
      refine ⟨by omega, a', b', ?_, h3⟩
      rw [show p - s = (p - (s + 1)) + 1 by omega, List.getElem?_cons_succ]
      exact h2
    split at h
    · rename_i hc
      rcases List.mem_cons.mp h with rfl | h
      · exact ⟨Nat.le_refl _, a, b, by simp, hc⟩
      · exact go h
    · exact go h
theorem bwL_get {l : List Nat} {p : Nat} {a b : Int} (h : (bwL l)[p]? = some (a, b)) : p < l.length ∧ a = (wN l p : Nat) ∧ b = (wN l.reverse (l.length - 1 - p) : Nat) := by
  have hp : p < l.length := by
    have := (List.getElem?_eq_some_iff.mp h).1
    rwa [bwL_len] at this
  unfold bwL at h
  rw [waysF_eq, waysF_eq, List.getElem?_zip_eq_some] at h
  obtain ⟨h1, h2⟩ := h
  rw [waysL_map, List.getElem?_map, List.getElem?_range hp] at h1
  have hr : (waysL l.reverse).length = l.length := by rw [waysL_len, List.length_reverse]
  rw [List.getElem?_reverse (by omega), hr, waysL_map, List.getElem?_map, List.getElem?_range (by rw [List.length_reverse]; omega)] at h2
  refine ⟨hp, ?_, ?_⟩
  · rw [wN_wv hp]; exact (Option.some.inj h1).symm
  · rw [wN_wv (by rw [List.length_reverse]; omega)]; exact (Option.some.inj h2).symm
theorem spare_alike {l : List Nat} {k p : Nat} (h : p ∈ spI (k : Int) (bwL l) 0) : p < l.length ∧ spL k l = spL k (l.take p ++ l.drop (p + 1)) := by
  obtain ⟨_, a, b, h1, h2⟩ := spI_mem h
  rw [Nat.sub_zero] at h1
  obtain ⟨hp, ea, eb⟩ := bwL_get h1
  exact ⟨hp, out_alike hp (by omega)⟩
end QM
namespace QM
open PySem PySem.Spec L2 QL QP
local macro_rules | `(tactic| decreasing_trivial_pre_omega) => `(tactic| first
  | apply QM.Step.go
  | refine ⟨rfl, ?_⟩
  | refine ⟨⟨rfl, rfl⟩, ?_⟩
  | refine ⟨_, rfl, ?_⟩
  | refine ⟨_, _, rfl, ?_⟩
  | refine ⟨_, _, _, rfl, ?_⟩
  | refine ⟨Nat.le_of_ble_eq_true rfl, ?_⟩
  | refine wAt_r rfl ?_
  | refine wB_t rfl ?_
  | refine wB_f rfl ?_)
/-- a text is short; what is no text is anything -/
def shortS (n : Nat) : D → Bool
  | .str s => decide (s.cps.toList.length ≤ n)
  | _ => true
end QM
namespace QM
open PySem PySem.Spec L2 QL QP
local macro_rules | `(tactic| decreasing_trivial_pre_omega) => `(tactic| first
  | apply QM.Step.go
  | refine ⟨rfl, ?_⟩
  | refine ⟨⟨rfl, rfl⟩, ?_⟩
  | refine ⟨_, rfl, ?_⟩
  | refine ⟨_, _, rfl, ?_⟩
  | refine ⟨_, _, _, rfl, ?_⟩
  | refine ⟨Nat.le_of_ble_eq_true rfl, ?_⟩
  | refine wAt_r rfl ?_
  | refine wB_t rfl ?_
  | refine wB_f rfl ?_)
structure LdInv (l : List Nat) (p a : Nat) (f : List Nat) : Prop where
  lt : a < l.length
  go : ∀ q, adv l q 0 = some (a + 1) → adv l (q ++ f) 0 = some (p + 1)
  ln : wN l a + f.length = wN l p
  ml : ∀ c ∈ f, c ∈ l
theorem adv_app (l : List Nat) : ∀ (p q : List Nat) (s : Nat), adv l (p ++ q) s = (adv l p s).bind fun k => adv l q k
  | [], q, s => rfl
  | a :: p, q, s => by
    show ((nxt l a s).bind fun k => adv l (p ++ q) (k + 1)) = ((nxt l a s).bind fun k => adv l p (k + 1)).bind _
    cases nxt l a s with
    | none => rfl
    | some k => exact adv_app l p q (k + 1)
theorem LdInv.last {l : List Nat} {p a : Nat} {f : List Nat} (h : LdInv l p a f) (h1 : wN l a = 1) : (l.getD a 0 :: f).length = wN l p ∧ adv l (l.getD a 0 :: f) 0 = some (p + 1) := by
  obtain ⟨q, q1, q2⟩ := wN_ex h.lt
  rw [h1] at q1
  obtain ⟨c, rfl⟩ := List.length_eq_one_iff.mp q1
  have hn : nxt l c 0 = some a := by
    change ((nxt l c 0).bind fun k => some (k + 1)) = some (a + 1) at q2
    cases e : nxt l c 0 with
    | none => rw [e] at q2; cases q2
    | some k => rw [e] at q2; simp at q2; rw [q2]
  have hc : l.getD a 0 = c := by
    have := (nxt_some hn).2.1
    rw [getD_some h.lt] at this
    exact Option.some.inj this
  rw [hc]
  refine ⟨by have := h.ln; simp only [List.length_cons]; omega, h.go [c] q2⟩
theorem LdInv.next {l : List Nat} {p a : Nat} {f : List Nat} (h : LdInv l p a f) (h1 : wN l a ≠ 1) : ∃ k, prv l (l.getD a 0) a = some k ∧ k < a ∧ (∃ j, k ≤ j ∧ j < a ∧ wN l j + 1 = wN l a) ∧ ∀ j, k ≤ j → j < a → wN l j + 1 = wN l a → LdInv l p j (l.getD a 0 :: f) := by
  have hw := wN_wv h.lt
  rw [wv_eq] at hw
  cases e : prv l (l.getD a 0) a with
  | none => rw [e] at hw; exact absurd (by change ((wN l a : Nat) : Int) = 1 at hw; omega) h1
  | some k =>
    obtain ⟨p1, p2, p3⟩ := prv_some e
    rw [e] at hw
    change ((wN l a : Nat) : Int) = 1 + minI (((List.range a).map (wv l)).drop k) at hw
    have ne : (((List.range a).map (wv l)).drop k) ≠ [] := by
      intro z
      have := congrArg List.length z
      simp at this
      omega
    refine ⟨k, rfl, p1, ?_, fun j j1 j2 hj => ?_⟩
    · have hm := minI_mem ne
      rw [← List.map_drop] at hm hw
      obtain ⟨j, hj, ej⟩ := List.mem_map.mp hm
      obtain ⟨j1, j2⟩ := drop_range_mem.mp hj
      have := wN_wv (l := l) (i := j) (by have := h.lt; omega)
      exact ⟨j, j1, j2, by omega⟩
    · have hjl : j < l.length := by have := h.lt; omega
      refine ⟨hjl, fun q hq => ?_, by have := h.ln; simp only [List.length_cons]; omega, fun c hc => ?_⟩
      · rw [show q ++ l.getD a 0 :: f = (q ++ [l.getD a 0]) ++ f by simp]
        refine h.go _ ?_
        rw [adv_snoc, hq]
        show (nxt l (l.getD a 0) (j + 1)).map (· + 1) = _
        rw [nxt_is (by omega) (getD_some h.lt) fun m x y => p3 m (by omega) y]; rfl
      · rcases List.mem_cons.mp hc with rfl | hc
        · exact List.mem_of_getElem? (getD_some h.lt)
        · exact h.ml c hc
def okV : D → Bool
  | .tuple [a, b] => shortS 1000 a && shortS 1000 b
  | _ => true
end QM
namespace QM
open PySem PySem.Spec L2 QL QP
local macro_rules | `(tactic| decreasing_trivial_pre_omega) => `(tactic| first
  | apply QM.Step.go
  | refine ⟨rfl, ?_⟩
  | refine ⟨⟨rfl, rfl⟩, ?_⟩
  | refine ⟨_, rfl, ?_⟩
  | refine ⟨_, _, rfl, ?_⟩
  | refine ⟨_, _, _, rfl, ?_⟩
  | refine ⟨Nat.le_of_ble_eq_true rfl, ?_⟩
  | refine ⟨szb' (by omega), ?_⟩
  | refine ⟨szb' (by simp only [List.length_append, List.length_take, List.length_drop, List.length_reverse, List.length_cons, List.length_nil]; omega), ?_⟩
  | refine wAt_r rfl ?_
  | refine wB_t rfl ?_
  | refine wB_f rfl ?_)
theorem cut_len {α : Type} (xs : List α) (lo hi : Option Int) : (cutL xs lo hi).length ≤ xs.length := by
  unfold cutL
  rw [List.length_take, List.length_drop]
  omega
/-- short, plain signs -/
def Sh (n : Nat) (m : List Nat) : Prop := m.length ≤ n ∧ ∀ c ∈ m, c < 200
theorem Sh.app {a b : Nat} {x y : List Nat} (h : Sh a x) (g : Sh b y) : Sh (a + b) (x ++ y) := ⟨by have := h.1; have := g.1; rw [List.length_append]; omega, fun c hc => by
  rcases List.mem_append.mp hc with hc | hc
  · exact h.2 c hc
  · exact g.2 c hc⟩
theorem Sh.take {a : Nat} {x : List Nat} (h : Sh a x) (n : Nat) : Sh a (x.take n) := ⟨by have := h.1; rw [List.length_take]; omega, fun c hc => h.2 c (List.mem_of_mem_take hc)⟩
theorem Sh.drop {a : Nat} {x : List Nat} (h : Sh a x) (n : Nat) : Sh a (x.drop n) := ⟨by have := h.1; rw [List.length_drop]; omega, fun c hc => h.2 c (List.mem_of_mem_drop hc)⟩
theorem Sh.rev {a : Nat} {x : List Nat} (h : Sh a x) : Sh a x.reverse := ⟨by have := h.1; rw [List.length_reverse]; omega, fun c hc => h.2 c (List.mem_reverse.mp hc)⟩
theorem Sh.cut {a : Nat} {x : List Nat} (h : Sh a x) (lo hi : Option Int) : Sh a (cutL x lo hi) := ⟨Nat.le_trans (cut_len x lo hi) h.1, fun c hc => h.2 c (by
  unfold cutL at hc
  exact List.mem_of_mem_drop (List.mem_of_mem_take hc))⟩
theorem Sh.up {a b : Nat} {x : List Nat} (h : Sh a x) (hb : a ≤ b) : Sh b x := ⟨Nat.le_trans h.1 hb, h.2⟩
theorem Sh.tn {a : Nat} {x : List Nat} (h : Sh a x) (ha : a ≤ 200) : tiny (.str (tx x)) = true := tiny_tx (by have := h.1; omega) fun c hc => by have := h.2 c hc; exact Nat.lt_trans this (by decide)
theorem Sh.ss {a : Nat} {x : List Nat} (h : Sh a x) (ha : a ≤ 200) : shortS 1000 (.str (tx x)) = true := decide_eq_true (by have := h.1; show (tx x).cps.toList.length ≤ 1000; simp [tx]; omega)
/-- rows of small things -/
theorem tinyAll : ∀ {ds : List D}, (∀ d ∈ ds, tiny d = true) → PyData.showableAll ds = true ∧ PyData.depthAll ds ≤ 40 ∧ PyData.leavesShortAll 40 ds = true ∧ PyData.weightAll ds ≤ ds.length * 1001
  | [], _ => ⟨rfl, Nat.zero_le _, rfl, by simp [PyData.weightAll]⟩
  | d :: ds, h => by
    obtain ⟨a1, a2, a3, a4⟩ := tinyAll fun e he => h e (List.mem_cons_of_mem _ he)
    obtain ⟨b, b2, b3⟩ := tiny_of (h d (List.mem_cons_self ..))
    unfold sml at b
    simp only [Bool.and_eq_true, decide_eq_true_eq] at b
    obtain ⟨⟨⟨c1, c2⟩, c3⟩, c4⟩ := b
    refine ⟨?_, ?_, ?_, ?_⟩
    · simp [PyData.showableAll, c1, a1]
    · simp only [PyData.depthAll]; omega
    · simp [PyData.leavesShortAll, c3, a3]
    · simp only [PyData.weightAll, List.length_cons]; omega
theorem sml_tup {ds : List D} (h : ∀ d ∈ ds, tiny d = true) (hl : ds.length ≤ 9) : sml (.tuple ds) = true := by
  obtain ⟨a1, a2, a3, a4⟩ := tinyAll h
  unfold sml
  simp only [Bool.and_eq_true, decide_eq_true_eq]
  refine ⟨⟨⟨by simpa [PyData.showable] using a1, by simp only [PyData.depth]; omega⟩, by simpa [PyData.leavesShort] using a3⟩, ?_⟩
  simp only [PyData.weight]; omega
theorem sml_lst {ds : List D} (h : ∀ d ∈ ds, tiny d = true) (hl : ds.length ≤ 9) : sml (.list ds) = true := by
  obtain ⟨a1, a2, a3, a4⟩ := tinyAll h
  unfold sml
  simp only [Bool.and_eq_true, decide_eq_true_eq]
  refine ⟨⟨⟨by simpa [PyData.showable] using a1, by simp only [PyData.depth]; omega⟩, by simpa [PyData.leavesShort] using a3⟩, ?_⟩
  simp only [PyData.weight]; omega
theorem ltrs_small : ∀ {m : List Nat}, (∀ c ∈ m, c < 200) → PyData.showableAll (ltrs m) = true ∧ PyData.leavesShortAll 40 (ltrs m) = true ∧ PyData.weightAll (ltrs m) = m.length * 2
  | [], _ => ⟨rfl, rfl, rfl⟩
  | c :: m, h => by
    obtain ⟨a1, a2, a3⟩ := ltrs_small fun d hd => h d (List.mem_cons_of_mem _ hd)
    have hc := h c (List.mem_cons_self ..)
    refine ⟨?_, ?_, ?_⟩
    · show (true && PyData.showableAll (ltrs m)) = true
      rw [a1]; rfl
    · show ((PyData.str (tx [c])).leavesShort 40 && PyData.leavesShortAll 40 (ltrs m)) = true
      rw [a2, Bool.and_true]
      have : c < 16 ^ 8 := Nat.lt_trans hc (by decide)
      simp only [PyData.leavesShort, List.all_eq_true, decide_eq_true_eq]
      intro d hd
      have : d = c := by simpa [tx] using hd
      subst this
      assumption
    · show PyData.weight (.str (tx [c])) + 1 + PyData.weightAll (ltrs m) = _
      rw [a3]
      simp [PyData.weight, tx]
      omega
theorem ltrs_tl {m : List Nat} (h : Sh 100 m) : tiny (.list (ltrs m)) = true := by
  obtain ⟨a1, a2, a3⟩ := ltrs_small h.2
  have := h.1
  unfold tiny sml
  simp only [Bool.and_eq_true, decide_eq_true_eq]
  have dp : PyData.depth (.list (ltrs m)) = 1 := by simp only [PyData.depth, depth_ltrs]
  have wt : PyData.weight (.list (ltrs m)) = m.length * 2 := by simp only [PyData.weight, a3]
  refine ⟨⟨⟨⟨⟨by simpa [PyData.showable] using a1, by omega⟩, by simpa [PyData.leavesShort] using a2⟩, by omega⟩, by omega⟩, by omega⟩
theorem ltrs_tt {m : List Nat} (h : Sh 100 m) : tiny (.tuple (ltrs m)) = true := by
  obtain ⟨a1, a2, a3⟩ := ltrs_small h.2
  have := h.1
  unfold tiny sml
  simp only [Bool.and_eq_true, decide_eq_true_eq]
  have dp : PyData.depth (.tuple (ltrs m)) = 1 := by simp only [PyData.depth, depth_ltrs]
  have wt : PyData.weight (.tuple (ltrs m)) = m.length * 2 := by simp only [PyData.weight, a3]
  refine ⟨⟨⟨⟨⟨by simpa [PyData.showable] using a1, by omega⟩, by simpa [PyData.leavesShort] using a2⟩, by omega⟩, by omega⟩, by omega⟩
/-- may be shown; of a pair each text is short -/
def fine (d : D) : Bool := sml d && okV d
theorem fine_pair {a b : D} (ha : tiny a = true) (hb : tiny b = true) (ga : shortS 1000 a = true) (gb : shortS 1000 b = true) : fine (.tuple [a, b]) = true := by
  unfold fine
  rw [sml_tup (fun d hd => by
    simp only [List.mem_cons, List.not_mem_nil, or_false] at hd
    rcases hd with rfl | rfl <;> assumption) (by simp)]
  show (true && (shortS 1000 a && shortS 1000 b)) = true
  rw [ga, gb]; rfl
instance : OfS "out" [111, 117, 116] := ⟨by decide +kernel⟩
instance : OfS "swap" [115, 119, 97, 112] := ⟨by decide +kernel⟩
instance : OfS "in" [105, 110] := ⟨by decide +kernel⟩
instance : OfS "behind" [98, 101, 104, 105, 110, 100] := ⟨by decide +kernel⟩
instance : OfS "strike" [115, 116, 114, 105, 107, 101] := ⟨by decide +kernel⟩
instance : OfS "0" [48] := ⟨by decide +kernel⟩
instance : OfS "has a" [104, 97, 115, 32, 97] := ⟨by decide +kernel⟩
instance : OfS "letters a" [108, 101, 116, 116, 101, 114, 115, 32, 97] := ⟨by decide +kernel⟩
instance : OfS "z" [122] := ⟨by decide +kernel⟩
theorem any_sp {t : Int × Int} (ok : TapeOk t = true) : wFT (F__law_any t []) (fun v t' => TapeOk t' = true ∧ ∃ d, v = .fz d ∧ fine d = true) (fun _ _ _ => False) := by
  refine wFT_go ?_
  unfold B__law_any
  repeat' decreasing_trivial_pre_omega
  refine ⟨⟨by decide, by decide +kernel⟩, ?_⟩
  repeat' decreasing_trivial_pre_omega
  refine wFT_use (one_all (Pb := fine) ok (by decide +kernel) (by simp) (by simp)) (fun v t1 ⟨o1, d, e, hd⟩ => ?_)
  subst e
  repeat' decreasing_trivial_pre_omega
  exact ⟨o1, d, rfl, hd⟩
section
variable {t : Int × Int} {l v w s : List Nat} {x3 x4 x5 x6 x7 x8 x9 : Option SV} {f : Nat}
abbrev Sb (l v w : List Nat) (x3 x4 x5 x6 x7 x8 x9 : Option SV) (t : Int × Int) : S := ⟨[some .tape, some (.fz (.tuple [.str (tx v), .str (tx w)])), some (.fz (.str (tx l))), x3, x4, x5, x6, x7, x8, x9, none], some t⟩
def bent_3 : S → RS := sAsg 7 (eLst (aCons (fD (eTup (aCons (fD (fOp dAdd (fD (fOp dAdd (fD (fSl (gV 3) (oNon) (oSom (gV 5)))) (gV 6))) (fD (fSl (gV 3) (oSom (gV 5)) (oNon))))) (aCons (fV 4) (aNil))))) (aCons (fD (eTup (aCons (fV 3) (aCons (fD (fOp dAdd (gV 4) (gV 6))) (aNil))))) (aCons (fD (eTup (aCons (fV 4) (aCons (fV 3) (aNil))))) (aCons (fD (eTup (aCons (fD (fOp1 dRev (gV 3))) (aCons (fV 4) (aNil))))) (aCons (fD (eTup (aCons (fV 3) (aCons (fD (fOp dAdd (fD (fSl (gV 4) (oNon) (oSom (fD (fOp1 dNeg (fC (.int 1))))))) (gV 6))) (aNil))))) (aNil)))))))
def bent_4 : S → RS := sAsg 7 (fOp dAdd (gV 7) (fD (eLst (aCons (fD (eTup (aCons (fV 3) (aNil)))) (aCons (fD (eLst (aCons (fV 3) (aCons (fV 4) (aNil))))) (aCons (fD (eTup (aCons (fV 3) (aCons (fV 4) (aCons (fC (.str "")) (aNil)))))) (aCons (fD (eTup (aCons (fD (fSl (gV 3) (oSom (fC (.int 1))) (oNon))) (aCons (fV 4) (aNil))))) (aCons (fD (eTup (aCons (fC .none) (aCons (fV 4) (aNil))))) (aCons (fD (eTup (aCons (fV 3) (aCons (fC .none) (aNil))))) (aCons (fD (eTup (aCons (fD (fCB dListA (aCons (gV 3) (aNil)))) (aCons (fV 4) (aNil))))) (aCons (fD (eTup (aCons (fD (fCB dTupA (aCons (gV 3) (aNil)))) (aCons (fV 4) (aNil))))) (aCons (fD (eTup (aCons (fV 3) (aCons (fD (fCB dListA (aCons (gV 4) (aNil)))) (aNil))))) (aCons (fV 1) (aCons (fV 1) (aCons (fD (fCallT 0 0 F__law_any (aNil))) (aNil))))))))))))))))
theorem b3 (hv : Sh 20 v) (hw : Sh 20 w) (hs : Sh 1 s) : wS (bent_3 (Sb l v w (some (.fz (.str (tx v)))) (some (.fz (.str (tx w)))) (some (.fz (.int (f : Nat)))) (some (.fz (.str (tx s)))) x7 x8 x9 t))
    (Pn fun r => ∃ ds, (∀ d ∈ ds, fine d = true) ∧ ds.length ≤ 5 ∧ r = Sb l v w (some (.fz (.str (tx v)))) (some (.fz (.str (tx w)))) (some (.fz (.int (f : Nat)))) (some (.fz (.str (tx s)))) (some (.ol ds)) x8 x9 t) := by
  have h2 := hv.1
  have h3 := hw.1
  have h4 := hs.1
  have c1 := cut_len w none (some (-1))
  have c3 := cut_len v none (some (f : Int))
  have c4 := cut_len v (some (f : Int)) none
  unfold bent_3
  repeat' decreasing_trivial_pre_omega
  refine ⟨_, ?_, ?_, rfl⟩
  · intro d hd
    simp only [List.mem_cons, List.not_mem_nil, or_false] at hd
    rcases hd with rfl | rfl | rfl | rfl | rfl
    · exact fine_pair ((((hv.cut _ _).app hs).app (hv.cut _ _)).tn (by decide)) (hw.tn (by decide)) ((((hv.cut _ _).app hs).app (hv.cut _ _)).ss (by decide)) (hw.ss (by decide))
    · exact fine_pair (hv.tn (by decide)) ((hw.app hs).tn (by decide)) (hv.ss (by decide)) ((hw.app hs).ss (by decide))
    · exact fine_pair (hw.tn (by decide)) (hv.tn (by decide)) (hw.ss (by decide)) (hv.ss (by decide))
    · exact fine_pair (hv.rev.tn (by decide)) (hw.tn (by decide)) (hv.rev.ss (by decide)) (hw.ss (by decide))
    · exact fine_pair (hv.tn (by decide)) (((hw.cut _ _).app hs).tn (by decide)) (hv.ss (by decide)) (((hw.cut _ _).app hs).ss (by decide))
  · exact Nat.le_refl 5
theorem b4 (ok : TapeOk t = true) (hv : Sh 20 v) (hw : Sh 20 w) {ds : List D} (hds : ∀ d ∈ ds, fine d = true) (hdl : ds.length ≤ 5) : wS (bent_4 (Sb l v w (some (.fz (.str (tx v)))) (some (.fz (.str (tx w)))) x5 x6 (some (.ol ds)) x8 x9 t))
    (Pn fun r => ∃ ds t', TapeOk t' = true ∧ (∀ d ∈ ds, fine d = true) ∧ ds.length ≤ 20 ∧ r = Sb l v w (some (.fz (.str (tx v)))) (some (.fz (.str (tx w)))) x5 x6 (some (.ol ds)) x8 x9 t') := by
  have h2 := hv.1
  have h3 := hw.1
  have c2 := cut_len v (some 1) none
  unfold bent_4
  repeat' decreasing_trivial_pre_omega
  refine wFT_use (any_sp ok) (fun x t1 ⟨o1, d, e, hd⟩ => ?_)
  subst e
  repeat' decreasing_trivial_pre_omega
  refine ⟨_, t1, o1, ?_, ?_, rfl⟩
  · have tv := hv.tn (by decide)
    have tw := hw.tn (by decide)
    have sv := hv.ss (by decide)
    have sw := hw.ss (by decide)
    have te : tiny (.str (tx [])) = true := tiny_tx (by decide) (by simp)
    have tn : tiny .none = true := by decide +kernel
    intro e he
    rcases List.mem_append.mp he with he | he
    · exact hds e he
    · simp only [List.mem_cons, List.not_mem_nil, or_false] at he
      rcases he with rfl | rfl | rfl | rfl | rfl | rfl | rfl | rfl | rfl | rfl | rfl | rfl
      · unfold fine
        rw [sml_tup (fun d hd => by simp only [List.mem_cons, List.not_mem_nil, or_false] at hd; subst hd; exact tv) (by simp)]
        rfl
      · unfold fine
        rw [sml_lst (fun d hd => by
          simp only [List.mem_cons, List.not_mem_nil, or_false] at hd
          rcases hd with rfl | rfl <;> assumption) (by simp)]
        rfl
      · unfold fine
        rw [sml_tup (fun d hd => by
          simp only [List.mem_cons, List.not_mem_nil, or_false] at hd
          rcases hd with rfl | rfl | rfl <;> assumption) (by simp)]
        rfl
      · exact fine_pair ((hv.cut _ _).tn (by decide)) tw ((hv.cut _ _).ss (by decide)) sw
      · exact fine_pair tn tw rfl sw
      · exact fine_pair tv tn sv rfl
      · exact fine_pair (ltrs_tl (hv.up (by decide))) tw rfl sw
      · exact fine_pair (ltrs_tt (hv.up (by decide))) tw rfl sw
      · exact fine_pair tv (ltrs_tl (hw.up (by decide))) sv rfl
      · exact fine_pair tv tw sv sw
      · exact fine_pair tv tw sv sw
      · exact hd
  · simp only [List.length_append, List.length_cons, List.length_nil]; omega
end
end QM
namespace QM
open PySem PySem.Spec L2 QL QP
theorem evI_mem {k : Int} : ∀ {l : List Nat} {bw : List (Int × Int)} {s p : Nat}, p ∈ evI k l bw s ↔ s ≤ p ∧ ∃ c d x y, l[p - s]? = some c ∧ l[p - s + 1]? = some d ∧ bw[p - s]? = some x ∧ bw[p - s + 1]? = some y ∧ x = y ∧ x.1 + x.2 = k + 1 ∧ c ≠ d
  | [], bw, s, p => by unfold evI; simp
  | [c], bw, s, p => by unfold evI; simp
  | c :: d :: r, [], s, p => by unfold evI; simp
  | c :: d :: r, [x], s, p => by unfold evI; simp
  | c :: d :: r, x :: y :: bw, s, p => by
    have ih := evI_mem (k := k) (l := d :: r) (bw := y :: bw) (s := s + 1) (p := p)
    have nx : (s + 1 ≤ p ∧ ∃ c' d' x' y', (d :: r)[p - (s + 1)]? = some c' ∧ (d :: r)[p - (s + 1) + 1]? = some d' ∧ (y :: bw)[p - (s + 1)]? = some x' ∧ (y :: bw)[p - (s + 1) + 1]? = some y' ∧ x' = y' ∧ x'.1 + x'.2 = k + 1 ∧ c' ≠ d') ↔ (s + 1 ≤ p ∧ ∃ c' d' x' y', (c :: d :: r)[p - s]? = some c' ∧ (c :: d :: r)[p - s + 1]? = some d' ∧ (x :: y :: bw)[p - s]? = some x' ∧ (x :: y :: bw)[p - s + 1]? = some y' ∧ x' = y' ∧ x'.1 + x'.2 = k + 1 ∧ c' ≠ d') := by
      constructor
      · rintro ⟨h, c', d', x', y', h1, h2, h3, h4, h5⟩
        refine ⟨h, c', d', x', y', ?_, ?_, ?_, ?_, h5⟩ <;> rw [show p - s = p - (s + 1) + 1 by omega, List.getElem?_cons_succ] <;> assumption
      · rintro ⟨h, c', d', x', y', h1, h2, h3, h4, h5⟩
        rw [show p - s = p - (s + 1) + 1 by omega, List.getElem?_cons_succ] at h1 h2 h3 h4
        exact ⟨h, c', d', x', y', h1, h2, h3, h4, h5⟩
    rw [nx] at ih
    rw [evI_step]
    by_cases hc : x = y ∧ x.1 + x.2 = k + 1 ∧ c ≠ d
    · rw [if_pos hc, List.mem_cons, ih]
      constructor
      · rintro (rfl | ⟨h1, h2⟩)
        · exact ⟨Nat.le_refl _, c, d, x, y, by simp, by simp, by simp, by simp, hc⟩
        · exact ⟨by omega, h2⟩
      · rintro ⟨h1, h2⟩
        by_cases e : p = s
        · exact .inl e
        · exact .inr ⟨by omega, h2⟩
    · rw [if_neg hc, ih]
      constructor
      · rintro ⟨h1, h2⟩
        exact ⟨by omega, h2⟩
      · rintro ⟨h1, h2⟩
        refine ⟨?_, h2⟩
        apply Nat.lt_of_le_of_ne h1
        rintro rfl
        obtain ⟨c', d', x', y', e1, e2, e3, e4, e5⟩ := h2
        simp at e1 e2 e3 e4
        subst e1 e2 e3 e4
        exact hc e5
theorem bwL_at {l : List Nat} {p : Nat} (hp : p < l.length) : (bwL l)[p]? = some (((wN l p : Nat) : Int), ((wN l.reverse (l.length - 1 - p) : Nat) : Int)) := by
  cases e : (bwL l)[p]? with
  | none =>
    have := List.getElem?_eq_none_iff.mp e
    rw [bwL_len] at this
    omega
  | some x =>
    obtain ⟨a, b⟩ := x
    obtain ⟨_, e1, e2⟩ := bwL_get e
    rw [e1, e2]
/-- the place may be swapped with the next one -/
def EvP (l : List Nat) (k p : Nat) : Prop := p + 1 < l.length ∧ wN l p = wN l (p + 1) ∧ wN l.reverse (l.length - 1 - p) = wN l.reverse (l.length - 1 - (p + 1)) ∧ wN l p + wN l.reverse (l.length - 1 - p) = k + 1 ∧ l.getD p 0 ≠ l.getD (p + 1) 0
theorem evI_iff {l : List Nat} {k p : Nat} : p ∈ evI (k : Int) l (bwL l) 0 ↔ EvP l k p := by
  rw [evI_mem]
  unfold EvP
  simp only [Nat.sub_zero, Nat.zero_le, true_and]
  constructor
  · rintro ⟨c, d, x, y, h1, h2, h3, h4, h5, h6, h7⟩
    have hp := (List.getElem?_eq_some_iff.mp h2).1
    rw [bwL_at (by omega)] at h3
    rw [bwL_at hp] at h4
    rw [getD_some (by omega)] at h1
    rw [getD_some hp] at h2
    cases h3; cases h4; cases h1; cases h2
    simp only [Prod.mk.injEq] at h5
    exact ⟨hp, by omega, by omega, by simp only at h6; omega, h7⟩
  · rintro ⟨hp, h1, h2, h3, h4⟩
    refine ⟨_, _, _, _, getD_some (by omega), getD_some hp, bwL_at (by omega), bwL_at hp, ?_, ?_, h4⟩
    · rw [h1, h2]
    · simp only; omega
theorem spI_iff {l : List Nat} {k p : Nat} : p ∈ spI (k : Int) (bwL l) 0 ↔ p < l.length ∧ k + 1 < wN l p + wN l.reverse (l.length - 1 - p) := by
  constructor
  · intro h
    obtain ⟨_, a, b, h1, h2⟩ := spI_mem h
    rw [Nat.sub_zero] at h1
    obtain ⟨hp, ea, eb⟩ := bwL_get h1
    exact ⟨hp, by omega⟩
  · rintro ⟨hp, h⟩
    have key : ∀ (bw : List (Int × Int)) (s j : Nat) (x : Int × Int), bw[j]? = some x → (k : Int) + 1 < x.1 + x.2 → s + j ∈ spI (k : Int) bw s := by
      intro bw
      induction bw with
      | nil => intro s j x h; simp at h
      | cons y bw ih =>
        obtain ⟨a, b⟩ := y
        intro s j x h hx
        unfold spI
        cases j with
        | zero =>
          simp at h
          subst h
          rw [if_pos hx]
          exact List.mem_cons_self ..
        | succ j =>
          rw [List.getElem?_cons_succ] at h
          have := ih (s + 1) j x h hx
          rw [show s + 1 + j = s + (j + 1) by omega] at this
          split
          · exact List.mem_cons_of_mem _ this
          · exact this
    have := key (bwL l) 0 p _ (bwL_at hp) (by simp only; omega)
    rwa [Nat.zero_add] at this
/-- .. swapped -/
def swp (l : List Nat) (p : Nat) : List Nat := l.take p ++ l.getD (p + 1) 0 :: l.getD p 0 :: l.drop (p + 2)
theorem two_at {l : List Nat} {p : Nat} (hp : p + 1 < l.length) : l = l.take p ++ l.getD p 0 :: l.getD (p + 1) 0 :: l.drop (p + 2) := by
  conv => lhs; rw [← List.take_append_drop p l]
  rw [remL_drop' (getD_some (by omega)), remL_drop' (getD_some hp)]
theorem sub_two {c d : Nat} {A B q : List Nat} (h : q.Sublist (A ++ c :: d :: B)) : q.Sublist (A ++ d :: c :: B) ∨ ∃ q1 q2, q = q1 ++ c :: d :: q2 ∧ q1.Sublist A ∧ q2.Sublist B := by
  rw [List.sublist_append_iff] at h
  obtain ⟨q1, q2, rfl, h1, h2⟩ := h
  cases h2 with
  | cons _ h2 => exact .inl (h1.append (by
      cases h2 with
      | cons _ h2 => exact (h2.cons _).cons _
      | cons_cons _ h2 => exact (h2.cons _).cons_cons _))
  | cons_cons _ h2 =>
    cases h2 with
    | cons _ h2 => exact .inl (h1.append ((h2.cons_cons _).cons _))
    | cons_cons _ h2 => exact .inr ⟨_, _, rfl, h1, h2⟩
theorem last_sub {A q : List Nat} {c d : Nat} (h : (q ++ [d]).Sublist (A ++ [c])) (hn : c ≠ d) : (q ++ [d]).Sublist A := by
  rcases sub_snoc.mp h with h | ⟨p, e, h⟩
  · exact h
  · have := congrArg List.getLast? e
    simp at this
    exact absurd this.symm hn
theorem head_sub {B q : List Nat} {c d : Nat} (h : (c :: q).Sublist (d :: B)) (hn : c ≠ d) : (c :: q).Sublist B := by
  cases h with
  | cons _ h => exact h
  | cons_cons _ h => exact absurd rfl hn
theorem swap_alike {l : List Nat} {k p : Nat} (h : EvP l k p) : spL k l = spL k (swp l p) := by
  obtain ⟨hp, w1, w2, w3, hn⟩ := h
  have el := two_at hp
  have ta : l.take (p + 1) = l.take p ++ [l.getD p 0] := by rw [List.take_add_one, getD_some (by omega)]; rfl
  have td : l.drop (p + 1) = l.getD (p + 1) 0 :: l.drop (p + 2) := remL_drop' (getD_some hp)
  refine asc_ext (spL_asc _ _) (spL_asc _ _) fun q => ?_
  rw [spL_mem, spL_mem]
  unfold swp
  constructor
  · rintro ⟨hk, hq⟩
    refine ⟨hk, ?_⟩
    rw [el] at hq
    rcases sub_two hq with hq | ⟨q1, q2, rfl, h1, h2⟩
    · exact hq
    · simp only [List.length_append, List.length_cons] at hk
      by_cases z : q1.length + 1 < wN l p
      · have := before (by omega) h1 z
        have := this.append ((h2.cons (l.getD p 0)).cons_cons (l.getD (p + 1) 0))
        rwa [List.append_assoc] at this
      · have z2 : q2.length + 1 < wN l.reverse (l.length - 1 - (p + 1)) := by omega
        have := behind_ (p := p + 1) hp h2 z2
        exact h1.append (List.Sublist.cons _ (this.cons_cons _))
  · rintro ⟨hk, hq⟩
    refine ⟨hk, ?_⟩
    rw [el]
    rcases sub_two hq with hq | ⟨q1, q2, rfl, h1, h2⟩
    · exact hq
    · simp only [List.length_append, List.length_cons] at hk
      by_cases z : q1.length + 1 < wN l (p + 1)
      · have := before (p := p + 1) hp (by rw [ta]; exact h1.trans (List.sublist_append_left _ _)) z
        rw [ta] at this
        have := (last_sub this hn).append ((h2.cons (l.getD (p + 1) 0)).cons_cons (l.getD p 0))
        rwa [List.append_assoc] at this
      · have z2 : q2.length + 1 < wN l.reverse (l.length - 1 - p) := by omega
        have := behind_ (p := p) (by omega) (by rw [td]; exact h2.cons _) z2
        rw [td] at this
        exact h1.append (List.Sublist.cons _ ((head_sub this hn).cons_cons _))
/-- a letter put in -/
def ins (l : List Nat) (p c : Nat) : List Nat := l.take p ++ c :: l.drop p
end QM
namespace QM
open PySem PySem.Spec L2 QL QP
def okA (a : D) : Bool := okD a || (match a with | .dict kvs => !isOb kvs | _ => false)
def eqS (a : D) (m : List Nat) : Bool := match a with | .str s => decide (s.cps.toList = m) | _ => false
theorem d_eqA {f : Bool → Bool} {a : D} {m : List Nat} (h : okA a = true) : dEqF f a (.str (tx m)) = some (.fz (.bool (f (eqS a m)))) := by
  unfold okA at h
  simp only [Bool.or_eq_true] at h
  cases a with
  | str s =>
    rw [Str.tx s, d_eq, if_pos ⟨ok_str, ok_str⟩, eqv_str, tx_dec]
    rfl
  | dict kvs =>
    have : okD (.dict kvs) = false := by unfold okD; simp [PyData.plain]
    have hn : isOb kvs = false := by
      rcases h with h | h
      · rw [this] at h; cases h
      · simpa using h
    rw [d_eq, this, if_neg (by simp), if_pos (by unfold unEq; simp [hn])]
    rfl
  | _ =>
    rcases h with h | h
    · rw [d_eq, if_pos ⟨h, ok_str⟩]
      simp [PyData.eqv, eqS]
    · cases h
section
variable {P : SV → S → Prop} {r : S} {f : Bool → Bool} {a : D} {m : List Nat}
instance (priority := 500) : Step (wO (dEqF f a (.str (tx m))) r P) (okA a = true ∧ P (.fz (.bool (f (eqS a m)))) r) := ⟨fun q => wO_of (z' := .fz (.bool (f (eqS a m)))) (d_eqA q.1) q.2⟩
end
abbrev wOut : List Nat := [111, 117, 116]
abbrev wSwap : List Nat := [115, 119, 97, 112]
def isC (d : D) : Bool := match d with | .int i => decide (0 ≤ i) | _ => false
theorem isC_R (d : D) : Ret (F_is_count [d]) (.fz (.bool (isC d))) := by
  cases d with
  | int i => exact Ret.of_eq (is_count_eq i)
  | _ => exact ⟨none, rfl, rfl⟩
theorem isC_law (d : D) : Ret (F__law_is_count [d]) (.fz (.bool (isC d))) := isC_R d
instance {P : SV → Prop} {X : Str → List (Str × D) → Prop} {d : D} : Step (wF (F_is_count [d]) P X) (P (.fz (.bool (isC d)))) := ⟨wF_ret (isC_R d)⟩
instance {P : SV → Prop} {X : Str → List (Str × D) → Prop} {d : D} : Step (wF (F__law_is_count [d]) P X) (P (.fz (.bool (isC d)))) := ⟨wF_ret (isC_law d)⟩
theorem nats_any {xs : List Nat} {p : Nat} : ((nats xs).any fun y => PyData.eqv y (.int (p : Nat))) = decide (p ∈ xs) := by
  rw [Bool.eq_iff_iff, decide_eq_true_eq, List.any_eq_true]
  unfold nats
  simp only [List.mem_map]
  constructor
  · rintro ⟨_, ⟨q, hq, rfl⟩, e⟩
    rw [eqv_int, decide_eq_true_eq] at e
    have : q = p := by omega
    rwa [← this]
  · intro h
    exact ⟨_, ⟨p, h, rfl⟩, by rw [eqv_int]; simp⟩
local macro_rules | `(tactic| decreasing_trivial_pre_omega) => `(tactic| first
  | apply QM.Step.go
  | refine ⟨rfl, ?_⟩
  | refine ⟨⟨rfl, rfl⟩, ?_⟩
  | refine ⟨_, rfl, ?_⟩
  | refine ⟨_, _, rfl, ?_⟩
  | refine ⟨_, _, _, rfl, ?_⟩
  | refine ⟨Nat.le_of_ble_eq_true rfl, ?_⟩
  | refine ⟨szb' (by omega), ?_⟩
  | refine ⟨szb' (by simp only [List.length_append, List.length_take, List.length_drop, List.length_reverse, List.length_cons, List.length_nil]; omega), ?_⟩
  | refine ⟨by assumption, ?_⟩
  | refine wB_f (by assumption) ?_
  | refine wAt_r rfl ?_
  | refine wB_t rfl ?_
  | refine wB_f rfl ?_)
section
variable {l : List Nat} {k : Nat} {a b d : D} {r : List D}
abbrev Aft (l : List Nat) (k : Nat) (d : D) (z : Option (List Nat)) : Prop := Ret (F_after [.str (tx l), .int (k : Nat), d]) (.fz (match z with | none => .none | some m => .str (tx m))) ∧ Ret (F__law_after [.str (tx l), .int (k : Nat), d]) (.ol (match z with | none => [] | some m => [.str (tx m)]))
theorem aft_out (hl : l.length ≤ 100) (tl : Tx l) {p : Nat} (h : p ∈ spI (k : Int) (bwL l) 0) : Aft l k (.tuple [.str (tx wOut), .int (p : Nat)]) (some (l.take p ++ l.drop (p + 1))) := by
  have ht : ∀ c ∈ l, c < 0x110000 := fun c hc => by have := (tl c hc).2; omega
  have hp := (spI_iff.mp h).1
  constructor
  · refine Ret.go ?_
    unfold B_after
    repeat' decreasing_trivial_pre_omega
    refine wB_f (decide_eq_false (by omega)) ?_
    repeat' decreasing_trivial_pre_omega
    refine wF_ret (Ret.of_eq (spares_eq l (szb' (by omega)) k)) ?_
    repeat' decreasing_trivial_pre_omega
    refine ⟨⟨ok_int, ok_nats⟩, ?_⟩
    rw [nats_any]
    repeat' decreasing_trivial_pre_omega
    refine wB_t (decide_eq_true h) ?_
    repeat' decreasing_trivial_pre_omega
    rw [cut_up]
    repeat' decreasing_trivial_pre_omega
    rw [show ((p : Nat) : Int) + 1 = ((p + 1 : Nat) : Int) by omega, cut_fr]
    repeat' decreasing_trivial_pre_omega
    rfl
  · refine Ret.go ?_
    unfold B__law_after
    repeat' decreasing_trivial_pre_omega
    refine wF_ret (law_both_ways_R (by omega) ht) ?_
    repeat' decreasing_trivial_pre_omega
    refine wF_ret (law_spares_R (by omega) ht) ?_
    repeat' decreasing_trivial_pre_omega
    refine ⟨⟨ok_int, ok_nats⟩, ?_⟩
    rw [nats_any]
    repeat' decreasing_trivial_pre_omega
    refine wB_t (decide_eq_true h) ?_
    repeat' decreasing_trivial_pre_omega
    rw [cut_up]
    repeat' decreasing_trivial_pre_omega
    rw [show ((p : Nat) : Int) + 1 = ((p + 1 : Nat) : Int) by omega, cut_fr]
    repeat' decreasing_trivial_pre_omega
    rfl
end
end QM
namespace QM
open PySem PySem.Spec L2 QL QP
local macro_rules | `(tactic| decreasing_trivial_pre_omega) => `(tactic| first
  | apply QM.Step.go
  | refine ⟨rfl, ?_⟩
  | refine ⟨⟨rfl, rfl⟩, ?_⟩
  | refine ⟨_, rfl, ?_⟩
  | refine ⟨_, _, rfl, ?_⟩
  | refine ⟨_, _, _, rfl, ?_⟩
  | refine ⟨Nat.le_of_ble_eq_true rfl, ?_⟩
  | refine ⟨szb' (by omega), ?_⟩
  | refine ⟨szb' (by simp only [List.length_append, List.length_take, List.length_drop, List.length_reverse, List.length_cons, List.length_nil]; omega), ?_⟩
  | refine And.intro (by assumption) ?_
  | refine wB_f (by assumption) ?_
  | refine wAt_r rfl ?_
  | refine wB_t rfl ?_
  | refine wB_f rfl ?_)
section
variable {l : List Nat} {k : Nat} {a b c d : D} {r : List D}
theorem bw_at {p : Nat} (hp : p < l.length) : atI ((bwL l).map pr2) ((p : Nat) : Int) = some (.tuple [.int (wN l p : Nat), .int (wN l.reverse (l.length - 1 - p) : Nat)]) := by
  refine at_n ?_
  rw [List.getElem?_map, bwL_at hp]
  rfl
theorem eqv_tt {a b c d : Int} : PyData.eqv (.tuple [.int a, .int b]) (.tuple [.int c, .int d]) = decide (a = c ∧ b = d) := by
  show ((a == c) && ((b == d) && true)) = _
  rw [Bool.eq_iff_iff]
  simp
theorem l_at {p : Nat} (hp : p < l.length) : atI l ((p : Nat) : Int) = some (l.getD p 0) := at_n (getD_some hp)
theorem swp_text {p : Nat} : ((l.take p ++ [l.getD (p + 1) 0]) ++ [l.getD p 0]) ++ l.drop (p + 2) = swp l p := by unfold swp; simp
theorem aft_swp (hl : l.length ≤ 100) (tl : Tx l) {p : Nat} (h : EvP l k p) : Aft l k (.tuple [.str (tx wSwap), .int (p : Nat)]) (some (swp l p)) := by
  have ht : ∀ c ∈ l, c < 0x110000 := fun c hc => by have := (tl c hc).2; omega
  have hp := h.1
  have c1 : ((p : Nat) : Int) + 1 = ((p + 1 : Nat) : Int) := by omega
  have c2 : ((p : Nat) : Int) + 2 = ((p + 2 : Nat) : Int) := by omega
  constructor
  · refine Ret.go ?_
    unfold B_after
    repeat' decreasing_trivial_pre_omega
    refine wB_f (decide_eq_false (by omega)) ?_
    repeat' decreasing_trivial_pre_omega
    refine wF_ret (Ret.of_eq (evens_eq l (by omega) k)) ?_
    repeat' decreasing_trivial_pre_omega
    refine ⟨⟨ok_int, ok_nats⟩, ?_⟩
    rw [nats_any]
    repeat' decreasing_trivial_pre_omega
    refine wB_t (decide_eq_true (evI_iff.mpr h)) ?_
    repeat' decreasing_trivial_pre_omega
    rw [cut_up]
    repeat' decreasing_trivial_pre_omega
    rw [c1]
    refine wAt_r (l_at hp) ?_
    repeat' decreasing_trivial_pre_omega
    refine wAt_r (l_at (by omega)) ?_
    repeat' decreasing_trivial_pre_omega
    rw [c2, cut_fr]
    repeat' decreasing_trivial_pre_omega
    rw [swp_text]
  · refine Ret.go ?_
    unfold B__law_after
    obtain ⟨_, w1, w2, w3, w4⟩ := h
    repeat' decreasing_trivial_pre_omega
    refine wF_ret (law_both_ways_R (by omega) ht) ?_
    repeat' decreasing_trivial_pre_omega
    refine wB_t (decide_eq_true (by omega)) ?_
    repeat' decreasing_trivial_pre_omega
    refine wAt_r (bw_at (by omega)) ?_
    repeat' decreasing_trivial_pre_omega
    rw [c1]
    refine wAt_r (bw_at hp) ?_
    repeat' decreasing_trivial_pre_omega
    rw [eqv_tt]
    refine wB_t (decide_eq_true ⟨by omega, by omega⟩) ?_
    repeat' decreasing_trivial_pre_omega
    refine wAt_r (bw_at (by omega)) ?_
    repeat' decreasing_trivial_pre_omega
    refine wB_t (decide_eq_true (by omega)) ?_
    repeat' decreasing_trivial_pre_omega
    refine wAt_r (l_at (by omega)) ?_
    repeat' decreasing_trivial_pre_omega
    rw [c1]
    refine wAt_r (l_at hp) ?_
    repeat' decreasing_trivial_pre_omega
    refine wB_f (by simpa using w4) ?_
    repeat' decreasing_trivial_pre_omega
    rw [cut_up]
    repeat' decreasing_trivial_pre_omega
    rw [c1]
    refine wAt_r (l_at hp) ?_
    repeat' decreasing_trivial_pre_omega
    refine wAt_r (l_at (by omega)) ?_
    repeat' decreasing_trivial_pre_omega
    rw [c2, cut_fr]
    repeat' decreasing_trivial_pre_omega
    rw [swp_text]
def okStep : D → Bool
  | .tuple (a :: _ :: r) => okA a && (match r with | [c] => shortS 1000 c | _ => true)
  | _ => true
end
end QM
namespace QM
open PySem PySem.Spec L2 QL QP
def wOwn (x : SV) (r : S) (P : SV → S → Prop) : Prop := (∃ xs, (x = .ol xs ∨ (x = .fz (.list xs) ∧ flatAll xs = true)) ∧ P (.ol xs) r)
section
variable {i n m : Nat} {FD : List D → FR} {FL : S → Res (List D)} {FS : S → Res (List SV)} {T : S → Res Bool} {A B : S → RS} {r : S} {P : SV → S → Prop} {X : XPo} {p : Po} {sl : List (Option SV)} {tp : Option (Int × Int)} {ds xs : List D} {dss : List (List D)}
instance : Step (wE (fCallN n FD FL r) P X) (wE (FL r) (fun ds r => ds.length = n ∧ flatAll ds = true ∧ wF (FD ds) (fun v => wOwn v r P) (fun _ _ => False)) X) := ⟨fun h => wE_bind (wE_mono h fun ds r h => by
  obtain ⟨h1, h2, h3⟩ := h
  rw [if_pos ⟨h1, h2⟩]
  unfold outN
  cases e : FD ds with
  | bad => rw [e] at h3; exact h3
  | exc c f t => rw [e] at h3; exact h3.elim
  | ok v t =>
    rw [e] at h3
    obtain ⟨h3, xs, h4, h5⟩ := h3
    rcases h4 with h4 | ⟨h4, h6⟩
    · subst h4; exact h5
    · subst h4
      dsimp only
      rw [if_pos h6]
      exact h5)⟩
instance : Step (wOwn (.ol xs) r P) (P (.ol xs) r) := ⟨fun h => ⟨xs, .inl rfl, h⟩⟩
instance : Step (wOwn (.fz (.list xs)) r P) (flatAll xs = true ∧ P (.ol xs) r) := ⟨fun h => ⟨xs, .inr ⟨rfl, h.1⟩, h.2⟩⟩
def wOls (m : Nat) (xs : List SV) (P : List (List D) → Prop) : Prop := ∃ dss, olsS m xs = some dss ∧ P dss
def wNest (i n m : Nat) (T : S → Res Bool) (A B : S → RS) (p : Po) (dss : List (List D)) (r1 : S) : Prop := dss.length = n ∧ i < r1.sl.length ∧ n ≤ sizeLine ∧ wU r1.sl i (some (.fz (.list (dss.map .list)))) fun sl => wE (T ⟨sl, r1.tp⟩) (fun b r2 => wB b (wS (sSeq A sBad r2) p) (wU r1.sl i none fun sl => wS (B ⟨sl, r2.tp⟩) p)) p.ex
instance : Step (wS (sNest i n m FS T A B r) p) (wE (FS r) (fun xs r1 => wOls m xs fun dss => wNest i n m T A B p dss r1) p.ex) := ⟨fun h => wE_bindS (wE_mono h fun xs r1 h => by
  obtain ⟨dss, e, h1, h2, h3, h4, h5⟩ := h
  rw [e]
  dsimp only
  rw [if_pos ⟨h1, h2, h3⟩]
  refine wE_bindS (wE_mono h5 fun b r2 h => ?_)
  cases b with
  | true => exact h.1 rfl
  | false =>
    obtain ⟨_, h⟩ := h.2 rfl
    exact h)⟩
instance : Step (wNest i n m T A B p dss ⟨sl, tp⟩) (dss.length = n ∧ n ≤ 1000000 ∧ wU sl i (some (.fz (.list (dss.map .list)))) fun sl2 => wE (T ⟨sl2, tp⟩) (fun b r2 => wB b (wS (sSeq A sBad r2) p) (wU sl i none fun sl => wS (B ⟨sl, r2.tp⟩) p)) p.ex) := ⟨fun h => by
  obtain ⟨h1, h2, h3, h4⟩ := h
  exact ⟨h1, h3, by unfold sizeLine; omega, h3, h4⟩⟩
instance {P : List (List D) → Prop} : Step (wOls m [] P) (P []) := ⟨fun h => ⟨[], rfl, h⟩⟩
instance {x : List D} {r : List SV} {P : List (List D) → Prop} : Step (wOls m (.ol x :: r) P) (x.length + m ≤ 1000000 ∧ wOls m r fun dss => P (x :: dss)) := ⟨fun ⟨h1, dss, e, h⟩ => ⟨x :: dss, by
  unfold olsS
  rw [if_pos (by unfold sizeLine; omega), e]
  rfl, h⟩⟩
end
end QM
namespace QM
open PySem PySem.Spec L2 QL QP
def Lt (n m : Nat) (d : D) : Prop := d.showable = true ∧ d.depth ≤ n ∧ PyData.leavesShort 40 d = true ∧ d.weight ≤ m
theorem Lt.up {n m n' m' : Nat} {d : D} (h : Lt n m d) (hn : n ≤ n') (hm : m ≤ m') : Lt n' m' d := ⟨h.1, Nat.le_trans h.2.1 hn, h.2.2.1, Nat.le_trans h.2.2.2 hm⟩
end QM
namespace QM
open PySem PySem.Spec L2 QL QP
local macro_rules | `(tactic| decreasing_trivial_pre_omega) => `(tactic| first
  | apply QM.Step.go
  | refine ⟨rfl, ?_⟩
  | refine ⟨⟨rfl, rfl⟩, ?_⟩
  | refine ⟨_, rfl, ?_⟩
  | refine ⟨_, _, rfl, ?_⟩
  | refine ⟨_, _, _, rfl, ?_⟩
  | refine ⟨Nat.le_of_ble_eq_true rfl, ?_⟩
  | refine wAt_r rfl ?_
  | refine wB_t rfl ?_
  | refine wB_f rfl ?_)
abbrev Pr := Nat × Nat
abbrev nx (l : List Nat) (c i : Nat) : Option Nat := (nxt l c i).map (· + 1)
def parts (a b w : List Nat) : Prop := (adv a w 0).isSome ≠ (adv b w 0).isSome
abbrev lettersOf (a b : List Nat) : List Nat := QS.sortU (a ++ b)
structure En where
  i : Nat
  j : Nat
  p : List Nat
  c : Nat
abbrev En.w (e : En) : List Nat := e.p ++ [e.c]
def inn (a b : List Nat) (i j : Nat) (p : List Nat) : List Nat → List Pr → List (Pr × List Nat) → Sum (List Nat) (List Pr × List (Pr × List Nat))
  | [], K, L => .inr (K, L)
  | c :: cs, K, L => match nx a c i, nx b c j with
    | some i', some j' => if (i', j') ∈ K then inn a b i j p cs K L else inn a b i j p cs (K ++ [(i', j')]) (L ++ [((i', j'), p ++ [c])])
    | none, none => inn a b i j p cs K L
    | _, _ => .inl (p ++ [c])
def oute (a b : List Nat) : List (Pr × List Nat) → List Pr → List (Pr × List Nat) → Sum (List Nat) (List Pr × List (Pr × List Nat))
  | [], K, L => .inr (K, L)
  | x :: W, K, L => match inn a b x.1.1 x.1.2 x.2 (lettersOf a b) K L with
    | .inl w => .inl w
    | .inr (K', L') => oute a b W K' L'
def bfs (a b : List Nat) : Nat → List Pr → List (Pr × List Nat) → Option (Option (List Nat))
  | 0, _, _ => none
  | f + 1, K, W => if W = [] then some none else match oute a b W K [] with
    | .inl w => some (some w)
    | .inr (K', L') => bfs a b f K' L'
/-- one row of all -/
def scan (a b : List Nat) : List En → List Pr → List (Pr × List Nat) → Sum (List Nat) (List Pr × List (Pr × List Nat))
  | [], K, L => .inr (K, L)
  | e :: es, K, L => match nx a e.c e.i, nx b e.c e.j with
    | some i', some j' => if (i', j') ∈ K then scan a b es K L else scan a b es (K ++ [(i', j')]) (L ++ [((i', j'), e.w)])
    | none, none => scan a b es K L
    | _, _ => .inl e.w
theorem inn_scan {a b : List Nat} {i j : Nat} {p : List Nat} (es : List En) : ∀ (cs : List Nat) (K : List Pr) (L : List (Pr × List Nat)),
    scan a b (cs.map (fun c => ⟨i, j, p, c⟩) ++ es) K L = match inn a b i j p cs K L with | .inl w => .inl w | .inr (K', L') => scan a b es K' L'
  | [], K, L => rfl
  | c :: cs, K, L => by
    have ih := inn_scan (a := a) (b := b) (i := i) (j := j) (p := p) es cs
    rw [List.map_cons, List.cons_append]
    conv => lhs; unfold scan
    unfold inn
    dsimp only
    cases e1 : nx a c i <;> cases e2 : nx b c j <;> dsimp only
    · exact ih K L
    · split
      · exact ih K L
      · exact ih _ _
def entries (a b : List Nat) (W : List (Pr × List Nat)) : List En := W.flatMap fun x => (lettersOf a b).map fun c => ⟨x.1.1, x.1.2, x.2, c⟩
theorem out_scan {a b : List Nat} : ∀ (W : List (Pr × List Nat)) (K : List Pr) (L : List (Pr × List Nat)), oute a b W K L = scan a b (entries a b W) K L
  | [], K, L => rfl
  | x :: W, K, L => by
    unfold entries
    rw [List.flatMap_cons, inn_scan]
    unfold oute
    cases inn a b x.1.1 x.1.2 x.2 (lettersOf a b) K L with
    | inl w => rfl
    | inr y => exact out_scan W y.1 y.2
def partE (a b : List Nat) (e : En) : Prop := (nx a e.c e.i).isSome ≠ (nx b e.c e.j).isSome
structure JJ (a b : List Nat) (K0 : List Pr) (E : List En) (K : List Pr) (L : List (Pr × List Nat)) : Prop where
  j1 : ∀ y ∈ L, ∃ e ∈ E, nx a e.c e.i = some y.1.1 ∧ nx b e.c e.j = some y.1.2 ∧ y.2 = e.w
  j2 : L.Pairwise fun x y => x.2 < y.2
  j3 : ∀ q, q ∈ K ↔ q ∈ K0 ∨ ∃ y ∈ L, y.1 = q
  j4 : ∀ e ∈ E, ¬ partE a b e ∧ ∀ i' j', nx a e.c e.i = some i' → nx b e.c e.j = some j' → (i', j') ∈ K0 ∨ ∃ y ∈ L, y.1 = (i', j') ∧ ¬ e.w < y.2
theorem scan_spec {a b : List Nat} {K0 : List Pr} : ∀ (E2 E1 : List En) (K : List Pr) (L : List (Pr × List Nat)), (E1 ++ E2).Pairwise (fun e f => e.w < f.w) → JJ a b K0 E1 K L →
    match scan a b E2 K L with
    | .inl w => ∃ e ∈ E2, w = e.w ∧ partE a b e ∧ ∀ f ∈ E1 ++ E2, partE a b f → ¬ f.w < w
    | .inr (K', L') => JJ a b K0 (E1 ++ E2) K' L'
  | [], E1, K, L, hs, h => by
    unfold scan
    rw [List.append_nil]
    exact h
  | e :: E2, E1, K, L, hs, h => by
    have hs' : ((E1 ++ [e]) ++ E2).Pairwise (fun e f => e.w < f.w) := by rw [List.append_assoc]; exact hs
    have lt : ∀ f ∈ E1, f.w < e.w := fun f hf => (List.pairwise_append.mp hs).2.2 f hf e (List.mem_cons_self ..)
    have eqE : E1 ++ e :: E2 = (E1 ++ [e]) ++ E2 := by rw [List.append_assoc]; rfl
    have go : ∀ (K' : List Pr) (L' : List (Pr × List Nat)), JJ a b K0 (E1 ++ [e]) K' L' → match scan a b E2 K' L' with
        | .inl w => ∃ e' ∈ e :: E2, w = e'.w ∧ partE a b e' ∧ ∀ f ∈ E1 ++ e :: E2, partE a b f → ¬ f.w < w
        | .inr (K', L') => JJ a b K0 (E1 ++ e :: E2) K' L' := fun K' L' h' => by
      have ih := scan_spec E2 (E1 ++ [e]) K' L' hs' h'
      rw [eqE]
      cases hc : scan a b E2 K' L' with
      | inl w =>
        rw [hc] at ih
        obtain ⟨e', h1, h2, h3, h4⟩ := ih
        exact ⟨e', List.mem_cons_of_mem _ h1, h2, h3, h4⟩
      | inr y =>
        rw [hc] at ih
        exact ih
    unfold scan
    cases e1 : nx a e.c e.i with
    | none =>
      cases e2 : nx b e.c e.j with
      | none =>
        dsimp only
        refine go K L ⟨fun y hy => ?_, h.j2, h.j3, fun f hf => ?_⟩
        · obtain ⟨f, h1, h2⟩ := h.j1 y hy
          exact ⟨f, List.mem_append_left _ h1, h2⟩
        · rcases List.mem_append.mp hf with hf | hf
          · exact h.j4 f hf
          · rw [List.mem_singleton.mp hf]
            refine ⟨fun z => z (by rw [e1, e2]), fun i' j' z => ?_⟩
            rw [e1] at z; cases z
      | some j' =>
        dsimp only
        refine ⟨e, List.mem_cons_self .., rfl, fun z => ?_, fun f hf hp => ?_⟩
        · rw [e1, e2] at z; cases z
        · rcases List.mem_append.mp hf with hf | hf
          · exact absurd hp (h.j4 f hf).1
          · rcases List.mem_cons.mp hf with rfl | hf
            · exact List.lt_irrefl _
            · exact fun z => List.lt_irrefl _ (List.lt_trans z ((List.pairwise_cons.mp (List.pairwise_append.mp hs).2.1).1 f hf))
    | some i' =>
      cases e2 : nx b e.c e.j with
      | none =>
        dsimp only
        refine ⟨e, List.mem_cons_self .., rfl, fun z => ?_, fun f hf hp => ?_⟩
        · rw [e1, e2] at z; cases z
        · rcases List.mem_append.mp hf with hf | hf
          · exact absurd hp (h.j4 f hf).1
          · rcases List.mem_cons.mp hf with rfl | hf
            · exact List.lt_irrefl _
            · exact fun z => List.lt_irrefl _ (List.lt_trans z ((List.pairwise_cons.mp (List.pairwise_append.mp hs).2.1).1 f hf))
      | some j' =>
        dsimp only
        by_cases hk : (i', j') ∈ K
        · rw [if_pos hk]
          refine go K L ⟨fun y hy => ?_, h.j2, h.j3, fun f hf => ?_⟩
          · obtain ⟨f, h1, h2⟩ := h.j1 y hy
            exact ⟨f, List.mem_append_left _ h1, h2⟩
          · rcases List.mem_append.mp hf with hf | hf
            · exact h.j4 f hf
            · rw [List.mem_singleton.mp hf]
              refine ⟨fun z => z (by rw [e1, e2]; rfl), fun i2 j2 z1 z2 => ?_⟩
              rw [e1] at z1; cases z1
              rw [e2] at z2; cases z2
              rcases (h.j3 _).mp hk with z | ⟨y, hy, z⟩
              · exact .inl z
              · refine .inr ⟨y, hy, z, fun w => ?_⟩
                obtain ⟨f', hf', _, _, q⟩ := h.j1 y hy
                rw [q] at w
                exact List.lt_irrefl _ (List.lt_trans w (lt f' hf'))
        · rw [if_neg hk]
          refine go _ _ ⟨fun y hy => ?_, ?_, fun q => ?_, fun f hf => ?_⟩
          · rcases List.mem_append.mp hy with hy | hy
            · obtain ⟨f, h1, h2⟩ := h.j1 y hy
              exact ⟨f, List.mem_append_left _ h1, h2⟩
            · rw [List.mem_singleton.mp hy]
              exact ⟨e, by simp, e1, e2, rfl⟩
          · refine List.pairwise_append.mpr ⟨h.j2, List.pairwise_singleton _ _, fun x hx y hy => ?_⟩
            rw [List.mem_singleton.mp hy]
            obtain ⟨f', hf', _, _, q⟩ := h.j1 x hx
            rw [q]
            exact lt f' hf'
          · rw [List.mem_append, h.j3, List.mem_singleton]
            constructor
            · rintro ((z | ⟨y, hy, z⟩) | z)
              · exact .inl z
              · exact .inr ⟨y, List.mem_append_left _ hy, z⟩
              · exact .inr ⟨_, List.mem_append_right _ (List.mem_singleton.mpr rfl), z.symm⟩
            · rintro (z | ⟨y, hy, z⟩)
              · exact .inl (.inl z)
              · rcases List.mem_append.mp hy with hy | hy
                · exact .inl (.inr ⟨y, hy, z⟩)
                · rw [List.mem_singleton.mp hy] at z
                  exact .inr z.symm
          · rcases List.mem_append.mp hf with hf | hf
            · refine ⟨(h.j4 f hf).1, fun i2 j2 z1 z2 => ?_⟩
              rcases (h.j4 f hf).2 i2 j2 z1 z2 with z | ⟨y, hy, z⟩
              · exact .inl z
              · exact .inr ⟨y, List.mem_append_left _ hy, z⟩
            · rw [List.mem_singleton.mp hf]
              refine ⟨fun z => z (by rw [e1, e2]; rfl), fun i2 j2 z1 z2 => ?_⟩
              rw [e1] at z1; cases z1
              rw [e2] at z2; cases z2
              exact .inr ⟨_, List.mem_append_right _ (List.mem_singleton.mpr rfl), rfl, List.lt_irrefl _⟩
theorem lex_snoc : ∀ {p q : List Nat} (c d : Nat), p < q → p.length = q.length → p ++ [c] < q ++ [d]
  | [], [], c, d, h, _ => absurd h (List.lt_irrefl _)
  | [], _ :: _, c, d, _, h => by simp at h
  | _ :: _, [], c, d, _, h => by simp at h
  | x :: p, y :: q, c, d, h, hl => by
    rcases List.cons_lt_cons_iff.mp h with h | ⟨h1, h2⟩
    · exact List.cons_lt_cons_iff.mpr (.inl h)
    · exact List.cons_lt_cons_iff.mpr (.inr ⟨h1, lex_snoc c d h2 (by simpa using hl)⟩)
theorem lex_same {c d : Nat} : ∀ (p : List Nat), c < d → p ++ [c] < p ++ [d]
  | [], h => List.cons_lt_cons_iff.mpr (.inl h)
  | x :: p, h => List.cons_lt_cons_iff.mpr (.inr ⟨rfl, lex_same p h⟩)
theorem lex_le {p q : List Nat} {c : Nat} (h : ¬ q < p) (hl : q.length = p.length) : ¬ q ++ [c] < p ++ [c] := fun z => by
  rcases Decidable.em (p < q) with h2 | h2
  · exact List.lt_irrefl _ (List.lt_trans z (lex_snoc c c h2 hl.symm))
  · have : p = q := List.le_antisymm (List.not_lt.mp h) (List.not_lt.mp h2)
    subst this
    exact List.lt_irrefl _ z
theorem lex_ntr {p q r : List Nat} (h1 : ¬ q < p) (h2 : ¬ r < q) : ¬ r < p := fun z => by
  have a := List.not_lt.mp h1
  have b := List.not_lt.mp h2
  exact (List.not_lt.mpr (List.le_trans a b)) z
theorem entries_asc {a b : List Nat} {n : Nat} : ∀ {W : List (Pr × List Nat)}, (∀ x ∈ W, x.2.length = n) → W.Pairwise (fun x y => x.2 < y.2) → (entries a b W).Pairwise fun e f => e.w < f.w
  | [], _, _ => List.Pairwise.nil
  | x :: W, hl, h => by
    obtain ⟨h1, h2⟩ := List.pairwise_cons.mp h
    unfold entries
    rw [List.flatMap_cons]
    refine List.pairwise_append.mpr ⟨?_, entries_asc (fun y hy => hl y (List.mem_cons_of_mem _ hy)) h2, fun e he f hf => ?_⟩
    · rw [List.pairwise_map]
      exact (QS.sortU_asc (a ++ b)).imp fun z => lex_same _ z
    · obtain ⟨c, _, rfl⟩ := List.mem_map.mp he
      obtain ⟨y, hy, hf⟩ := List.mem_flatMap.mp hf
      obtain ⟨d, _, rfl⟩ := List.mem_map.mp hf
      exact lex_snoc c d (h1 y hy) (by rw [hl x (List.mem_cons_self ..), hl y (List.mem_cons_of_mem _ hy)])
end QM
namespace QM
open PySem PySem.Spec L2 QL QP
local macro_rules | `(tactic| decreasing_trivial_pre_omega) => `(tactic| first
  | apply QM.Step.go
  | refine ⟨rfl, ?_⟩
  | refine ⟨⟨rfl, rfl⟩, ?_⟩
  | refine ⟨_, rfl, ?_⟩
  | refine ⟨_, _, rfl, ?_⟩
  | refine ⟨_, _, _, rfl, ?_⟩
  | refine ⟨Nat.le_of_ble_eq_true rfl, ?_⟩
  | refine wAt_r rfl ?_
  | refine wB_t rfl ?_
  | refine wB_f rfl ?_)
theorem adv_s {l p : List Nat} {c i : Nat} (h : adv l p 0 = some i) : adv l (p ++ [c]) 0 = nx l c i := by rw [adv_snoc, h]; rfl
/-- a piece's beginning is a piece -/
theorem adv_pre {l p q : List Nat} {k : Nat} (h : adv l (p ++ q) 0 = some k) : ∃ i, adv l p 0 = some i := by
  rw [adv_app] at h
  cases e : adv l p 0 with
  | none => rw [e] at h; cases h
  | some i => exact ⟨i, rfl⟩
structure Lev (a b : List Nat) (n : Nat) (K : List Pr) (W : List (Pr × List Nat)) : Prop where
  i1 : ∀ x ∈ W, x.2.length = n ∧ adv a x.2 0 = some x.1.1 ∧ adv b x.2 0 = some x.1.2
  i2 : W.Pairwise fun x y => x.2 < y.2
  i3 : ∀ w, w.length ≤ n → ¬ parts a b w
  i4 : ∀ q i j, q.length = n → adv a q 0 = some i → adv b q 0 = some j → (∃ p, p.length < n ∧ adv a p 0 = some i ∧ adv b p 0 = some j) ∨ ∃ x ∈ W, x.1 = (i, j) ∧ ¬ q < x.2
  i5 : ∀ i j, (i, j) ∈ K ↔ ∃ p, p.length ≤ n ∧ adv a p 0 = some i ∧ adv b p 0 = some j
/-- the least that parts -/
def PartSpec (a b : List Nat) : Option (List Nat) → Prop
  | none => ∀ w, ¬ parts a b w
  | some w => parts a b w ∧ ∀ v, parts a b v → w.length < v.length ∨ (w.length = v.length ∧ ¬ v < w)
theorem lev0 (a b : List Nat) : Lev a b 0 [(0, 0)] [((0, 0), [])] := by
  refine ⟨fun x hx => ?_, List.pairwise_singleton _ _, fun w hw hp => ?_, fun q i j hq h1 h2 => ?_, fun i j => ?_⟩
  · rw [List.mem_singleton.mp hx]; exact ⟨rfl, rfl, rfl⟩
  · have : w = [] := List.length_eq_zero_iff.mp (by omega)
    subst this
    exact hp rfl
  · have : q = [] := List.length_eq_zero_iff.mp hq
    subst this
    cases h1; cases h2
    exact .inr ⟨_, List.mem_singleton.mpr rfl, rfl, List.lt_irrefl _⟩
  · rw [List.mem_singleton]
    constructor
    · intro h
      cases h
      exact ⟨[], Nat.le_refl _, rfl, rfl⟩
    · rintro ⟨p, hp, h1, h2⟩
      have : p = [] := List.length_eq_zero_iff.mp (by omega)
      subst this
      cases h1; cases h2; rfl
/-- what parts is one letter behind what both hold -/
theorem part_cut {a b : List Nat} {n : Nat} {K : List Pr} {W : List (Pr × List Nat)} (h : Lev a b n K W) {v : List Nat} (hv : v.length = n + 1) (hp : (adv a v 0).isSome = true ∨ (adv b v 0).isSome = true) :
    ∃ q d i j, v = q ++ [d] ∧ q.length = n ∧ adv a q 0 = some i ∧ adv b q 0 = some j ∧ d ∈ lettersOf a b := by
  rcases snoc_cases v with e | ⟨q, d, e⟩
  · rw [e] at hv; simp at hv
  · subst e
    have hq : q.length = n := by rw [List.length_append, List.length_singleton] at hv; omega
    have h3 := h.i3 q (by omega)
    have h3 : (adv a q 0).isSome = (adv b q 0).isSome := Decidable.byContradiction h3
    have one : (adv a q 0).isSome = true := by
      rcases hp with z | z
      · obtain ⟨k, e⟩ := Option.isSome_iff_exists.mp z
        obtain ⟨i, e⟩ := adv_pre e
        rw [e]; rfl
      · obtain ⟨k, e⟩ := Option.isSome_iff_exists.mp z
        obtain ⟨i, e⟩ := adv_pre e
        rw [h3, e]; rfl
    obtain ⟨i, ei⟩ := Option.isSome_iff_exists.mp one
    obtain ⟨j, ej⟩ := Option.isSome_iff_exists.mp (h3 ▸ one)
    refine ⟨q, d, i, j, rfl, hq, ei, ej, ?_⟩
    have mm : ∀ {l : List Nat} {i : Nat}, (nx l d i).isSome = true → d ∈ l := fun {l i} z => by
      obtain ⟨k, e⟩ := Option.isSome_iff_exists.mp z
      obtain ⟨k', e, _⟩ := Option.map_eq_some_iff.mp e
      exact List.mem_of_getElem? (nxt_some e).2.1
    refine (QS.sortU_mem _ _).mpr (List.mem_append.mpr ?_)
    rcases hp with z | z
    · rw [adv_s ei] at z; exact .inl (mm z)
    · rw [adv_s ej] at z; exact .inr (mm z)
theorem parts_or {a b v : List Nat} (h : parts a b v) : (adv a v 0).isSome = true ∨ (adv b v 0).isSome = true := by
  unfold parts at h
  revert h
  cases (adv a v 0).isSome <;> cases (adv b v 0).isSome <;> simp
/-- such a text stands among the entries, or a shorter one parts -/
theorem part_ent {a b : List Nat} {n : Nat} {K : List Pr} {W : List (Pr × List Nat)} (h : Lev a b n K W) {v : List Nat} (hv : v.length = n + 1) (hp : parts a b v) :
    ∃ e ∈ entries a b W, partE a b e ∧ ¬ v < e.w := by
  obtain ⟨q, d, i, j, rfl, hq, ei, ej, hd⟩ := part_cut h hv (parts_or hp)
  have pp : (nx a d i).isSome ≠ (nx b d j).isSome := by
    unfold parts at hp
    rwa [adv_s ei, adv_s ej] at hp
  rcases h.i4 q i j hq ei ej with ⟨p, p1, p2, p3⟩ | ⟨x, hx, x1, x2⟩
  · exfalso
    refine h.i3 (p ++ [d]) (by rw [List.length_append, List.length_singleton]; omega) ?_
    unfold parts
    rw [adv_s p2, adv_s p3]
    exact pp
  · refine ⟨⟨x.1.1, x.1.2, x.2, d⟩, List.mem_flatMap.mpr ⟨x, hx, List.mem_map.mpr ⟨d, hd, rfl⟩⟩, ?_, ?_⟩
    · unfold partE
      rw [x1]
      exact pp
    · exact lex_le x2 (by rw [hq, (h.i1 x hx).1])
theorem lev_step {a b : List Nat} {n : Nat} {K : List Pr} {W : List (Pr × List Nat)} (h : Lev a b n K W) :
    match oute a b W K [] with
    | .inl w => PartSpec a b (some w)
    | .inr (K', L') => Lev a b (n + 1) K' L' := by
  rw [out_scan]
  have hs := entries_asc (a := a) (b := b) (fun x hx => (h.i1 x hx).1) h.i2
  have key := scan_spec (a := a) (b := b) (K0 := K) (entries a b W) [] K [] hs ⟨(fun y hy => by cases hy), List.Pairwise.nil, (fun q => by simp), (fun e he => by cases he)⟩
  rw [List.nil_append] at key
  have ent : ∀ e ∈ entries a b W, e.p.length = n ∧ adv a e.p 0 = some e.i ∧ adv b e.p 0 = some e.j := fun e he => by
    obtain ⟨x, hx, he⟩ := List.mem_flatMap.mp he
    obtain ⟨c, _, rfl⟩ := List.mem_map.mp he
    exact h.i1 x hx
  cases hc : scan a b (entries a b W) K [] with
  | inl w =>
    rw [hc] at key
    obtain ⟨e, he, rfl, hp, hmin⟩ := key
    obtain ⟨e1, e2, e3⟩ := ent e he
    have lw : e.w.length = n + 1 := by show (e.p ++ [e.c]).length = _; rw [List.length_append, List.length_singleton, e1]
    refine ⟨?_, fun v hv => ?_⟩
    · unfold parts
      show (adv a (e.p ++ [e.c]) 0).isSome ≠ (adv b (e.p ++ [e.c]) 0).isSome
      rw [adv_s e2, adv_s e3]
      exact hp
    · rw [lw]
      rcases Nat.lt_trichotomy v.length (n + 1) with z | z | z
      · exact absurd hv (h.i3 v (by omega))
      · obtain ⟨f, hf, fp, fv⟩ := part_ent h z hv
        exact .inr ⟨z.symm, lex_ntr (hmin f hf fp) fv⟩
      · exact .inl z
  | inr y =>
    rw [hc] at key
    obtain ⟨K', L'⟩ := y
    have key : JJ a b K (entries a b W) K' L' := key
    have i3 : ∀ w, w.length ≤ n + 1 → ¬ parts a b w := fun w hw hp => by
      rcases Nat.lt_or_ge w.length (n + 1) with z | z
      · exact h.i3 w (by omega) hp
      · obtain ⟨f, hf, fp, _⟩ := part_ent h (by omega) hp
        exact (key.j4 f hf).1 fp
    have i1 : ∀ x ∈ L', x.2.length = n + 1 ∧ adv a x.2 0 = some x.1.1 ∧ adv b x.2 0 = some x.1.2 := fun x hx => by
      obtain ⟨e, he, q1, q2, q3⟩ := key.j1 x hx
      obtain ⟨e1, e2, e3⟩ := ent e he
      rw [q3]
      refine ⟨by show (e.p ++ [e.c]).length = _; rw [List.length_append, List.length_singleton, e1], ?_, ?_⟩
      · show adv a (e.p ++ [e.c]) 0 = _; rw [adv_s e2, q1]
      · show adv b (e.p ++ [e.c]) 0 = _; rw [adv_s e3, q2]
    have i4 : ∀ q i j, q.length = n + 1 → adv a q 0 = some i → adv b q 0 = some j → (∃ p, p.length < n + 1 ∧ adv a p 0 = some i ∧ adv b p 0 = some j) ∨ ∃ x ∈ L', x.1 = (i, j) ∧ ¬ q < x.2 := by
      intro v i' j' hv h1 h2
      obtain ⟨q, d, i, j, rfl, hq, ei, ej, hd⟩ := part_cut h hv (.inl (by rw [h1]; rfl))
      rw [adv_s ei] at h1
      rw [adv_s ej] at h2
      rcases h.i4 q i j hq ei ej with ⟨p, p1, p2, p3⟩ | ⟨x, hx, x1, x2⟩
      · exact .inl ⟨p ++ [d], by rw [List.length_append, List.length_singleton]; omega, by rw [adv_s p2, h1], by rw [adv_s p3, h2]⟩
      · have hm : (⟨x.1.1, x.1.2, x.2, d⟩ : En) ∈ entries a b W := List.mem_flatMap.mpr ⟨x, hx, List.mem_map.mpr ⟨d, hd, rfl⟩⟩
        have x1a : x.1.1 = i := by rw [x1]
        have x1b : x.1.2 = j := by rw [x1]
        rcases (key.j4 _ hm).2 i' j' (by show nx a d x.1.1 = _; rw [x1a]; exact h1) (by show nx b d x.1.2 = _; rw [x1b]; exact h2) with z | ⟨y, hy, y1, y2⟩
        · obtain ⟨p, p1, p2⟩ := (h.i5 i' j').mp z
          exact .inl ⟨p, by omega, p2⟩
        · exact .inr ⟨y, hy, y1, lex_ntr y2 (lex_le x2 (by rw [hq, (h.i1 x hx).1]))⟩
    refine ⟨i1, key.j2, i3, i4, fun i j => ?_⟩
    rw [key.j3]
    constructor
    · rintro (z | ⟨y, hy, z⟩)
      · obtain ⟨p, p1, p2⟩ := (h.i5 i j).mp z
        exact ⟨p, by omega, p2⟩
      · obtain ⟨q1, q2, q3⟩ := i1 y hy
        rw [z] at q2 q3
        exact ⟨y.2, by omega, q2, q3⟩
    · rintro ⟨p, p1, p2, p3⟩
      rcases Nat.lt_or_ge p.length (n + 1) with z | z
      · exact .inl ((h.i5 i j).mpr ⟨p, by omega, p2, p3⟩)
      · rcases i4 p i j (by omega) p2 p3 with ⟨p', q1, q2⟩ | ⟨x, hx, x1, _⟩
        · exact .inl ((h.i5 i j).mpr ⟨p', by omega, q2⟩)
        · exact .inr ⟨x, hx, x1⟩
theorem lev_end {a b : List Nat} {n : Nat} {K : List Pr} (h : Lev a b n K []) : PartSpec a b none := by
  have main : ∀ (m : Nat) (w : List Nat), w.length = m → ¬ parts a b w := by
    intro m
    induction m using Nat.strongRecOn with
    | _ m ih =>
      intro w hw hp
      rcases Nat.lt_or_ge n w.length with z | z
      · have ew : w = w.take n ++ w.drop n := (List.take_append_drop n w).symm
        have hq : (w.take n).length = n := by rw [List.length_take]; omega
        have h3 : (adv a (w.take n) 0).isSome = (adv b (w.take n) 0).isSome := Decidable.byContradiction (h.i3 _ (by omega))
        have one : (adv a (w.take n) 0).isSome = true := by
          rcases parts_or hp with y | y <;>
          · obtain ⟨k, e⟩ := Option.isSome_iff_exists.mp y
            rw [ew] at e
            obtain ⟨i, e⟩ := adv_pre e
            first | (rw [e]; rfl) | (rw [h3, e]; rfl)
        obtain ⟨i, ei⟩ := Option.isSome_iff_exists.mp one
        obtain ⟨j, ej⟩ := Option.isSome_iff_exists.mp (h3 ▸ one)
        rcases h.i4 _ i j hq ei ej with ⟨p, p1, p2, p3⟩ | ⟨x, hx, _⟩
        · refine ih (p ++ w.drop n).length (by rw [List.length_append, List.length_drop]; omega) (p ++ w.drop n) rfl ?_
          unfold parts at hp ⊢
          rw [ew, adv_app, adv_app, ei, ej] at hp
          rw [adv_app, adv_app, p2, p3]
          exact hp
        · cases hx
      · exact h.i3 w z hp
  exact fun w => main _ w rfl
theorem lev_le {a b : List Nat} {n : Nat} {K : List Pr} {W : List (Pr × List Nat)} (h : Lev a b n K W) (hw : W ≠ []) : n ≤ a.length := by
  cases W with
  | nil => exact absurd rfl hw
  | cons x W =>
    obtain ⟨q1, q2, _⟩ := h.i1 x (List.mem_cons_self ..)
    have h1 := adv_len a x.2 0 _ q2
    have h2 := (adv_le a x.2 0 _ (Nat.zero_le _) q2).2
    omega
theorem bfs_spec {a b : List Nat} : ∀ (f n : Nat) (K : List Pr) (W : List (Pr × List Nat)), Lev a b n K W → a.length + 1 ≤ n + f → ∃ res, bfs a b (f + 1) K W = some res ∧ PartSpec a b res := by
  intro f
  induction f with
  | zero =>
    intro n K W h hf
    unfold bfs
    by_cases hw : W = []
    · subst hw
      rw [if_pos rfl]
      exact ⟨none, rfl, lev_end h⟩
    · exact absurd (lev_le h hw) (by omega)
  | succ f ih =>
    intro n K W h hf
    unfold bfs
    by_cases hw : W = []
    · subst hw
      rw [if_pos rfl]
      exact ⟨none, rfl, lev_end h⟩
    · rw [if_neg hw]
      have key := lev_step h
      cases hc : oute a b W K [] with
      | inl w =>
        rw [hc] at key
        exact ⟨some w, rfl, key⟩
      | inr y =>
        rw [hc] at key
        exact ih (n + 1) y.1 y.2 key (by omega)
/-- the least text that parts, as the program goes -/
theorem bfs_ex (a b : List Nat) : ∃ res, bfs a b (a.length + 2) [(0, 0)] [((0, 0), [])] = some res ∧ PartSpec a b res := bfs_spec (a.length + 1) 0 _ _ (lev0 a b) (by omega)
def partL (a b : List Nat) : Option (List Nat) := (bfs a b (a.length + 2) [(0, 0)] [((0, 0), [])]).getD none
theorem partL_eq (a b : List Nat) : bfs a b (a.length + 2) [(0, 0)] [((0, 0), [])] = some (partL a b) := by
  obtain ⟨res, h, _⟩ := bfs_ex a b
  unfold partL
  rw [h]; rfl
theorem partL_spec (a b : List Nat) : PartSpec a b (partL a b) := by
  obtain ⟨res, h, h2⟩ := bfs_ex a b
  unfold partL
  rw [h]; exact h2
end QM
namespace QM
open PySem PySem.Spec L2 QL QP
local macro_rules | `(tactic| decreasing_trivial_pre_omega) => `(tactic| first
  | apply QM.Step.go
  | refine ⟨rfl, ?_⟩
  | refine ⟨⟨rfl, rfl⟩, ?_⟩
  | refine ⟨_, rfl, ?_⟩
  | refine ⟨_, _, rfl, ?_⟩
  | refine ⟨_, _, _, rfl, ?_⟩
  | refine ⟨Nat.le_of_ble_eq_true rfl, ?_⟩
  | refine wAt_r rfl ?_
  | refine wB_t rfl ?_
  | refine wB_f rfl ?_)
def hdL : List (List Nat) := [[104, 97, 115], [110, 111, 116], [97, 110, 100], [111, 114], [110, 111, 114], [72, 97, 115], [97], [111, 117, 116], [115, 119, 97, 112], [105, 110], [98, 101, 104, 105, 110, 100], [115, 116, 114, 105, 107, 101]]
/-- the first of a tuple -/
def hdB : D → Bool
  | .str s => decide (s.cps.toList ∈ hdL)
  | .none => true
  | .int i => decide (i = 0)
  | .tuple _ => true
  | .list [] => true
  | .list [.str s] => decide (s.cps.toList = [104, 97, 115])
  | .dict [] => true
  | _ => false
def hd1 : List D → Bool
  | [] => true
  | h :: _ => hdB h
/-- nothing against nothing: whatever is inside -/
theorem dEq_nilT {f : Bool → Bool} {a : D} {as : List D} : dEqF f (.tuple (a :: as)) (.tuple []) = some (.fz (.bool (f false))) := by
  rw [d_eq]
  split
  · rfl
  · rw [if_pos (by simp [unEq])]
theorem dEq_nilL {f : Bool → Bool} {as : List D} : dEqF f (.list as) (.list []) = some (.fz (.bool (f as.isEmpty))) := by
  rw [d_eq]
  split
  · rw [eqv_nil]
  · rename_i h
    cases as with
    | nil => exact absurd ⟨by decide, by decide⟩ h
    | cons a as => rw [if_pos (by simp [unEq])]; rfl
instance {f : Bool → Bool} {a : D} {as : List D} {r : S} {P : SV → S → Prop} : Step (wO (dEqF f (.tuple (a :: as)) (.tuple [])) r P) (P (.fz (.bool (f false))) r) := ⟨fun q => wO_of (z' := .fz (.bool (f false))) dEq_nilT q⟩
instance {f : Bool → Bool} {as : List D} {r : S} {P : SV → S → Prop} : Step (wO (dEqF f (.list as) (.list [])) r P) (P (.fz (.bool (f as.isEmpty))) r) := ⟨fun q => wO_of (z' := .fz (.bool (f as.isEmpty))) dEq_nilL q⟩
end QM
namespace QM
open PySem PySem.Spec L2 QL QP
local macro_rules | `(tactic| decreasing_trivial_pre_omega) => `(tactic| first
  | apply QM.Step.go
  | refine ⟨rfl, ?_⟩
  | refine ⟨⟨rfl, rfl⟩, ?_⟩
  | refine ⟨_, rfl, ?_⟩
  | refine ⟨_, _, rfl, ?_⟩
  | refine ⟨_, _, _, rfl, ?_⟩
  | refine ⟨Nat.le_of_ble_eq_true rfl, ?_⟩
  | refine wAt_r rfl ?_
  | refine wB_t rfl ?_
  | refine wB_f rfl ?_)
instance {fa : S → Res D} {G : S → Res SV} {r : S} {P : SV → S → Prop} {X : XPo} : Step (wE (eOrI fa G r) P X) (wE (fa r) (fun d r => wIn d fun i => wB (decide (i = 0)) (wE (G r) P X) (P (.fz (.int i)) r)) X) := ⟨fun h => wE_bind (wE_mono h fun d r h => by
  obtain ⟨i, e, h1, h2⟩ := h
  subst e
  dsimp only
  by_cases hi : i = 0
  · rw [if_pos hi]; exact h1 (decide_eq_true hi)
  · rw [if_neg hi]; exact h2 (decide_eq_false hi))⟩
instance {i : Nat} {fv fk : S → Res D} {r : S} {p : Po} : Step (wS (sPutT i fv fk r) p) (wE (fv r) (fun v r => wL r.sl i fun x => ∃ kvs, x = .ot kvs ∧ wE (fk r) (fun k r => ∃ c, keyT k = some c ∧ wL r.sl i fun x => ∃ kvs, x = .ot kvs ∧ kvs.length < sizeLine ∧ wU r.sl i (some (.ot (putT kvs c v))) fun sl => wRS sl r.tp p.nx) p.ex) p.ex) := ⟨fun h => by
  unfold sPutT
  refine wE_bindS (wE_mono h fun v r h => ?_)
  obtain ⟨x, e, kvs, e2, h⟩ := h
  subst e2
  rw [e]
  dsimp only
  refine wE_bindS (wE_mono h fun k r h => ?_)
  obtain ⟨c, e3, x2, e4, kvs2, e5, hl, hU⟩ := h
  subst e5
  rw [e3, e4]
  dsimp only
  rw [if_pos hl]
  exact hU.2⟩
def optD : Option Nat → D
  | none => .none
  | some k => .int (k : Nat)
abbrev mvD (a b : List Nat) (i j c : Nat) : D := .tuple [.str (tx [c]), optD (nx a c i), optD (nx b c j)]
abbrev mvs (a b : List Nat) (i j : Nat) : List D := (lettersOf a b).map (mvD a b i j)
theorem nx_le {l : List Nat} {c i k : Nat} (h : nx l c i = some k) : 1 ≤ k ∧ k ≤ l.length := by
  obtain ⟨m, e, rfl⟩ := Option.map_eq_some_iff.mp h
  have := (nxt_lt e).2
  exact ⟨by omega, this⟩
theorem nodup_leP {α : Type} [DecidableEq α] : ∀ {a b : List α}, a.Nodup → (∀ x ∈ a, x ∈ b) → a.length ≤ b.length
  | [], _, _, _ => Nat.zero_le _
  | x :: a, b, h, hs => by
    obtain ⟨h1, h2⟩ := List.nodup_cons.mp h
    have hx := hs x (List.mem_cons_self ..)
    have ih := nodup_leP (b := b.erase x) h2 fun y hy => (List.mem_erase_of_ne (fun e => h1 (by rw [← e]; exact hy))).mpr (hs y (List.mem_cons_of_mem _ hy))
    rw [List.length_erase_of_mem hx] at ih
    have := List.length_pos_of_mem hx
    rw [List.length_cons]
    omega
/-- a wish that is not opened when it is named -/
structure Hid (p : Prop) : Prop where
  out : p
theorem one_lt : (1 : Nat) < sizeLine := by rw [sizeLine_eq]; omega
def orN (z : Int) : D := if z = 0 then .none else .int z
instance {fa : S → Res D} {r : S} {PD : D → S → Prop} {X : XPo} : Step (wE (fD (eOrI fa (eD (fC .none))) r) PD X) (wE (fa r) (fun d r => wIn d fun i => PD (orN i) r) X) := ⟨fun h => QM.Step.go (QM.Step.go (wE_mono h fun d r h => by
  obtain ⟨i, e, h⟩ := h
  refine ⟨i, e, ?_, ?_⟩
  · intro hb
    have hi : i = 0 := of_decide_eq_true hb
    rw [show orN i = .none from if_pos hi] at h
    repeat' apply QM.Step.go
    exact h
  · intro hb
    have hi : ¬ i = 0 := of_decide_eq_false hb
    rw [show orN i = .int i from if_neg hi] at h
    repeat' apply QM.Step.go
    exact h))⟩
theorem mv_st {A C : Str} {n : Int} {x0 x1 x2 x3 x5 : Option SV} {Q : D → S → Prop} {Z : S → Prop} (h : Q (.int (Txt.find3 A C n + 1)) ⟨[x0, x1, x2, x3, some (.fz (.str C)), x5, some (.fz (.str A)), some (.fz (.int n))], none⟩) :
    wG (gTupF 2 (gConsF (gNm 6) (gConsF (gNm 7) gNilF)) (.tuple [.str A, .int n]) ⟨[x0, x1, x2, x3, some (.fz (.str C)), x5, none, none], none⟩) fun r => wE (tYesF r) (fun b r => wB b (wE (moves_v2_e1 r) Q XN) (Z r)) XN := by
  apply QM.Step.go
  refine ⟨rfl, ?_⟩
  repeat' apply QM.Step.go
  unfold moves_v2_e1
  repeat' apply QM.Step.go
  exact h
theorem mv_lc {x5 : Option SV} {A B C : Str} {i j : Int} {acc : List D} : Hid (wE (fLc [6, 7] (fZip (aCons (fD (eTup (aCons (fV 0) (aCons (fV 1) (aNil))))) (aCons (fV 2) (aNil)))) (gTupF 2 (gConsF (gNm 6) (gConsF (gNm 7) (gNilF)))) (tYesF) (moves_v2_e1) ⟨[some (.fz (.str A)), some (.fz (.str B)), some (.fz (.tuple [.int i, .int j])), some (.ol acc), some (.fz (.str C)), x5, none, none], none⟩)
    (fun v r => v = .ol [.int (Txt.find3 A C i + 1), .int (Txt.find3 B C j + 1)] ∧ r = ⟨[some (.fz (.str A)), some (.fz (.str B)), some (.fz (.tuple [.int i, .int j])), some (.ol acc), some (.fz (.str C)), x5, none, none], none⟩) XN) := by
  refine ⟨?_⟩
  repeat' apply QM.Step.go
  refine ⟨Nat.le_of_ble_eq_true rfl, ?_⟩
  repeat' apply QM.Step.go
  refine ⟨_, _, rfl, ?_⟩
  repeat' apply QM.Step.go
  rw [show zipL [PyData.str A, PyData.str B] [PyData.int i, PyData.int j] = [.tuple [.str A, .int i], .tuple [.str B, .int j]] from rfl]
  refine lc_go (fun k acc' r => acc' = [.int (Txt.find3 A C i + 1), .int (Txt.find3 B C j + 1)].take k ∧ r = ⟨[some (.fz (.str A)), some (.fz (.str B)), some (.fz (.tuple [.int i, .int j])), some (.ol acc), some (.fz (.str C)), x5, none, none], none⟩) ⟨rfl, rfl⟩ ?_ ?_
  · rintro k d acc' r hd ⟨rfl, rfl⟩
    match k, hd with
    | 0, hd =>
      cases hd
      refine mv_st ⟨Nat.lt_trans Nat.zero_lt_one one_lt, ?_⟩
      repeat' apply QM.Step.go
      exact ⟨rfl, rfl⟩
    | 1, hd =>
      cases hd
      refine mv_st ⟨one_lt, ?_⟩
      repeat' apply QM.Step.go
      exact ⟨rfl, rfl⟩
    | k + 2, hd => cases hd
  · rintro acc' r ⟨rfl, rfl⟩
    exact ⟨rfl, rfl⟩
theorem mvb_eq : moves_v2_b2 = sSeq (sAsg 5 (fLc [6, 7] (fZip (aCons (fD (eTup (aCons (fV 0) (aCons (fV 1) (aNil))))) (aCons (fV 2) (aNil)))) (gTupF 2 (gConsF (gNm 6) (gConsF (gNm 7) (gNilF)))) (tYesF) (moves_v2_e1)))
  (sApp 3 (fD (eTup (aCons (fV 4) (aCons (fD (eOrI (fD (fOp dIx (gV 5) (fC (.int 0)))) (eD (fC .none)))) (aCons (fD (eOrI (fD (fOp dIx (gV 5) (fC (.int 1)))) (eD (fC .none)))) (aNil))))))) := rfl
theorem mv_app {A B C : Str} {u v i j : Int} {acc : List D} (hl : acc.length < sizeLine) : Hid (wS (sApp 3 (fD (eTup (aCons (fV 4) (aCons (fD (eOrI (fD (fOp dIx (gV 5) (fC (.int 0)))) (eD (fC .none)))) (aCons (fD (eOrI (fD (fOp dIx (gV 5) (fC (.int 1)))) (eD (fC .none)))) (aNil)))))) ⟨[some (.fz (.str A)), some (.fz (.str B)), some (.fz (.tuple [.int i, .int j])), some (.ol acc), some (.fz (.str C)), some (.ol [.int u, .int v]), none, none], none⟩)
    (Pn fun r => ∃ x5, r = ⟨[some (.fz (.str A)), some (.fz (.str B)), some (.fz (.tuple [.int i, .int j])), some (.ol (acc ++ [.tuple [.str C, orN u, orN v]])), some (.fz (.str C)), x5, none, none], none⟩)) := by
  refine ⟨?_⟩
  repeat' apply QM.Step.go
  refine ⟨Nat.le_of_ble_eq_true rfl, ?_⟩
  repeat' apply QM.Step.go
  refine ⟨hl, ?_⟩
  repeat' apply QM.Step.go
  exact ⟨_, rfl⟩
theorem orN_nx {l : List Nat} {c n : Nat} : orN (optI (nxt l c n) + 1) = optD (nx l c n) := by
  unfold orN optD nx
  cases nxt l c n with
  | none => rfl
  | some k =>
    show (if ((k : Int) + 1) = 0 then _ else _) = _
    rw [if_neg (by omega)]
    rfl
theorem Hid.seq {A B M : S → RS} {r s : S} {p : Po} (hm : M = sSeq A B) (hA : Hid (wS (A r) (Pn fun r => r = s))) (hB : Hid (wS (B s) p)) : Hid (wS (M r) p) := ⟨by
  subst hm
  refine QM.Step.go (cutP hA.out fun t e => ?_)
  subst e
  exact hB.out⟩
theorem Hid.asg {F : S → Res SV} {i : Nat} {r s : S} {x : SV} {sl : List (Option SV)} (hF : Hid (wE (F r) (fun v r => v = x ∧ r = s) XN)) (hs : i < s.sl.length) (h : s.sl.set i (some x) = sl) (ht : s.tp = none) : Hid (wS (sAsg i F r) (Pn fun r => r = ⟨sl, none⟩)) := ⟨by
  refine QM.Step.go (wE_mono hF.out fun v r e => ?_)
  obtain ⟨rfl, rfl⟩ := e
  unfold setS
  rw [if_pos hs]
  show (_ : S) = _
  rw [h, ht]⟩
theorem mv_asg {x5 : Option SV} {A B C : Str} {i j : Int} {acc : List D} : Hid (wS (sAsg 5 (fLc [6, 7] (fZip (aCons (fD (eTup (aCons (fV 0) (aCons (fV 1) (aNil))))) (aCons (fV 2) (aNil)))) (gTupF 2 (gConsF (gNm 6) (gConsF (gNm 7) (gNilF)))) (tYesF) (moves_v2_e1)) ⟨[some (.fz (.str A)), some (.fz (.str B)), some (.fz (.tuple [.int i, .int j])), some (.ol acc), some (.fz (.str C)), x5, none, none], none⟩)
    (Pn fun r => r = ⟨[some (.fz (.str A)), some (.fz (.str B)), some (.fz (.tuple [.int i, .int j])), some (.ol acc), some (.fz (.str C)), some (.ol [.int (Txt.find3 A C i + 1), .int (Txt.find3 B C j + 1)]), none, none], none⟩)) := Hid.asg mv_lc (by show 5 < 8; omega) rfl rfl
theorem mvG {A B C : Str} {i j : Int} {acc : List D} {x5 : Option SV} (hl : acc.length < sizeLine) : Hid (wS (moves_v2_b2 ⟨[some (.fz (.str A)), some (.fz (.str B)), some (.fz (.tuple [.int i, .int j])), some (.ol acc), some (.fz (.str C)), x5, none, none], none⟩)
    (Pn fun r => ∃ x5, r = ⟨[some (.fz (.str A)), some (.fz (.str B)), some (.fz (.tuple [.int i, .int j])), some (.ol (acc ++ [.tuple [.str C, orN (Txt.find3 A C i + 1), orN (Txt.find3 B C j + 1)]])), some (.fz (.str C)), x5, none, none], none⟩)) := Hid.seq mvb_eq mv_asg (mv_app hl)
theorem mv_body {a b : List Nat} {i j c : Nat} {acc : List D} {x5 : Option SV} (hl : acc.length < sizeLine) : Hid (wS (moves_v2_b2 ⟨[some (.fz (.str (tx a))), some (.fz (.str (tx b))), some (.fz (.tuple [.int (i : Nat), .int (j : Nat)])), some (.ol acc), some (.fz (.str (tx [c]))), x5, none, none], none⟩)
    (Pn fun r => ∃ x5, r = ⟨[some (.fz (.str (tx a))), some (.fz (.str (tx b))), some (.fz (.tuple [.int (i : Nat), .int (j : Nat)])), some (.ol (acc ++ [mvD a b i j c])), some (.fz (.str (tx [c]))), x5, none, none], none⟩)) := by
  have h := @mvG (tx a) (tx b) (tx [c]) i j acc x5 hl
  rw [show (Txt.find3 (tx a) (tx [c]) (i : Int)) = optI (nxt a c i) from (find3_one a c (i : Nat) (by omega)).trans rfl, show (Txt.find3 (tx b) (tx [c]) (j : Int)) = optI (nxt b c j) from (find3_one b c (j : Nat) (by omega)).trans rfl, orN_nx, orN_nx] at h
  exact h
theorem for_hid {p : Po} {G : D → S → Option S} {B : S → RS} (Q : Nat → S → Prop) {ds : List D} {r : S} (h0 : Q 0 r)
    (st : ∀ i d r, ds[i]? = some d → Q i r → ∃ s, G d r = some s ∧ Hid (wS (B s) (Pn (Q (i + 1))))) (he : ∀ r, Q ds.length r → p.nx r) : wS (forF G B ds r) p :=
  wFor_inv Q h0 (fun i d r hd hq => by
    obtain ⟨s, e, h⟩ := st i d r hd hq
    exact ⟨s, e, cutP h.out fun _ q => q⟩) he
theorem Hid.mono {x : RS} {q q2 : S → Prop} (h : Hid (wS x (Pn q))) (k : ∀ s, q s → q2 s) : Hid (wS x (Pn q2)) := ⟨cutP h.out k⟩
theorem moves_R {a b : List Nat} {i j : Nat} (ha : a.length ≤ 1000) (hb : b.length ≤ 1000) : Ret (F_moves_v2 [.str (tx a), .str (tx b), .tuple [.int (i : Nat), .int (j : Nat)]]) (.ol (mvs a b i j)) := by
  have hlen : (lettersOf a b).length ≤ 4000 := by
    have := nodup_leP (a := lettersOf a b) (b := a ++ b) ((QS.sortU_asc (a ++ b)).imp fun h e => absurd h (by omega)) fun x hx => (QS.sortU_mem _ _).mp hx
    rw [List.length_append] at this
    omega
  have hab : (a ++ b).length < 4000 := by rw [List.length_append]; omega
  have R1 := letters_in_R hab
  refine Ret.go ?_
  unfold B_moves_v2
  repeat' decreasing_trivial_pre_omega
  refine ⟨szb' (by omega), ?_⟩
  repeat' decreasing_trivial_pre_omega
  refine wF_ret R1 ?_
  repeat' decreasing_trivial_pre_omega
  refine for_hid (fun k r => ∃ x4 x5, r = ⟨[some (.fz (.str (tx a))), some (.fz (.str (tx b))), some (.fz (.tuple [.int (i : Nat), .int (j : Nat)])), some (.ol (((lettersOf a b).take k).map (mvD a b i j))), x4, x5, none, none], none⟩) ⟨none, none, rfl⟩ ?_ ?_
  · rintro k d r hd ⟨x4, x5, rfl⟩
    obtain ⟨c, hc, rfl⟩ := ltrs_get hd
    have hk := (List.getElem?_eq_some_iff.mp hc).1
    have hl : (((lettersOf a b).take k).map (mvD a b i j)).length < sizeLine := by rw [List.length_map, List.length_take, sizeLine_eq]; omega
    have et : ((lettersOf a b).take (k + 1)).map (mvD a b i j) = ((lettersOf a b).take k).map (mvD a b i j) ++ [mvD a b i j c] := by
      rw [List.take_add_one, hc, List.map_append]; rfl
    rw [et]
    refine ⟨_, rfl, Hid.mono (mv_body hl) fun r h => ?_⟩
    obtain ⟨x5, rfl⟩ := h
    exact ⟨_, _, rfl⟩
  · rintro r ⟨x4, x5, rfl⟩
    rw [ltrs_len, List.take_length]
    repeat' apply QM.Step.go
    exact ⟨rfl, rfl⟩
end QM
namespace QM
open PySem PySem.Spec L2 QL QP
local macro_rules | `(tactic| decreasing_trivial_pre_omega) => `(tactic| first
  | apply QM.Step.go
  | refine ⟨rfl, ?_⟩
  | refine ⟨⟨rfl, rfl⟩, ?_⟩
  | refine ⟨_, rfl, ?_⟩
  | refine ⟨_, _, rfl, ?_⟩
  | refine ⟨Nat.le_of_ble_eq_true rfl, ?_⟩
  | refine wB_t rfl ?_
  | refine wB_f rfl ?_)
def spsL (l : List Nat) (k : Nat) : List Nat := spI (k : Int) (bwL l) 0
def evsL (l : List Nat) (k : Nat) : List Nat := (evI (k : Int) l (bwL l) 0).filter fun p => decide (l.getD (p + 1) 0 < l.getD p 0)
def nxtStep (l : List Nat) (k : Nat) : Option (D × List Nat) := match spsL l k with
  | p :: _ => some (.tuple [.str (tx wOut), .int (p : Nat)], l.take p ++ l.drop (p + 1))
  | [] => match evsL l k with
    | p :: _ => some (.tuple [.str (tx wSwap), .int (p : Nat)], swp l p)
    | [] => none
def inv : List Nat → Nat
  | [] => 0
  | c :: l => (l.filter fun x => decide (x < c)).length + inv l
theorem inv_out (x : Nat) (B : List Nat) : ∀ A : List Nat, inv (A ++ B) ≤ inv (A ++ x :: B)
  | [] => by show inv B ≤ _ + inv B; omega
  | a :: A => by
    show ((A ++ B).filter _).length + inv (A ++ B) ≤ ((A ++ x :: B).filter _).length + inv (A ++ x :: B)
    have ih := inv_out x B A
    rw [List.filter_append, List.filter_append, List.length_append, List.length_append]
    have : (B.filter fun x => decide (x < a)).length ≤ ((x :: B).filter fun x => decide (x < a)).length := by
      rw [List.filter_cons]
      split
      · rw [List.length_cons]; omega
      · omega
    omega
theorem inv_swap (c d : Nat) (B : List Nat) (h : d < c) : ∀ A : List Nat, inv (A ++ d :: c :: B) < inv (A ++ c :: d :: B)
  | [] => by
    show ((c :: B).filter fun x => decide (x < d)).length + ((B.filter fun x => decide (x < c)).length + inv B) < ((d :: B).filter fun x => decide (x < c)).length + ((B.filter fun x => decide (x < d)).length + inv B)
    rw [List.filter_cons_of_neg (by simp; omega), List.filter_cons_of_pos (by simpa using h), List.length_cons]
    omega
  | a :: A => by
    show ((A ++ d :: c :: B).filter _).length + inv (A ++ d :: c :: B) < ((A ++ c :: d :: B).filter _).length + inv (A ++ c :: d :: B)
    have ih := inv_swap c d B h A
    have hp : (A ++ d :: c :: B).Perm (A ++ c :: d :: B) := List.Perm.append_left A (List.Perm.swap ..)
    rw [(hp.filter fun x => decide (x < a)).length_eq]
    omega
theorem inv_le : ∀ l : List Nat, inv l ≤ l.length * l.length
  | [] => Nat.le_refl _
  | c :: l => by
    have ih := inv_le l
    have := List.length_filter_le (fun x => decide (x < c)) l
    show _ + inv l ≤ (l.length + 1) * (l.length + 1)
    rw [Nat.add_mul, Nat.mul_add]
    omega
def meas (l : List Nat) : Nat := l.length + inv l
theorem nxt_ok {l : List Nat} {k : Nat} {d : D} {m : List Nat} (hl : l.length ≤ 100) (tl : Tx l) (h : nxtStep l k = some (d, m)) : Aft l k d (some m) ∧ spL k l = spL k m ∧ m.length ≤ l.length ∧ (∀ c ∈ m, c ∈ l) ∧ meas m < meas l := by
  unfold nxtStep at h
  cases e : spsL l k with
  | cons p r =>
    rw [e] at h
    cases h
    have hp : p ∈ spI (k : Int) (bwL l) 0 := by
      show p ∈ spsL l k
      rw [e]; exact List.mem_cons_self ..
    obtain ⟨h1, h2⟩ := spare_alike hp
    have e1 : l = l.take p ++ l.getD p 0 :: l.drop (p + 1) := by
      have := List.take_append_drop p l
      rw [List.drop_eq_getElem_cons h1] at this
      rw [List.getD_eq_getElem?_getD, List.getElem?_eq_getElem h1]
      exact this.symm
    refine ⟨aft_out hl tl hp, h2, ?_, fun c hc => ?_, ?_⟩
    · rw [List.length_append, List.length_take, List.length_drop]; omega
    · rcases List.mem_append.mp hc with hc | hc
      · exact List.mem_of_mem_take hc
      · exact List.mem_of_mem_drop hc
    · have h3 := inv_out (l.getD p 0) (l.drop (p + 1)) (l.take p)
      rw [← e1] at h3
      unfold meas
      rw [List.length_append, List.length_take, List.length_drop]
      omega
  | nil =>
    rw [e] at h
    dsimp only at h
    cases e2 : evsL l k with
    | nil => rw [e2] at h; cases h
    | cons p r =>
      rw [e2] at h
      cases h
      have hp : p ∈ evsL l k := by rw [e2]; exact List.mem_cons_self ..
      obtain ⟨hp1, hp2⟩ := List.mem_filter.mp hp
      have hE := evI_iff.mp hp1
      have hlt := of_decide_eq_true hp2
      have e3 := two_at hE.1
      refine ⟨aft_swp hl tl hE, swap_alike hE, ?_, fun c hc => ?_, ?_⟩
      · have := congrArg List.length e3
        unfold swp
        simp only [List.length_append, List.length_cons] at this ⊢
        omega
      · have hq : (swp l p).Perm l := by
          conv => rhs; rw [e3]
          exact List.Perm.append_left _ (List.Perm.swap ..)
        exact hq.mem_iff.mp hc
      · have h3 := inv_swap _ _ (l.drop (p + 2)) hlt (l.take p)
        rw [← e3] at h3
        unfold meas
        have : (swp l p).length = l.length := by
          have := congrArg List.length e3
          unfold swp
          simp only [List.length_append, List.length_cons] at this ⊢
          omega
        rw [this]
        unfold swp
        omega
def stD (l : List Nat) (k : Nat) : D := match nxtStep l k with
  | none => .none
  | some x => x.1
def gtF (l : List Nat) : D → Option D
  | .int i => if l.getD (i.toNat + 1) 0 < l.getD i.toNat 0 then some (.int i) else none
  | _ => none
theorem gt_map (l : List Nat) : ∀ ps : List Nat, (nats ps).filterMap (gtF l) = nats (ps.filter fun p => decide (l.getD (p + 1) 0 < l.getD p 0))
  | [] => rfl
  | p :: ps => by
    rw [show nats (p :: ps) = .int (p : Nat) :: nats ps from rfl, List.filterMap_cons, gt_map l ps]
    by_cases h : l.getD (p + 1) 0 < l.getD p 0
    · rw [show gtF l (.int (p : Nat)) = some (.int (p : Nat)) from if_pos h, List.filter_cons_of_pos (by simpa using h)]
      rfl
    · rw [show gtF l (.int (p : Nat)) = none from if_neg h, List.filter_cons_of_neg (by simpa using h)]
theorem evI_len (k : Int) : ∀ (l : List Nat) (bw : List (Int × Int)) (i : Nat), (evI k l bw i).length ≤ l.length
  | [], _, _ => by unfold evI; exact Nat.zero_le _
  | [c], _, _ => by rw [evI_short k (by simp)]; exact Nat.zero_le _
  | c :: d :: r, [], _ => by unfold evI; exact Nat.zero_le _
  | c :: d :: r, [p], _ => by unfold evI; exact Nat.zero_le _
  | c :: d :: r, p :: q :: s, i => by
    have ih := evI_len k (d :: r) (q :: s) (i + 1)
    unfold evI
    split
    · rw [List.length_cons, List.length_cons]; omega
    · rw [List.length_cons]; omega
theorem next_step_R {l : List Nat} {k : Nat} (hl : l.length ≤ 100) (tl : Tx l) : Ret (F_next_step [.str (tx l), .int (k : Nat)]) (.fz (stD l k)) := by
  have h1 := Ret.of_eq (spares_eq l (szb' (by omega)) k)
  have h2 := Ret.of_eq (evens_eq l (by omega) k)
  unfold F_next_step B_next_step
  generalize F_spares = F at h1 ⊢
  generalize F_evens = G at h2 ⊢
  cases e : spsL l k with
  | cons p r =>
    have hs : stD l k = .tuple [.str (tx wOut), .int (p : Nat)] := by unfold stD nxtStep; rw [e]
    rw [hs]
    rw [show spI (k : Int) (bwL l) 0 = p :: r from e] at h1
    refine Ret.go ?_
    repeat' decreasing_trivial_pre_omega
    refine wF_ret h1 ?_
    repeat' decreasing_trivial_pre_omega
    refine wAt_r (at_n (i := 0) (xs := nats (p :: r)) rfl) ?_
    repeat' decreasing_trivial_pre_omega
    rfl
  | nil =>
    rw [show spI (k : Int) (bwL l) 0 = [] from e] at h1
    have hs : stD l k = match evsL l k with | p :: _ => .tuple [.str (tx wSwap), .int (p : Nat)] | [] => .none := by
      unfold stD nxtStep
      rw [e]
      cases evsL l k <;> rfl
    rw [hs]
    refine Ret.go ?_
    repeat' decreasing_trivial_pre_omega
    refine wF_ret h1 ?_
    repeat' decreasing_trivial_pre_omega
    refine wF_ret h2 ?_
    repeat' decreasing_trivial_pre_omega
    refine lc_map (gtF l) (szb' (by
      have h := evI_len (k : Int) l (bwL l) 0
      unfold nats
      rw [List.length_map]
      omega)) (fun d hd => ?_) ?_
    · obtain ⟨p, hp, rfl⟩ := List.mem_map.mp hd
      have hE := (evI_iff.mp hp).1
      unfold next_step_t1 next_step_e2
      repeat' decreasing_trivial_pre_omega
      refine ⟨szb' (by omega), ?_⟩
      refine wAt_r (l_at (by omega)) ?_
      repeat' decreasing_trivial_pre_omega
      refine ⟨szb' (by omega), ?_⟩
      rw [show ((p : Nat) : Int) + 1 = ((p + 1 : Nat) : Int) by omega]
      refine wAt_r (l_at hE) ?_
      repeat' decreasing_trivial_pre_omega
      by_cases hg : l.getD (p + 1) 0 < l.getD p 0
      · rw [show gtF l (.int (p : Nat)) = some (.int (p : Nat)) from if_pos hg]
        refine wB_t (decide_eq_true (List.cons_lt_cons_iff.mpr (.inl hg))) ?_
        repeat' decreasing_trivial_pre_omega
        rfl
      · rw [show gtF l (.int (p : Nat)) = none from if_neg hg]
        refine wB_f (decide_eq_false fun z => (List.cons_lt_cons_iff.mp z).elim hg fun y => List.not_lt_nil _ y.2) ?_
        repeat' decreasing_trivial_pre_omega
        rfl
    · rw [gt_map]
      rw [show List.filter (fun p => decide (l.getD (p + 1) 0 < l.getD p 0)) (evI (↑k) l (bwL l) 0) = evsL l k from rfl]
      cases evsL l k with
      | nil =>
        repeat' decreasing_trivial_pre_omega
        rfl
      | cons p r =>
        repeat' decreasing_trivial_pre_omega
        refine wAt_r (at_n (i := 0) (xs := nats (p :: r)) rfl) ?_
        repeat' decreasing_trivial_pre_omega
        rfl
/-- the steps from a text to one that has none -/
inductive Pth (k : Nat) : List Nat → List D → List Nat → Prop
  | nil {l : List Nat} (h : nxtStep l k = none) : Pth k l [] l
  | cons {l m z : List Nat} {d : D} {ds : List D} (h : nxtStep l k = some (d, m)) (t : Pth k m ds z) : Pth k l (d :: ds) z
theorem Tx.sub {l m : List Nat} (h : Tx l) (hs : ∀ c ∈ m, c ∈ l) : Tx m := fun c hc => h c (hs c hc)
theorem pth_ex (k : Nat) : ∀ (n : Nat) (l : List Nat), meas l ≤ n → l.length ≤ 100 → Tx l → ∃ ds z, Pth k l ds z ∧ ds.length ≤ n
  | 0, l, hn, hl, tl => by
    cases e : nxtStep l k with
    | none => exact ⟨[], l, .nil e, Nat.le_refl _⟩
    | some x =>
      obtain ⟨d, m⟩ := x
      have := (nxt_ok hl tl e).2.2.2.2
      omega
  | n + 1, l, hn, hl, tl => by
    cases e : nxtStep l k with
    | none => exact ⟨[], l, .nil e, Nat.zero_le _⟩
    | some x =>
      obtain ⟨d, m⟩ := x
      obtain ⟨_, _, h3, h4, h5⟩ := nxt_ok hl tl e
      obtain ⟨ds, z, hp, hd⟩ := pth_ex k n m (by omega) (by omega) (tl.sub h4)
      exact ⟨d :: ds, z, .cons e hp, by rw [List.length_cons]; omega⟩
theorem Pth.ends {k : Nat} {l z : List Nat} {ds : List D} (h : Pth k l ds z) : nxtStep z k = none := by
  induction h with
  | nil h => exact h
  | cons h t ih => exact ih
theorem Pth.alike {k : Nat} {l z : List Nat} {ds : List D} (h : Pth k l ds z) (hl : l.length ≤ 100) (tl : Tx l) : spL k l = spL k z ∧ z.length ≤ l.length ∧ ∀ c ∈ z, c ∈ l := by
  induction h with
  | nil h => exact ⟨rfl, Nat.le_refl _, fun c hc => hc⟩
  | cons h t ih =>
    obtain ⟨_, h2, h3, h4, _⟩ := nxt_ok hl tl h
    obtain ⟨g1, g2, g3⟩ := ih (by omega) (tl.sub h4)
    exact ⟨h2.trans g1, by omega, fun c hc => h4 c (g3 c hc)⟩
theorem Pth.uniq {k : Nat} {l z z' : List Nat} {ds ds' : List D} (h : Pth k l ds z) (h' : Pth k l ds' z') : ds = ds' ∧ z = z' := by
  induction h generalizing ds' z' with
  | nil h =>
    cases h' with
    | nil _ => exact ⟨rfl, rfl⟩
    | cons h2 _ => rw [h] at h2; cases h2
  | cons h t ih =>
    cases h' with
    | nil h2 => rw [h] at h2; cases h2
    | cons h2 t2 =>
      rw [h] at h2
      cases h2
      obtain ⟨e1, e2⟩ := ih t2
      exact ⟨by rw [e1], e2⟩
theorem nxt_isN {l m : List Nat} {k : Nat} {d : D} (h : nxtStep l k = some (d, m)) : isN d = false := by
  unfold nxtStep at h
  cases e : spsL l k with
  | cons p r => rw [e] at h; cases h; rfl
  | nil =>
    rw [e] at h
    dsimp only at h
    cases e2 : evsL l k with
    | nil => rw [e2] at h; cases h
    | cons p r => rw [e2] at h; cases h; rfl
theorem all_steps_R {l z : List Nat} {k : Nat} {ds : List D} (hl : l.length ≤ 100) (tl : Tx l) (h : Pth k l ds z) (hd : ds.length ≤ 20000) : Ret (F_all_steps [.str (tx l), .int (k : Nat)]) (.fz (.tuple [.list ds, .str (tx z)])) := by
  have hN : ∀ m : List Nat, m.length ≤ 100 → Tx m → Ret (F_next_step [.str (tx m), .int (k : Nat)]) (.fz (stD m k)) := fun m h1 h2 => next_step_R h1 h2
  have hA : ∀ (m : List Nat) (d : D) (m2 : List Nat), m.length ≤ 100 → Tx m → nxtStep m k = some (d, m2) → Ret (F_after [.str (tx m), .int (k : Nat), d]) (.fz (.str (tx m2))) := fun m d m2 h1 h2 e => (nxt_ok h1 h2 e).1.1
  unfold F_all_steps B_all_steps
  unfold all_steps_b2
  generalize F_next_step = F at hN ⊢
  generalize F_after = G at hA ⊢
  refine Ret.go ?_
  repeat' decreasing_trivial_pre_omega
  refine wF_ret (hN l hl tl) ?_
  repeat' decreasing_trivial_pre_omega
  refine wWhile_inv (fun n r => ∃ (acc rest : List D) (m : List Nat), acc ++ rest = ds ∧ Pth k m rest z ∧ m.length ≤ 100 ∧ Tx m ∧ n = rest.length ∧ r = ⟨[some (.fz (.str (tx l))), some (.fz (.int (k : Nat))), some (.ol acc), some (.fz (.str (tx m))), some (.fz (stD m k))], none⟩) (n := ds.length) (by unfold fuel; omega) ⟨[], ds, l, rfl, h, hl, tl, rfl, rfl⟩ ?_
  rintro n r ⟨acc, rest, m, e1, hp, hm, tm, rfl, rfl⟩
  unfold all_steps_t1
  have hacc : acc.length < sizeLine := by
    have := congrArg List.length e1
    rw [List.length_append] at this
    rw [sizeLine_eq]; omega
  cases hp with
  | nil e =>
    have es : stD z k = .none := by unfold stD; rw [e]
    rw [List.append_nil] at e1
    subst e1
    rw [es]
    repeat' decreasing_trivial_pre_omega
    rfl
  | cons e t =>
    rename_i m2 d rest2
    have es : stD m k = d := by unfold stD; rw [e]
    have g := nxt_ok hm tm e
    have gA := hA m d m2 hm tm e
    have gN := hN m2 (by omega) (tm.sub g.2.2.2.1)
    rw [es]
    repeat' decreasing_trivial_pre_omega
    refine wB_f (nxt_isN e) ⟨rest2.length, rfl, ?_⟩
    repeat' decreasing_trivial_pre_omega
    refine ⟨hacc, ?_⟩
    repeat' decreasing_trivial_pre_omega
    refine wF_ret gA ?_
    repeat' decreasing_trivial_pre_omega
    refine wF_ret gN ?_
    repeat' decreasing_trivial_pre_omega
    exact ⟨rest2.length, Nat.le_refl _, acc ++ [d], rest2, m2, by rw [List.append_assoc]; exact e1, t, by omega, tm.sub g.2.2.2.1, rfl, rfl⟩
end QM
namespace QM
open PySem PySem.Spec L2 QL QP
def Alk (k : Nat) (u v : List Nat) : Prop := ∀ w : List Nat, w.length ≤ k → (w.Sublist u ↔ w.Sublist v)
theorem Alk.symm {k : Nat} {u v : List Nat} (h : Alk k u v) : Alk k v u := fun w hw => (h w hw).symm
theorem Alk.trans {k : Nat} {u v z : List Nat} (h : Alk k u v) (h' : Alk k v z) : Alk k u z := fun w hw => (h w hw).trans (h' w hw)
theorem Alk.rev {k : Nat} {u v : List Nat} (h : Alk k u v) : Alk k u.reverse v.reverse := fun w hw => by
  have := h w.reverse (by rw [List.length_reverse]; exact hw)
  rw [← List.reverse_sublist, List.reverse_reverse] at this
  rw [this, ← List.reverse_sublist (l₂ := v), List.reverse_reverse]
abbrev yN (l : List Nat) (p : Nat) : Nat := wN l.reverse (l.length - 1 - p)
def Red (k : Nat) (l : List Nat) : Prop := ∀ p, p < l.length → wN l p + yN l p ≤ k + 1
theorem yN_rev {l : List Nat} {p : Nat} (h : p < l.length) : yN l.reverse p = wN l (l.length - 1 - p) := by
  unfold yN
  rw [List.reverse_reverse, List.length_reverse]
theorem yN_pos {l : List Nat} {p : Nat} (h : p < l.length) : 1 ≤ yN l p := wN_pos (by rw [List.length_reverse]; omega)
theorem Red.rev {k : Nat} {l : List Nat} (h : Red k l) : Red k l.reverse := fun p hp => by
  rw [List.length_reverse] at hp
  rw [yN_rev hp]
  have := h (l.length - 1 - p) (by omega)
  unfold yN at this
  rw [show l.length - 1 - (l.length - 1 - p) = p by omega] at this
  omega
theorem adv_min {l q : List Nat} {n m : Nat} (h : adv l q 0 = some n) (hm : q.Sublist (l.take m)) : n ≤ m := by
  obtain ⟨s, hs, e⟩ := adv_in_take hm
  rw [h] at e
  cases e
  exact hs
theorem adv_ex {l q : List Nat} (h : q.Sublist l) : ∃ n, adv l q 0 = some n := Option.isSome_iff_exists.mp ((adv_sub l q).mpr h)
theorem adv_is {l q : List Nat} {n : Nat} (h : adv l q 0 = some n) : q.Sublist l := (adv_sub l q).mp (by rw [h]; rfl)
theorem adv_ub {l q : List Nat} {n : Nat} (h : adv l q 0 = some n) : n ≤ l.length := (adv_le l q 0 n (Nat.zero_le _) h).2
theorem adv_end {l w : List Nat} {a n : Nat} (h : adv l (w ++ [a]) 0 = some n) : 1 ≤ n ∧ l[n - 1]? = some a := by
  rw [adv_snoc] at h
  cases e : adv l w 0 with
  | none => rw [e] at h; cases h
  | some s =>
    rw [e] at h
    change (nxt l a s).map (· + 1) = some n at h
    obtain ⟨j, e1, e2⟩ := Option.map_eq_some_iff.mp h
    subst e2
    exact ⟨by omega, (nxt_some e1).2.1⟩
theorem drop_at {l : List Nat} {n a : Nat} (h : l[n]? = some a) : l.drop n = a :: l.drop (n + 1) := by
  obtain ⟨hn, e⟩ := List.getElem?_eq_some_iff.mp h
  rw [List.drop_eq_getElem_cons hn, e]
theorem cat_iff {l w z : List Nat} {n m : Nat} (hw : adv l w 0 = some n) (hz : adv l.reverse z 0 = some m) : (w ++ z.reverse).Sublist l ↔ n + m ≤ l.length := by
  constructor
  · intro h
    obtain ⟨r1, r2, e, h1, h2⟩ := List.append_sublist_iff.mp h
    have k1 : n ≤ r1.length := adv_min hw (by rw [e, List.take_left']; exact h1; rfl)
    have k2 : m ≤ r2.length := adv_min hz (by
      rw [e, List.reverse_append, List.take_left' (by rw [List.length_reverse])]
      rw [← List.reverse_sublist, List.reverse_reverse]; exact h2)
    rw [e, List.length_append]
    omega
  · intro h
    have h1 := adv_take _ _ _ rfl hw
    have h2 := adv_take _ _ _ rfl hz
    rw [List.take_reverse] at h2
    have h3 : z.reverse.Sublist (l.drop (l.length - m)) := by rw [← List.reverse_sublist, List.reverse_reverse]; exact h2
    have h4 := h1.append (h3.trans (List.drop_sublist_drop_left l (show n ≤ l.length - m by omega)))
    rwa [List.take_append_drop] at h4
theorem mid_iff {l w z : List Nat} {a n m : Nat} (hw : adv l (w ++ [a]) 0 = some n) (hz : adv l.reverse (z ++ [a]) 0 = some m) : (w ++ a :: z.reverse).Sublist l ↔ n + m ≤ l.length + 1 := by
  obtain ⟨n1, n2⟩ := adv_end hw
  have n3 := adv_ub hw
  obtain ⟨m1, m2⟩ := adv_end hz
  have m3 := adv_ub hz
  rw [List.length_reverse] at m3
  have ew : w ++ a :: z.reverse = (w ++ [a]) ++ z.reverse := by rw [List.append_assoc]; rfl
  constructor
  · intro h
    rw [ew] at h
    obtain ⟨r1, r2, e, h1, h2⟩ := List.append_sublist_iff.mp h
    have k1 : n ≤ r1.length := adv_min hw (by rw [e, List.take_left']; exact h1; rfl)
    have e2 : r2 = l.drop r1.length := by rw [e, List.drop_left']; rfl
    rw [e2] at h2
    have h3 := h2.trans (List.drop_sublist_drop_left l k1)
    have h4 : (a :: z.reverse).Sublist (l.drop (n - 1)) := by
      rw [drop_at n2, show n - 1 + 1 = n by omega]
      exact h3.cons_cons a
    have k2 : m ≤ l.length - (n - 1) := adv_min hz (by
      rw [List.take_reverse, show l.length - (l.length - (n - 1)) = n - 1 by omega, ← List.reverse_sublist, List.reverse_reverse, List.reverse_append]
      exact h4)
    omega
  · intro h
    have h1 := adv_take _ _ _ rfl hw
    have h2 := adv_take _ _ _ rfl hz
    rw [List.take_reverse] at h2
    have h3 : (a :: z.reverse).Sublist (l.drop (l.length - m)) := by
      rw [← List.reverse_sublist, List.reverse_cons, List.reverse_reverse]; exact h2
    have h4 := h3.tail
    rw [List.tail_drop] at h4
    have h5 := h1.append (h4.trans (List.drop_sublist_drop_left l (show n ≤ l.length - m + 1 by omega)))
    rw [List.take_append_drop] at h5
    rw [ew]
    exact h5
theorem wN_ex' {l : List Nat} {p : Nat} (h : p < l.length) : ∃ w : List Nat, w.length + 1 = wN l p ∧ adv l (w ++ [l.getD p 0]) 0 = some (p + 1) := by
  obtain ⟨q, h1, h2⟩ := wN_ex h
  rcases snoc_cases q with rfl | ⟨w, c, rfl⟩
  · cases h2
  · have h3 := (adv_end h2).2
    have hc : c = l.getD p 0 := by
      rw [show p + 1 - 1 = p by omega, getD_some h] at h3
      exact (Option.some.inj h3).symm
    subst hc
    exact ⟨w, by rw [← h1]; simp, h2⟩
theorem yN_ex' {l : List Nat} {p : Nat} (h : p < l.length) : ∃ z : List Nat, z.length + 1 = yN l p ∧ adv l.reverse (z ++ [l.getD p 0]) 0 = some (l.length - p) := by
  obtain ⟨z, h1, h2⟩ := wN_ex' (l := l.reverse) (p := l.length - 1 - p) (by rw [List.length_reverse]; omega)
  rw [rev_getD h, show l.length - 1 - p + 1 = l.length - p by omega] at h2
  exact ⟨z, h1, h2⟩
abbrev cnt (a : Nat) (l : List Nat) (n : Nat) : Nat := (l.take n).count a
theorem cnt_succ {a n : Nat} {l : List Nat} : cnt a l (n + 1) = cnt a l n + if l[n]? = some a then 1 else 0 := by
  unfold cnt
  rw [List.take_add_one, List.count_append]
  cases e : l[n]? with
  | none => simp
  | some b =>
    by_cases h : b = a
    · subst h; simp
    · have : ¬ (some b = some a) := fun z => h (Option.some.inj z)
      simp [h, this]
theorem cnt_mono {a n m : Nat} {l : List Nat} (h : n ≤ m) : cnt a l n ≤ cnt a l m := (List.take_sublist_take_left h).count_le a
theorem cnt_lt {a n m : Nat} {l : List Nat} (e : l[n]? = some a) (h : n < m) : cnt a l n + 1 ≤ cnt a l m := by
  have := cnt_mono (a := a) (l := l) (show n + 1 ≤ m from h)
  rw [cnt_succ, if_pos e] at this
  exact this
theorem cnt_prv {a : Nat} {l : List Nat} : ∀ {n p : Nat}, prv l a n = some p → cnt a l n = cnt a l p + 1
  | 0, p, h => by cases h
  | n + 1, p, h => by
    unfold prv at h
    rw [cnt_succ]
    by_cases e : l[n]? = some a
    · rw [if_pos e] at h ⊢
      cases h
      rfl
    · rw [if_neg e] at h ⊢
      exact cnt_prv h
theorem cnt_none {a : Nat} {l : List Nat} : ∀ {n : Nat}, prv l a n = none → cnt a l n = 0
  | 0, h => by simp [cnt]
  | n + 1, h => by
    unfold prv at h
    rw [cnt_succ]
    by_cases e : l[n]? = some a
    · rw [if_pos e] at h; cases h
    · rw [if_neg e] at h ⊢
      exact cnt_none h
/-- as many of the letter ahead, at least -/
theorem left_chain {k : Nat} {u v : List Nat} (h : Alk k u v) (hr : Red k u) : ∀ p, p < u.length → ∃ w n, w.length + 1 = wN u p ∧ adv u (w ++ [u.getD p 0]) 0 = some (p + 1) ∧ adv v (w ++ [u.getD p 0]) 0 = some n ∧ cnt (u.getD p 0) u p ≤ cnt (u.getD p 0) v (n - 1) := by
  intro p
  induction p using Nat.strongRecOn with
  | ind p ih =>
    intro hp
    have hxy := hr p hp
    have hy := yN_pos hp
    generalize ea : u.getD p 0 = a
    have ua : u[p]? = some a := by rw [← ea]; exact getD_some hp
    cases e : prv u a p with
    | none =>
      obtain ⟨w, hw, ha⟩ := wN_ex' hp
      rw [ea] at ha
      obtain ⟨n, hn⟩ := adv_ex ((h (w ++ [a]) (by rw [List.length_append, List.length_singleton]; omega)).mp (adv_is ha))
      exact ⟨w, n, hw, ha, hn, by rw [cnt_none e]; exact Nat.zero_le _⟩
    | some p0 =>
      obtain ⟨h1, h2, h3⟩ := prv_some e
      have hp0 : p0 < u.length := by omega
      have ea0 : u.getD p0 0 = a := by rw [getD_some hp0] at h2; exact Option.some.inj h2
      obtain ⟨w0, n0, hw0, a0, b0, c0⟩ := ih p0 h1 hp0
      have hxy0 := hr p0 hp0
      have hx0 := wN_pos hp0
      have hy0 := yN_pos hp0
      obtain ⟨z0, hz0, az0⟩ := yN_ex' hp0
      rw [ea0] at a0 b0 c0 az0
      have hn0 := adv_end b0
      rw [cnt_prv e]
      have fin : ∀ n, n0 < n → cnt a u p0 + 1 ≤ cnt a v (n - 1) := fun n hn => Nat.le_trans (Nat.succ_le_succ c0) (cnt_lt hn0.2 (by omega))
      by_cases hc : wN u p + yN u p0 ≤ k + 1
      · obtain ⟨w, hw, ha⟩ := wN_ex' hp
        rw [ea] at ha
        obtain ⟨n, hn⟩ := adv_ex ((h (w ++ [a]) (by rw [List.length_append, List.length_singleton]; omega)).mp (adv_is ha))
        obtain ⟨m, hm⟩ := adv_ex ((h.rev (z0 ++ [a]) (by rw [List.length_append, List.length_singleton]; omega)).mp (adv_is az0))
        have nu : ¬ (w ++ a :: z0.reverse).Sublist u := by rw [mid_iff ha az0]; omega
        have nv : ¬ (w ++ a :: z0.reverse).Sublist v := fun z => nu ((h _ (by simp only [List.length_append, List.length_cons, List.length_reverse]; omega)).mpr z)
        rw [mid_iff hn hm] at nv
        have su : (w0 ++ a :: z0.reverse).Sublist u := (mid_iff a0 az0).mpr (by omega)
        have sv := (h _ (by simp only [List.length_append, List.length_cons, List.length_reverse]; omega)).mp su
        rw [mid_iff b0 hm] at sv
        exact ⟨w, n, hw, ha, hn, fin n (by omega)⟩
      · have hadv : adv u ((w0 ++ [a]) ++ [a]) 0 = some (p + 1) := by
          rw [adv_snoc, a0]
          show (nxt u a (p0 + 1)).map (· + 1) = _
          rw [nxt_is (show p0 + 1 ≤ p by omega) ua fun j q1 q2 => h3 j (by omega) q2]
          rfl
        have hx := wN_le hp hadv
        simp only [List.length_append, List.length_singleton] at hx
        obtain ⟨n, hn⟩ := adv_ex ((h ((w0 ++ [a]) ++ [a]) (by simp only [List.length_append, List.length_singleton]; omega)).mp (adv_is hadv))
        have hlt : n0 < n := by
          have hn' := hn
          rw [adv_snoc, b0] at hn'
          change (nxt v a n0).map (· + 1) = some n at hn'
          obtain ⟨j, e1, e2⟩ := Option.map_eq_some_iff.mp hn'
          have := (nxt_some e1).1
          omega
        exact ⟨w0 ++ [a], n, by simp only [List.length_append, List.length_singleton]; omega, hadv, hn, fin n hlt⟩
theorem count_leA {k : Nat} {u v : List Nat} (h : Alk k u v) (hr : Red k u) (a : Nat) : u.count a ≤ v.count a := by
  have eu : cnt a u u.length = u.count a := by unfold cnt; rw [List.take_length]
  have ev : cnt a v v.length = v.count a := by unfold cnt; rw [List.take_length]
  cases e : prv u a u.length with
  | none =>
    have := cnt_none e
    omega
  | some p =>
    obtain ⟨h1, h2, h3⟩ := prv_some e
    have ea : u.getD p 0 = a := by rw [getD_some h1] at h2; exact Option.some.inj h2
    obtain ⟨w, n, _, _, hb, hc⟩ := left_chain h hr p h1
    rw [ea] at hb hc
    have hn := adv_end hb
    have hu := adv_ub hb
    have := cnt_lt (m := v.length) hn.2 (by omega)
    have := cnt_prv e
    omega
theorem count_eqA {k : Nat} {u v : List Nat} (h : Alk k u v) (hu : Red k u) (hv : Red k v) (a : Nat) : u.count a = v.count a :=
  Nat.le_antisymm (count_leA h hu a) (count_leA h.symm hv a)
theorem len_eqA {k : Nat} {u v : List Nat} (h : Alk k u v) (hu : Red k u) (hv : Red k v) : u.length = v.length :=
  (List.perm_iff_count.mpr (count_eqA h hu hv)).length_eq
theorem cnt_rev {a n : Nat} {l : List Nat} (h : n ≤ l.length) : cnt a l.reverse n = l.count a - cnt a l (l.length - n) := by
  unfold cnt
  rw [List.take_reverse, List.count_reverse]
  have := congrArg (List.count a) (List.take_append_drop (l.length - n) l)
  rw [List.count_append] at this
  omega
/-- the place in the other text -/
structure Cor (k : Nat) (u v : List Nat) (p r : Nat) : Prop where
  lt : r < v.length
  le : v.getD r 0 = u.getD p 0
  ct : cnt (u.getD p 0) v r = cnt (u.getD p 0) u p
  wx : ∃ w, w.length + 1 = wN u p ∧ adv u (w ++ [u.getD p 0]) 0 = some (p + 1) ∧ adv v (w ++ [u.getD p 0]) 0 = some (r + 1)
  zx : ∃ z, z.length + 1 = yN u p ∧ adv u.reverse (z ++ [u.getD p 0]) 0 = some (u.length - p) ∧ adv v.reverse (z ++ [u.getD p 0]) 0 = some (v.length - r)
theorem cor_ex {k : Nat} {u v : List Nat} (h : Alk k u v) (hu : Red k u) (hv : Red k v) {p : Nat} (hp : p < u.length) : ∃ r, Cor k u v p r := by
  obtain ⟨w, n, hw, wa, wb, wc⟩ := left_chain h hu p hp
  have hl := len_eqA h hu hv
  obtain ⟨z, m, hz, za, zb, zc⟩ := left_chain h.rev hu.rev (u.length - 1 - p) (by rw [List.length_reverse]; omega)
  rw [rev_getD hp] at za zb zc
  have hz : z.length + 1 = yN u p := hz
  generalize ea : u.getD p 0 = a at *
  have ua : u[p]? = some a := by rw [← ea]; exact getD_some hp
  rw [show u.length - 1 - p + 1 = u.length - p by omega] at za
  obtain ⟨n1, n2⟩ := adv_end wb
  obtain ⟨m1, m2⟩ := adv_end zb
  have n3 := adv_ub wb
  have m3 := adv_ub zb
  rw [List.length_reverse] at m3
  have hxy := hu p hp
  have su : (w ++ a :: z.reverse).Sublist u := (mid_iff wa za).mpr (by omega)
  have sv := (h _ (by simp only [List.length_append, List.length_cons, List.length_reverse]; omega)).mp su
  rw [mid_iff wb zb] at sv
  have vr : v[v.length - m]? = some a := by
    rw [List.getElem?_reverse (by omega)] at m2
    rw [← m2]
    congr 1
    omega
  rw [cnt_rev (by omega), cnt_rev (by omega), count_eqA h hu hv a] at zc
  have e1 : u.length - (u.length - 1 - p) = p + 1 := by omega
  have e2 : v.length - (m - 1) = v.length - m + 1 := by omega
  rw [e1, e2, cnt_succ, cnt_succ, if_pos ua, if_pos vr] at zc
  have c1 := cnt_lt (m := v.length) vr (by omega)
  have c2 : cnt a v v.length = v.count a := by unfold cnt; rw [List.take_length]
  have c3 : cnt a v (n - 1) ≤ cnt a v (v.length - m) := cnt_mono (by omega)
  have c5 := cnt_lt (m := u.length) ua hp
  have c6 : cnt a u u.length = v.count a := by rw [← count_eqA h hu hv a]; unfold cnt; rw [List.take_length]
  have c4 : cnt a v (v.length - m) ≤ cnt a u p := by omega
  have en : n - 1 = v.length - m := by
    refine Nat.le_antisymm (by omega) (Nat.le_of_not_lt fun z => ?_)
    have := cnt_lt (a := a) (l := v) n2 z
    omega
  refine ⟨n - 1, by omega, ?_, by rw [ea]; omega, ⟨w, hw, by rw [ea]; exact wa, by rw [ea, show n - 1 + 1 = n by omega]; exact wb⟩, ⟨z, hz, by rw [ea]; exact za, by rw [ea, show v.length - (n - 1) = m by omega]; exact zb⟩⟩
  rw [getD_some (show n - 1 < v.length by omega)] at n2
  rw [ea]
  exact Option.some.inj n2
end QM
namespace QM
open PySem PySem.Spec L2 QL QP
theorem same_place {l : List Nat} {a p r : Nat} (hp : l[p]? = some a) (hr : l[r]? = some a) (h : cnt a l p = cnt a l r) : p = r := by
  rcases Nat.lt_trichotomy p r with z | z | z
  · have := cnt_lt hp z; omega
  · exact z
  · have := cnt_lt hr z; omega
theorem Cor.uniq {k : Nat} {u v : List Nat} {p r r' : Nat} (h : Cor k u v p r) (h' : Cor k u v p r') : r = r' :=
  same_place (getD_some h.lt) (by rw [getD_some h'.lt, h'.le, h.le]) (by rw [h.le, h.ct, h'.ct])
theorem Cor.inj {k : Nat} {u v : List Nat} {p p' r : Nat} (hp : p < u.length) (hp' : p' < u.length) (h : Cor k u v p r) (h' : Cor k u v p' r) : p = p' := by
  have e : u.getD p 0 = u.getD p' 0 := by rw [← h.le, ← h'.le]
  refine same_place (getD_some hp) (by rw [getD_some hp', e]) ?_
  rw [← h.ct, e, ← h'.ct]
theorem Cor.symm {k : Nat} {u v : List Nat} {p r : Nat} (h : Alk k u v) (hu : Red k u) (hv : Red k v) (hp : p < u.length) (c : Cor k u v p r) : Cor k v u r p := by
  obtain ⟨p', c'⟩ := cor_ex h.symm hv hu c.lt
  have : p' = p := same_place (l := u) (a := u.getD p 0) (by rw [getD_some c'.lt, c'.le, c.le]) (getD_some hp) (by
    have := c'.ct
    rw [c.le] at this
    rw [this, c.ct])
  rw [← this]
  exact c'
theorem Cor.le_w {k : Nat} {u v : List Nat} {p r : Nat} (c : Cor k u v p r) : wN v r ≤ wN u p ∧ yN v r ≤ yN u p := by
  obtain ⟨w, h1, h2, h3⟩ := c.wx
  obtain ⟨z, g1, g2, g3⟩ := c.zx
  have k1 := wN_le c.lt h3
  have k2 := wN_le (l := v.reverse) (i := v.length - 1 - r) (by rw [List.length_reverse]; have := c.lt; omega) (q := z ++ [u.getD p 0]) (by rw [g3]; congr 1; have := c.lt; omega)
  simp only [List.length_append, List.length_singleton] at k1 k2
  exact ⟨by omega, by show wN v.reverse (v.length - 1 - r) ≤ _; omega⟩
theorem Cor.eq_w {k : Nat} {u v : List Nat} {p r : Nat} (h : Alk k u v) (hu : Red k u) (hv : Red k v) (hp : p < u.length) (c : Cor k u v p r) : wN v r = wN u p ∧ yN v r = yN u p := by
  have h1 := c.le_w
  have h2 := (c.symm h hu hv hp).le_w
  omega
theorem cor_inv {k : Nat} {u v : List Nat} {p p' r r' : Nat} (h : Alk k u v) (hu : Red k u) (hp' : p' < u.length) (c : Cor k u v p r) (c' : Cor k u v p' r') (h1 : p < p') (h2 : r' < r) :
    wN u p = wN u p' ∧ yN u p = yN u p' ∧ wN u p + yN u p = k + 1 := by
  obtain ⟨w, a1, a2, a3⟩ := c.wx
  obtain ⟨z, b1, b2, b3⟩ := c.zx
  obtain ⟨w', a1', a2', a3'⟩ := c'.wx
  obtain ⟨z', b1', b2', b3'⟩ := c'.zx
  have l1 := c.lt
  have l2 := c'.lt
  have x1 := hu p (by omega)
  have x2 := hu p' hp'
  have s1 : k < wN u p' + yN u p := Nat.lt_of_not_le fun hk => by
    have sv := (cat_iff a3' b3).mpr (by omega)
    have su := (h _ (by simp only [List.length_append, List.length_reverse, List.length_singleton]; omega)).mpr sv
    rw [cat_iff a2' b2] at su
    omega
  have s2 : k < wN u p + yN u p' := Nat.lt_of_not_le fun hk => by
    have su := (cat_iff a2 b2').mpr (by omega)
    have sv := (h _ (by simp only [List.length_append, List.length_reverse, List.length_singleton]; omega)).mp su
    rw [cat_iff a3 b3'] at sv
    omega
  omega
structure Norm (k : Nat) (l : List Nat) : Prop where
  rd : Red k l
  sd : ∀ p, p + 1 < l.length → wN l p = wN l (p + 1) → yN l p = yN l (p + 1) → wN l p + yN l p = k + 1 → l.getD p 0 ≤ l.getD (p + 1) 0
theorem no_inv {k : Nat} {u v : List Nat} (h : Alk k u v) (hu : Norm k u) (hv : Norm k v) : ∀ d p r r', p + d < u.length → Cor k u v p r → Cor k u v (p + d) r' → ¬ r' < r := by
  intro d
  induction d using Nat.strongRecOn with
  | ind d ih =>
    intro p r r' hd c c' hlt
    rcases Nat.lt_or_ge d 2 with hd2 | hd2
    · rcases Nat.lt_or_ge d 1 with hd1 | hd1
      · have : d = 0 := by omega
        subst this
        have := c.uniq c'
        omega
      · have : d = 1 := by omega
        subst this
        have cl := cor_inv h hu.rd hd c c' (by omega) hlt
        have hs := hu.sd p hd cl.1 cl.2.1 cl.2.2
        have same : ∀ t, r' ≤ t → t ≤ r → wN v t = wN u p ∧ yN v t = yN u p := fun t t1 t2 => by
          have htv : t < v.length := by have := c.lt; omega
          obtain ⟨s, cs⟩ := cor_ex h.symm hv.rd hu.rd htv
          have cs2 := cs.symm h.symm hv.rd hu.rd htv
          have hsu := cs.lt
          have e := cs2.eq_w h hu.rd hv.rd hsu
          rcases Nat.lt_trichotomy s p with z | z | z
          · have : t ≠ r' := fun y => by
              subst y
              have := cs2.inj hsu hd c'
              omega
            have := cor_inv h hu.rd hd cs2 c' (by omega) (by omega)
            omega
          · subst z; exact e
          · by_cases z2 : s = p + 1
            · subst z2; omega
            · have : t ≠ r := fun y => by
                subst y
                have := cs2.inj hsu (by omega) c
                omega
              have := cor_inv h hu.rd hsu c cs2 (by omega) (by omega)
              omega
        have up : ∀ n, r' + n ≤ r → v.getD r' 0 ≤ v.getD (r' + n) 0 := fun n => by
          induction n with
          | zero => exact fun _ => Nat.le_refl _
          | succ n ihn =>
            intro hn
            have := c.lt
            have i1 := ihn (by omega)
            have e1 := same (r' + n) (by omega) (by omega)
            have e2 := same (r' + n + 1) (by omega) (by omega)
            have i2 := hv.sd (r' + n) (by omega) (by omega) (by omega) (by omega)
            exact Nat.le_trans i1 i2
        have hup := up (r - r') (by omega)
        rw [show r' + (r - r') = r by omega, c.le, c'.le] at hup
        have ee : u.getD p 0 = u.getD (p + 1) 0 := Nat.le_antisymm hs hup
        have k1 := cnt_lt (l := u) (getD_some (show p < u.length by omega)) (show p < p + 1 by omega)
        have k2 := cnt_lt (l := v) (getD_some c'.lt) hlt
        have k3 := c.ct
        have k4 := c'.ct
        rw [c'.le] at k2
        rw [← ee] at k2 k4
        omega
    · obtain ⟨t, ct⟩ := cor_ex h hu.rd hv.rd (show p + 1 < u.length by omega)
      have n1 := ih 1 (by omega) p r t (by omega) c ct
      have n2 : t ≠ r := fun y => by
        subst y
        have := ct.inj (by omega) (by omega) c
        omega
      exact ih (d - 1) (by omega) (p + 1) t r' (by omega) ct (by rw [show p + 1 + (d - 1) = p + d by omega]; exact c') (by omega)
theorem cor_up {k : Nat} {u v : List Nat} (h : Alk k u v) (hu : Norm k u) (hv : Norm k v) : ∀ p r, p < u.length → Cor k u v p r → p ≤ r
  | 0, r, _, _ => Nat.zero_le _
  | p + 1, r, hp, c => by
    obtain ⟨r0, c0⟩ := cor_ex h hu.rd hv.rd (show p < u.length by omega)
    have i := cor_up h hu hv p r0 (by omega) c0
    have n1 := no_inv h hu hv 1 p r0 r hp c0 c
    have n2 : r ≠ r0 := fun y => by
      subst y
      have := c.inj hp (by omega) c0
      omega
    omega
theorem norm_uniq {k : Nat} {u v : List Nat} (h : Alk k u v) (hu : Norm k u) (hv : Norm k v) : u = v := by
  have hl := len_eqA h hu.rd hv.rd
  refine List.ext_getElem hl fun p h1 h2 => ?_
  obtain ⟨r, c⟩ := cor_ex h hu.rd hv.rd h1
  have a1 := cor_up h hu hv p r h1 c
  have a2 := cor_up h.symm hv hu r p c.lt (c.symm h hu.rd hv.rd h1)
  have : r = p := by omega
  subst this
  have e := c.le
  rw [List.getD_eq_getElem?_getD, List.getD_eq_getElem?_getD, List.getElem?_eq_getElem h1, List.getElem?_eq_getElem h2] at e
  exact e.symm
theorem alk_iff {k : Nat} {u v : List Nat} : spL k u = spL k v ↔ Alk k u v := by
  constructor
  · intro e w hw
    have h1 := spL_mem (k := k) (l := u) (p := w)
    have h2 := spL_mem (k := k) (l := v) (p := w)
    rw [e] at h1
    constructor
    · exact fun z => (h2.mp (h1.mpr ⟨hw, z⟩)).2
    · exact fun z => (h1.mp (h2.mpr ⟨hw, z⟩)).2
  · intro h
    refine asc_ext (spL_asc _ _) (spL_asc _ _) fun q => ?_
    rw [spL_mem, spL_mem]
    exact ⟨fun z => ⟨z.1, (h q z.1).mp z.2⟩, fun z => ⟨z.1, (h q z.1).mpr z.2⟩⟩
theorem norm_of {l : List Nat} {k : Nat} (h : nxtStep l k = none) : Norm k l := by
  unfold nxtStep at h
  split at h
  · cases h
  · rename_i e1
    split at h
    · cases h
    · rename_i e2
      have h1 : ∀ p, p ∉ spsL l k := fun p hp => by rw [e1] at hp; cases hp
      have h2 : ∀ p, p ∉ evsL l k := fun p hp => by rw [e2] at hp; cases hp
      constructor
      · intro p hp
        have := h1 p
        unfold spsL at this
        rw [spI_iff] at this
        exact Nat.le_of_not_lt fun z => this ⟨hp, z⟩
      · intro p hp x y s
        have := h2 p
        unfold evsL at this
        rw [List.mem_filter, evI_iff, decide_eq_true_eq] at this
        refine Nat.le_of_not_lt fun z => this ⟨⟨hp, x, y, s, fun e => ?_⟩, z⟩
        rw [e] at z
        exact Nat.lt_irrefl _ z
end QM
namespace QM
open PySem PySem.Spec L2 QL QP
local macro_rules | `(tactic| decreasing_trivial_pre_omega) => `(tactic| first
  | apply QM.Step.go
  | refine ⟨rfl, ?_⟩
  | refine ⟨⟨rfl, rfl⟩, ?_⟩
  | refine ⟨_, rfl, ?_⟩
  | refine ⟨_, _, rfl, ?_⟩
  | refine ⟨_, _, _, rfl, ?_⟩
  | refine ⟨Nat.le_of_ble_eq_true rfl, ?_⟩
  | refine ⟨szb' (by omega), ?_⟩
  | refine ⟨szb' (by simp only [List.length_append, List.length_take, List.length_drop, List.length_reverse, List.length_cons, List.length_nil]; omega), ?_⟩
  | refine wAt_r rfl ?_
  | refine wB_t rfl ?_
  | refine wB_f rfl ?_)
def fineS (d : D) : Bool := sml d && okStep d
theorem fT {ds : List D} (h : ∀ d ∈ ds, tiny d = true) (hl : ds.length ≤ 9) (ho : okStep (.tuple ds) = true) : fineS (.tuple ds) = true := by
  unfold fineS
  rw [sml_tup h hl, ho]; rfl
instance : OfS "c" [99] := ⟨by decide +kernel⟩
instance : OfS "{" [123] := ⟨by decide +kernel⟩
instance : OfS "`" [96] := ⟨by decide +kernel⟩
instance : OfS "gone" [103, 111, 110, 101] := ⟨by decide +kernel⟩
instance : OfS "step" [115, 116, 101, 112] := ⟨by decide +kernel⟩
end QM
namespace QM
open PySem PySem.Spec L2 QL QP
def wds (A : List Nat) : Nat → List (List Nat)
  | 0 => [[]]
  | n + 1 => (wds A n).flatMap fun w => A.map fun c => w ++ [c]
def mis (l A : List Nat) (s n : Nat) : List (List Nat) := (wds A n).filter fun w => (adv l w s).isNone
/-- the length of the least missing words behind s -/
def szF (l A : List Nat) (s : Nat) : Nat := ((List.range (l.length + 2)).find? fun n => !(mis l A s n).isEmpty).getD 0
def mnF (l A : List Nat) (s : Nat) : Nat := (mis l A s (szF l A s)).length
def bnd (l A : List Nat) (s c : Nat) : Nat × Nat := match nxt l c s with
  | none => (1, 1)
  | some k => (szF l A (k + 1) + 1, mnF l A (k + 1))
end QM
namespace QM
open PySem PySem.Spec L2 QL QP
end QM
namespace QM
open PySem PySem.Spec L2 QL QP
end QM
namespace QM
open PySem PySem.Spec L2 QL QP
local macro_rules | `(tactic| decreasing_trivial_pre_omega) => `(tactic| first
  | apply QM.Step.go
  | refine ⟨rfl, ?_⟩
  | refine ⟨⟨rfl, rfl⟩, ?_⟩
  | refine ⟨_, rfl, ?_⟩
  | refine ⟨_, _, rfl, ?_⟩
  | refine ⟨_, _, _, rfl, ?_⟩
  | refine ⟨Nat.le_of_ble_eq_true rfl, ?_⟩
  | refine And.intro (szb' (by omega)) ?_
  | refine wAt_r rfl ?_
  | refine wB_t rfl ?_
  | refine wB_f rfl ?_)
def pairN (p : Nat × Nat) : D := .tuple [.int (p.1 : Nat), .int (p.2 : Nat)]
abbrev prs (l A : List Nat) (s : Nat) : List D := A.map fun c => pairN (bnd l A s c)
end QM
namespace QM
open PySem PySem.Spec L2 QL QP
local macro_rules | `(tactic| decreasing_trivial_pre_omega) => `(tactic| first
  | apply QM.Step.go
  | refine ⟨rfl, ?_⟩
  | refine ⟨⟨rfl, rfl⟩, ?_⟩
  | refine ⟨_, rfl, ?_⟩
  | refine ⟨_, _, rfl, ?_⟩
  | refine ⟨_, _, _, rfl, ?_⟩
  | refine ⟨Nat.le_of_ble_eq_true rfl, ?_⟩
  | refine And.intro (szb' (by omega)) ?_
  | refine wAt_r rfl ?_
  | refine wB_t rfl ?_
  | refine wB_f rfl ?_)
end QM
namespace QM
open PySem PySem.Spec L2 QL QP
local macro_rules | `(tactic| decreasing_trivial_pre_omega) => `(tactic| first
  | apply QM.Step.go
  | refine ⟨rfl, ?_⟩
  | refine ⟨⟨rfl, rfl⟩, ?_⟩
  | refine ⟨_, rfl, ?_⟩
  | refine ⟨_, _, rfl, ?_⟩
  | refine ⟨_, _, _, rfl, ?_⟩
  | refine ⟨Nat.le_of_ble_eq_true rfl, ?_⟩
  | refine ⟨⟨Nat.le_of_ble_eq_true rfl, by decide, by decide⟩, ?_⟩
  | refine wAt_r rfl ?_
  | refine wB_t rfl ?_
  | refine wB_f rfl ?_)
theorem mustTP_R {d : D} (h : Good d) : Ret (F_must_be_text [d]) (.fz .none) := by
  refine Ret.go ?_
  unfold B_must_be_text
  repeat' decreasing_trivial_pre_omega
  refine wF_ret h ?_
  repeat' decreasing_trivial_pre_omega
  rfl
theorem mustKP_R {k : Nat} : Ret (F_must_be_reach [.int (k : Nat)]) (.fz .none) := by
  refine Ret.go ?_
  unfold B_must_be_reach
  repeat' decreasing_trivial_pre_omega
  rfl
end QM
namespace QM
open PySem PySem.Spec L2 QL QP
local macro_rules | `(tactic| decreasing_trivial_pre_omega) => `(tactic| first
  | apply QM.Step.go
  | refine ⟨rfl, ?_⟩
  | refine ⟨⟨rfl, rfl⟩, ?_⟩
  | refine ⟨_, rfl, ?_⟩
  | refine ⟨_, _, rfl, ?_⟩
  | refine ⟨_, _, _, rfl, ?_⟩
  | refine ⟨Nat.le_of_ble_eq_true rfl, ?_⟩
  | refine And.intro (szb' (by omega)) ?_
  | refine wAt_r rfl ?_
  | refine wB_t rfl ?_
  | refine wB_f rfl ?_)
theorem shortestP_R {l z : List Nat} {k : Nat} {ds : List D} (hl : l.length ≤ 100) (tl : Tx l) (h : Pth k l ds z) (hd : ds.length ≤ 20000) : Ret (F_shortest [.str (tx l), .int (k : Nat)]) (.fz (.str (tx z))) := by
  have h1 := all_steps_R hl tl h hd
  have h2 := mustTP_R (good_tx (by omega) tl)
  have h3 := @mustKP_R k
  unfold F_shortest B_shortest
  generalize F_all_steps = F at h1 ⊢
  generalize F_must_be_text = G at h2 ⊢
  generalize F_must_be_reach = E at h3 ⊢
  refine Ret.go ?_
  repeat' decreasing_trivial_pre_omega
  refine wF_ret h2 ?_
  repeat' decreasing_trivial_pre_omega
  refine wF_ret h3 ?_
  repeat' decreasing_trivial_pre_omega
  refine wF_ret h1 ?_
  repeat' decreasing_trivial_pre_omega
  rfl
end QM
namespace QM
open PySem PySem.Spec L2 QL QP
local macro_rules | `(tactic| decreasing_trivial_pre_omega) => `(tactic| first
  | apply QM.Step.go
  | refine ⟨rfl, ?_⟩
  | refine ⟨⟨rfl, rfl⟩, ?_⟩
  | refine ⟨_, rfl, ?_⟩
  | refine ⟨_, _, rfl, ?_⟩
  | refine ⟨_, _, _, rfl, ?_⟩
  | refine ⟨Nat.le_of_ble_eq_true rfl, ?_⟩
  | refine wAt_r rfl ?_
  | refine wB_t rfl ?_
  | refine wB_f rfl ?_)
/-- less: shorter, or as long and ahead -/
def ltS (p q : List Nat) : Prop := p.length < q.length ∨ (p.length = q.length ∧ p < q)
theorem ltS_trans {p q r : List Nat} (h : ltS p q) (h' : ltS q r) : ltS p r := by
  rcases h with h | ⟨h, z⟩ <;> rcases h' with h' | ⟨h', z'⟩
  · exact .inl (by omega)
  · exact .inl (by omega)
  · exact .inl (by omega)
  · exact .inr ⟨by omega, List.lt_trans z z'⟩
theorem lex_put {b a : Nat} {X Y : List Nat} (h : b < a) : ∀ A : List Nat, A ++ b :: X < A ++ a :: Y
  | [] => List.cons_lt_cons_iff.mpr (.inl h)
  | c :: A => List.cons_lt_cons_iff.mpr (.inr ⟨rfl, lex_put h A⟩)
theorem nxt_gen {l : List Nat} {k : Nat} {d : D} {m : List Nat} (h : nxtStep l k = some (d, m)) : Alk k l m ∧ m.length ≤ l.length ∧ (∀ c ∈ m, c ∈ l) ∧ meas m < meas l ∧ ltS m l := by
  unfold nxtStep at h
  cases e : spsL l k with
  | cons p r =>
    rw [e] at h
    cases h
    have hp : p ∈ spI (k : Int) (bwL l) 0 := by
      show p ∈ spsL l k
      rw [e]; exact List.mem_cons_self ..
    obtain ⟨h1, h2⟩ := spare_alike hp
    have e1 : l = l.take p ++ l.getD p 0 :: l.drop (p + 1) := by
      have := List.take_append_drop p l
      rw [List.drop_eq_getElem_cons h1] at this
      rw [List.getD_eq_getElem?_getD, List.getElem?_eq_getElem h1]
      exact this.symm
    have hl : (l.take p ++ l.drop (p + 1)).length < l.length := by rw [List.length_append, List.length_take, List.length_drop]; omega
    refine ⟨alk_iff.mp h2, by omega, fun c hc => ?_, ?_, .inl hl⟩
    · rcases List.mem_append.mp hc with hc | hc
      · exact List.mem_of_mem_take hc
      · exact List.mem_of_mem_drop hc
    · have h3 := inv_out (l.getD p 0) (l.drop (p + 1)) (l.take p)
      rw [← e1] at h3
      unfold meas
      rw [List.length_append, List.length_take, List.length_drop]
      omega
  | nil =>
    rw [e] at h
    dsimp only at h
    cases e2 : evsL l k with
    | nil => rw [e2] at h; cases h
    | cons p r =>
      rw [e2] at h
      cases h
      have hp : p ∈ evsL l k := by rw [e2]; exact List.mem_cons_self ..
      obtain ⟨hp1, hp2⟩ := List.mem_filter.mp hp
      have hE := evI_iff.mp hp1
      have hlt := of_decide_eq_true hp2
      have e3 := two_at hE.1
      have hlen : (swp l p).length = l.length := by
        have := congrArg List.length e3
        unfold swp
        simp only [List.length_append, List.length_cons] at this ⊢
        omega
      refine ⟨alk_iff.mp (swap_alike hE), by omega, fun c hc => ?_, ?_, .inr ⟨hlen, ?_⟩⟩
      · have hq : (swp l p).Perm l := by
          conv => rhs; rw [e3]
          exact List.Perm.append_left _ (List.Perm.swap ..)
        exact hq.mem_iff.mp hc
      · have h3 := inv_swap _ _ (l.drop (p + 2)) hlt (l.take p)
        rw [← e3] at h3
        unfold meas
        rw [hlen]
        unfold swp
        omega
      · conv => rhs; rw [e3]
        exact lex_put hlt _
def nfF (k : Nat) : Nat → List Nat → List Nat
  | 0, l => l
  | n + 1, l => match nxtStep l k with
    | none => l
    | some x => nfF k n x.2
/-- the least text of all that are alike -/
def nf (k : Nat) (l : List Nat) : List Nat := nfF k (meas l + 1) l
theorem nfF_ok (k : Nat) : ∀ (n : Nat) (l : List Nat), meas l < n → nxtStep (nfF k n l) k = none ∧ Alk k l (nfF k n l) ∧ (nfF k n l).length ≤ l.length ∧ (∀ c ∈ nfF k n l, c ∈ l) ∧ (nfF k n l = l ∨ ltS (nfF k n l) l)
  | 0, l, h => absurd h (Nat.not_lt_zero _)
  | n + 1, l, h => by
    unfold nfF
    cases e : nxtStep l k with
    | none => exact ⟨e, fun _ _ => Iff.rfl, Nat.le_refl _, fun c hc => hc, .inl rfl⟩
    | some x =>
      obtain ⟨d, m⟩ := x
      obtain ⟨g1, g2, g3, g4, g5⟩ := nxt_gen e
      obtain ⟨i1, i2, i3, i4, i5⟩ := nfF_ok k n m (by omega)
      refine ⟨i1, g1.trans i2, by dsimp only; omega, fun c hc => g3 c (i4 c hc), .inr ?_⟩
      rcases i5 with i5 | i5
      · dsimp only; rw [i5]; exact g5
      · exact ltS_trans i5 g5
section
variable {k : Nat} {l u v t z : List Nat}
theorem nf_norm (k : Nat) (l : List Nat) : Norm k (nf k l) := norm_of (nfF_ok k _ l (Nat.lt_succ_self _)).1
theorem nf_alk (k : Nat) (l : List Nat) : Alk k l (nf k l) := (nfF_ok k _ l (Nat.lt_succ_self _)).2.1
theorem nf_len (k : Nat) (l : List Nat) : (nf k l).length ≤ l.length := (nfF_ok k _ l (Nat.lt_succ_self _)).2.2.1
theorem nf_mem {c : Nat} (h : c ∈ nf k l) : c ∈ l := (nfF_ok k _ l (Nat.lt_succ_self _)).2.2.2.1 c h
theorem nf_iff : Alk k u v ↔ nf k u = nf k v := by
  constructor
  · exact fun h => norm_uniq (((nf_alk k u).symm.trans h).trans (nf_alk k v)) (nf_norm k u) (nf_norm k v)
  · intro e
    have := nf_alk k u
    rw [e] at this
    exact this.trans (nf_alk k v).symm
theorem Pth.is_nf {ds : List D} (h : Pth k l ds z) (hl : l.length ≤ 100) (tl : Tx l) : z = nf k l :=
  norm_uniq ((alk_iff.mp (h.alike hl tl).1).symm.trans (nf_alk k l)) (norm_of h.ends) (nf_norm k l)
theorem nf_Tx (h : Tx l) : Tx (nf k l) := fun c hc => h c (nf_mem hc)
end
theorem pth_nf {l : List Nat} (k : Nat) (hl : l.length ≤ 100) (tl : Tx l) : ∃ ds, Pth k l ds (nf k l) ∧ ds.length ≤ 20000 := by
  obtain ⟨ds, z, h, hd⟩ := pth_ex k (meas l) l (Nat.le_refl _) hl tl
  have e := h.is_nf hl tl
  subst e
  refine ⟨ds, h, ?_⟩
  have h1 := inv_le l
  have h2 : l.length * l.length ≤ 100 * 100 := Nat.mul_le_mul hl hl
  unfold meas at hd
  omega
end QM
namespace QM
open PySem PySem.Spec L2 QL QP
local macro_rules | `(tactic| decreasing_trivial_pre_omega) => `(tactic| first
  | apply QM.Step.go
  | refine ⟨rfl, ?_⟩
  | refine ⟨⟨rfl, rfl⟩, ?_⟩
  | refine ⟨Nat.le_of_ble_eq_true rfl, ?_⟩
  | refine wB_t rfl ?_
  | refine wB_f rfl ?_)
abbrev PR (q : S → Prop) (R : SV → S → Prop) : Po := ⟨q, R, fun _ => False, fun _ => False, fun _ _ _ => False⟩
abbrev prD (p : Pr) : D := .tuple [.int (p.1 : Nat), .int (p.2 : Nat)]
def kd (K : List Pr) : List (D × D) := K.map fun p => (prD p, .bool true)
def ld (L : List (Pr × List Nat)) : List D := L.map fun x => .tuple [prD x.1, .str (tx x.2)]
abbrev kyP (p : Pr) : List Key := [.inl (p.1 : Nat), .inl (p.2 : Nat)]
theorem kyP_eq {p q : Pr} : (keyT (prD p) = some (kyP q)) ↔ p = q := by
  obtain ⟨i, j⟩ := p
  obtain ⟨i', j'⟩ := q
  show (some [Sum.inl (i : Int), Sum.inl (j : Int)] = some [Sum.inl (i' : Int), Sum.inl (j' : Int)]) ↔ _
  simp
  omega
theorem getT_kd {K : List Pr} {p : Pr} : (getT (kd K) (kyP p)).isSome = decide (p ∈ K) := by
  unfold getT
  rw [Option.isSome_map]
  by_cases h : p ∈ K
  · rw [decide_eq_true h, List.find?_isSome]
    exact ⟨_, List.mem_map.mpr ⟨p, h, rfl⟩, decide_eq_true (kyP_eq.mpr rfl)⟩
  · rw [decide_eq_false h, Bool.eq_false_iff]
    intro hs
    rw [List.find?_isSome] at hs
    obtain ⟨q, hq, e⟩ := hs
    obtain ⟨y, hy, rfl⟩ := List.mem_map.mp hq
    rw [decide_eq_true_eq, kyP_eq] at e
    subst e
    exact h hy
theorem putT_kd {K : List Pr} {p : Pr} (h : p ∉ K) : putT (kd K) (kyP p) (.bool true) = kd (K ++ [p]) := by
  have hn : ((kd K).any fun q => decide (keyT q.1 = some (kyP p))) = false := by
    rw [List.any_eq_false]
    intro q hq
    obtain ⟨y, hy, rfl⟩ := List.mem_map.mp hq
    rw [decide_eq_true_eq, kyP_eq]
    rintro rfl
    exact h hy
  unfold putT
  rw [hn, if_neg (by decide)]
  unfold kd
  rw [List.map_append]
  rfl
section
variable {x0 x1 x3 x5 : Option SV} {kvs : List (D × D)} {acc : List D} {p : List Nat} {c i j : Nat}
theorem b1_none : Hid (wS (first_parting_v2_b1 ⟨[x0, x1, some (.ot kvs), x3, some (.ol acc), x5, some (.fz (.str (tx p))), some (.fz (.str (tx [c]))), some (.fz .none), some (.fz .none)], none⟩)
    (PR (fun r => r = ⟨[x0, x1, some (.ot kvs), x3, some (.ol acc), x5, some (.fz (.str (tx p))), some (.fz (.str (tx [c]))), some (.fz .none), some (.fz .none)], none⟩) fun _ _ => False)) := by
  refine ⟨?_⟩
  unfold first_parting_v2_b1
  repeat' decreasing_trivial_pre_omega
  exact rfl
theorem b1_r1 (hp : p.length ≤ 2000) : Hid (wS (first_parting_v2_b1 ⟨[x0, x1, some (.ot kvs), x3, some (.ol acc), x5, some (.fz (.str (tx p))), some (.fz (.str (tx [c]))), some (.fz (.int (i : Nat))), some (.fz .none)], none⟩)
    (PR (fun r => False) fun v _ => v = .fz (.str (tx (p ++ [c]))))) := by
  have hs : p.length + [c].length ≤ sizeLine := by rw [sizeLine_eq]; show p.length + 1 ≤ _; omega
  refine ⟨?_⟩
  unfold first_parting_v2_b1
  repeat' decreasing_trivial_pre_omega
  exact ⟨hs, rfl⟩
theorem b1_r2 (hp : p.length ≤ 2000) : Hid (wS (first_parting_v2_b1 ⟨[x0, x1, some (.ot kvs), x3, some (.ol acc), x5, some (.fz (.str (tx p))), some (.fz (.str (tx [c]))), some (.fz .none), some (.fz (.int (j : Nat)))], none⟩)
    (PR (fun r => False) fun v _ => v = .fz (.str (tx (p ++ [c]))))) := by
  have hs : p.length + [c].length ≤ sizeLine := by rw [sizeLine_eq]; show p.length + 1 ≤ _; omega
  refine ⟨?_⟩
  unfold first_parting_v2_b1
  repeat' decreasing_trivial_pre_omega
  exact ⟨hs, rfl⟩
theorem b1_old (h : (getT kvs [.inl (i : Nat), .inl (j : Nat)]).isSome = true) : Hid (wS (first_parting_v2_b1 ⟨[x0, x1, some (.ot kvs), x3, some (.ol acc), x5, some (.fz (.str (tx p))), some (.fz (.str (tx [c]))), some (.fz (.int (i : Nat))), some (.fz (.int (j : Nat)))], none⟩)
    (PR (fun r => r = ⟨[x0, x1, some (.ot kvs), x3, some (.ol acc), x5, some (.fz (.str (tx p))), some (.fz (.str (tx [c]))), some (.fz (.int (i : Nat))), some (.fz (.int (j : Nat)))], none⟩) fun _ _ => False)) := by
  refine ⟨?_⟩
  unfold first_parting_v2_b1
  repeat' decreasing_trivial_pre_omega
  refine wB_t h ?_
  repeat' decreasing_trivial_pre_omega
  exact rfl
theorem b1_new (hp : p.length ≤ 2000) (hk : kvs.length < sizeLine) (hl : acc.length < sizeLine) (h : (getT kvs [.inl (i : Nat), .inl (j : Nat)]).isSome = false) : Hid (wS (first_parting_v2_b1 ⟨[x0, x1, some (.ot kvs), x3, some (.ol acc), x5, some (.fz (.str (tx p))), some (.fz (.str (tx [c]))), some (.fz (.int (i : Nat))), some (.fz (.int (j : Nat)))], none⟩)
    (PR (fun r => r = ⟨[x0, x1, some (.ot (putT kvs [.inl (i : Nat), .inl (j : Nat)] (.bool true))), x3, some (.ol (acc ++ [.tuple [.tuple [.int (i : Nat), .int (j : Nat)], .str (tx (p ++ [c]))]])), x5, some (.fz (.str (tx p))), some (.fz (.str (tx [c]))), some (.fz (.int (i : Nat))), some (.fz (.int (j : Nat)))], none⟩) fun _ _ => False)) := by
  have hs : p.length + [c].length ≤ sizeLine := by rw [sizeLine_eq]; show p.length + 1 ≤ _; omega
  refine ⟨?_⟩
  unfold first_parting_v2_b1
  repeat' decreasing_trivial_pre_omega
  refine wB_f h ?_
  repeat' decreasing_trivial_pre_omega
  refine ⟨_, rfl, ?_⟩
  repeat' decreasing_trivial_pre_omega
  refine ⟨_, rfl, ?_⟩
  repeat' decreasing_trivial_pre_omega
  refine ⟨_, rfl, hk, ?_⟩
  repeat' decreasing_trivial_pre_omega
  refine ⟨hs, ?_⟩
  repeat' decreasing_trivial_pre_omega
  refine ⟨hl, ?_⟩
  repeat' decreasing_trivial_pre_omega
  exact rfl
end
structure FInv (a b : List Nat) (K : List Pr) (L : List (Pr × List Nat)) (m : Nat) : Prop where
  nd : K.Nodup
  bd : ∀ y ∈ K, y.1 ≤ a.length ∧ y.2 ≤ b.length
  sb : (L.map (·.1)).Sublist K
  ln : ∀ x ∈ L, x.2.length = m
theorem FInv.add {a b : List Nat} {K : List Pr} {L : List (Pr × List Nat)} {m i j : Nat} {w : List Nat} (h : FInv a b K L m) (hn : (i, j) ∉ K) (hi : i ≤ a.length) (hj : j ≤ b.length) (hw : w.length = m) : FInv a b (K ++ [(i, j)]) (L ++ [((i, j), w)]) m := by
  refine ⟨?_, ?_, ?_, ?_⟩
  · rw [List.nodup_append]
    refine ⟨h.nd, by simp, fun x hx y hy => ?_⟩
    rw [List.mem_singleton] at hy
    subst hy
    rintro rfl
    exact hn hx
  · intro y hy
    rcases List.mem_append.mp hy with hy | hy
    · exact h.bd y hy
    · rw [List.mem_singleton] at hy
      subst hy
      exact ⟨hi, hj⟩
  · rw [List.map_append]
    exact h.sb.append (List.Sublist.refl _)
  · intro y hy
    rcases List.mem_append.mp hy with hy | hy
    · exact h.ln y hy
    · rw [List.mem_singleton] at hy
      subst hy
      exact hw
theorem sum_const {α : Type} (n : Nat) : ∀ l : List α, (l.map fun _ => n).sum = l.length * n
  | [] => by simp
  | x :: l => by
    rw [List.map_cons, List.sum_cons, sum_const n l, List.length_cons, Nat.add_mul]
    omega
theorem FInv.small {a b : List Nat} {K : List Pr} {L : List (Pr × List Nat)} {m : Nat} (h : FInv a b K L m) (ha : a.length ≤ 1000) (hb : b.length ≤ 1000) : K.length ≤ 1002001 ∧ L.length ≤ 1002001 := by
  have h1 : K.length ≤ (a.length + 1) * (b.length + 1) := by
    have := nodup_leP (b := (List.range (a.length + 1)).flatMap fun i => (List.range (b.length + 1)).map fun j => (i, j)) h.nd fun y hy => by
      have := h.bd y hy
      rw [List.mem_flatMap]
      refine ⟨y.1, List.mem_range.mpr (by omega), List.mem_map.mpr ⟨y.2, List.mem_range.mpr (by omega), rfl⟩⟩
    simp only [List.length_flatMap, List.length_map, List.length_range] at this
    rw [sum_const, List.length_range] at this
    exact this
  have h2 := h.sb.length_le
  rw [List.length_map] at h2
  have h3 : (a.length + 1) * (b.length + 1) ≤ 1001 * 1001 := Nat.mul_le_mul (by omega) (by omega)
  omega
theorem for_hidR {p : Po} {G : D → S → Option S} {B : S → RS} (Q : Nat → S → Prop) (R : SV → S → Prop) {ds : List D} {r : S} (h0 : Q 0 r)
    (st : ∀ i d r, ds[i]? = some d → Q i r → ∃ s, G d r = some s ∧ Hid (wS (B s) (PR (Q (i + 1)) R))) (he : ∀ r, Q ds.length r → p.nx r) (hr : ∀ v r, R v r → p.rt v r) : wS (forF G B ds r) p :=
  wFor_inv Q h0 (fun i d r hd hq => by
    obtain ⟨s, e, h⟩ := st i d r hd hq
    exact ⟨s, e, wS_mono h.out (fun _ q => q) hr (fun _ z => z.elim) (fun _ z => z.elim) (fun _ _ _ z => z.elim)⟩) he
theorem Hid.monoR {x : RS} {q q2 : S → Prop} {R R2 : SV → S → Prop} (h : Hid (wS x (PR q R))) (k : ∀ s, q s → q2 s) (kr : ∀ v s, R v s → R2 v s) : Hid (wS x (PR q2 R2)) :=
  ⟨wS_mono h.out k kr (fun _ z => z.elim) (fun _ z => z.elim) (fun _ _ _ z => z.elim)⟩
theorem mvs_get {a b : List Nat} {i j k : Nat} {d : D} (h : (mvs a b i j)[k]? = some d) : ∃ c, (lettersOf a b)[k]? = some c ∧ d = mvD a b i j c := by
  unfold mvs at h
  rw [List.getElem?_map] at h
  obtain ⟨c, e, rfl⟩ := Option.map_eq_some_iff.mp h
  exact ⟨c, e, rfl⟩
theorem drop_of_get {α : Type} {l : List α} {k : Nat} {x : α} (h : l[k]? = some x) : l.drop k = x :: l.drop (k + 1) := by
  obtain ⟨hk, rfl⟩ := List.getElem?_eq_some_iff.mp h
  exact List.drop_eq_getElem_cons hk
theorem b2_R {a b : List Nat} {K0 : List Pr} {L0 : List (Pr × List Nat)} {i j m : Nat} {p : List Nat} {x3 x7 x8 x9 : Option SV} (ha : a.length ≤ 1000) (hb : b.length ≤ 1000) (hI : FInv a b K0 L0 m) (hp : p.length + 1 = m) (hm : m ≤ 2000) :
    Hid (wS (first_parting_v2_b2 ⟨[some (.fz (.str (tx a))), some (.fz (.str (tx b))), some (.ot (kd K0)), x3, some (.ol (ld L0)), some (.fz (prD (i, j))), some (.fz (.str (tx p))), x7, x8, x9], none⟩)
      (PR (fun r => ∃ K L x7 x8 x9, inn a b i j p (lettersOf a b) K0 L0 = .inr (K, L) ∧ FInv a b K L m ∧ r = ⟨[some (.fz (.str (tx a))), some (.fz (.str (tx b))), some (.ot (kd K)), x3, some (.ol (ld L)), some (.fz (prD (i, j))), some (.fz (.str (tx p))), x7, x8, x9], none⟩)
        fun v _ => ∃ w, inn a b i j p (lettersOf a b) K0 L0 = .inl w ∧ v = .fz (.str (tx w)))) := by
  have R1 := moves_R (i := i) (j := j) ha hb
  generalize hT : inn a b i j p (lettersOf a b) K0 L0 = T
  refine ⟨?_⟩
  unfold first_parting_v2_b2
  repeat' decreasing_trivial_pre_omega
  refine wF_ret R1 ?_
  repeat' decreasing_trivial_pre_omega
  refine for_hidR (fun k r => ∃ K L x7 x8 x9, inn a b i j p ((lettersOf a b).drop k) K L = T ∧ FInv a b K L m ∧ r = ⟨[some (.fz (.str (tx a))), some (.fz (.str (tx b))), some (.ot (kd K)), x3, some (.ol (ld L)), some (.fz (prD (i, j))), some (.fz (.str (tx p))), x7, x8, x9], none⟩) (fun v _ => ∃ w, T = .inl w ∧ v = .fz (.str (tx w))) ⟨_, _, _, _, _, hT, hI, rfl⟩ ?_ ?_ ?_
  · rintro k d r hd ⟨K, L, x7, x8, x9, e, hI, rfl⟩
    obtain ⟨c, hc, rfl⟩ := mvs_get hd
    rw [drop_of_get hc] at e
    unfold inn at e
    have hK := hI.small ha hb
    refine ⟨_, rfl, ?_⟩
    cases e1 : nx a c i with
    | none =>
      cases e2 : nx b c j with
      | none =>
        rw [e1, e2] at e
        exact Hid.monoR b1_none (fun s hs => ⟨K, L, _, _, _, e, hI, hs⟩) fun _ _ z => z.elim
      | some j' =>
        rw [e1, e2] at e
        exact Hid.monoR (b1_r2 (by omega)) (fun s hs => hs.elim) fun v _ hv => ⟨_, e.symm, hv⟩
    | some i' =>
      cases e2 : nx b c j with
      | none =>
        rw [e1, e2] at e
        exact Hid.monoR (b1_r1 (by omega)) (fun s hs => hs.elim) fun v _ hv => ⟨_, e.symm, hv⟩
      | some j' =>
        rw [e1, e2] at e
        dsimp only at e
        have hg := getT_kd (K := K) (p := (i', j'))
        by_cases hk : (i', j') ∈ K
        · rw [if_pos hk] at e
          rw [decide_eq_true hk] at hg
          exact Hid.monoR (b1_old hg) (fun s hs => ⟨K, L, _, _, _, e, hI, hs⟩) fun _ _ z => z.elim
        · rw [if_neg hk] at e
          rw [decide_eq_false hk] at hg
          have hk1 : (kd K).length < sizeLine := by unfold kd; rw [List.length_map, sizeLine_eq]; omega
          have hl1 : (ld L).length < sizeLine := by unfold ld; rw [List.length_map, sizeLine_eq]; omega
          have hld : ld (L ++ [((i', j'), p ++ [c])]) = ld L ++ [.tuple [prD (i', j'), .str (tx (p ++ [c]))]] := List.map_append
          have hA := hI.add (w := p ++ [c]) hk (nx_le e1).2 (nx_le e2).2 (by rw [List.length_append]; exact hp)
          refine Hid.monoR (b1_new (by omega) hk1 hl1 hg) (fun s hs => ?_) fun _ _ z => z.elim
          rw [putT_kd (p := (i', j')) hk, ← hld] at hs
          exact ⟨_, _, _, _, _, e, hA, hs⟩
  · rintro r ⟨K, L, x7, x8, x9, e, hI, rfl⟩
    rw [show (mvs a b i j).length = (lettersOf a b).length from List.length_map .., List.drop_length] at e
    exact ⟨K, L, _, _, _, e.symm, hI, rfl⟩
  · exact fun v r h => h
end QM
namespace QM
open PySem PySem.Spec L2 QL QP
local macro_rules | `(tactic| decreasing_trivial_pre_omega) => `(tactic| first
  | apply QM.Step.go
  | refine ⟨rfl, ?_⟩
  | refine ⟨⟨rfl, rfl⟩, ?_⟩
  | refine ⟨_, rfl, ?_⟩
  | refine ⟨Nat.le_of_ble_eq_true rfl, ?_⟩
  | refine wB_t rfl ?_
  | refine wB_f rfl ?_)
theorem ld_get {L : List (Pr × List Nat)} {k : Nat} {d : D} (h : (ld L)[k]? = some d) : ∃ x, L[k]? = some x ∧ d = .tuple [prD x.1, .str (tx x.2)] := by
  unfold ld at h
  rw [List.getElem?_map] at h
  obtain ⟨c, e, rfl⟩ := Option.map_eq_some_iff.mp h
  exact ⟨c, e, rfl⟩
theorem ld_len {L : List (Pr × List Nat)} : (ld L).length = L.length := by unfold ld; rw [List.length_map]
theorem FInv.next {a b : List Nat} {K : List Pr} {L : List (Pr × List Nat)} {m n : Nat} (h : FInv a b K L m) : FInv a b K [] n := ⟨h.nd, h.bd, List.nil_sublist _, fun x hx => nomatch hx⟩
def WL (x : Option SV) (W : List (Pr × List Nat)) : Prop := x = some (.ol (ld W)) ∨ x = some (.fz (.list (ld W)))
theorem b3_R {a b : List Nat} {K0 : List Pr} {W : List (Pr × List Nat)} {m : Nat} {x5 x6 x7 x8 x9 : Option SV} (ha : a.length ≤ 1000) (hb : b.length ≤ 1000) (hI : FInv a b K0 W m) (hm : m + 1 ≤ 2000) :
    Hid (wS (forF (gTupF 2 (gConsF (gNm 5) (gConsF (gNm 6) gNilF))) first_parting_v2_b2 (ld W) ⟨[some (.fz (.str (tx a))), some (.fz (.str (tx b))), some (.ot (kd K0)), some (.fz (.list (ld W))), some (.ol []), x5, x6, x7, x8, x9], none⟩)
      (PR (fun r => ∃ K L x5 x6 x7 x8 x9, oute a b W K0 [] = .inr (K, L) ∧ FInv a b K L (m + 1) ∧ r = ⟨[some (.fz (.str (tx a))), some (.fz (.str (tx b))), some (.ot (kd K)), some (.fz (.list (ld W))), some (.ol (ld L)), x5, x6, x7, x8, x9], none⟩)
        fun v _ => ∃ w, oute a b W K0 [] = .inl w ∧ v = .fz (.str (tx w)))) := by
  generalize hT : oute a b W K0 [] = T
  refine ⟨?_⟩
  refine for_hidR (fun k r => ∃ K L x5 x6 x7 x8 x9, oute a b (W.drop k) K L = T ∧ FInv a b K L (m + 1) ∧ r = ⟨[some (.fz (.str (tx a))), some (.fz (.str (tx b))), some (.ot (kd K)), some (.fz (.list (ld W))), some (.ol (ld L)), x5, x6, x7, x8, x9], none⟩) (fun v _ => ∃ w, T = .inl w ∧ v = .fz (.str (tx w))) ⟨_, _, _, _, _, _, _, hT, hI.next, rfl⟩ ?_ ?_ ?_
  · rintro k d r hd ⟨K, L, x5, x6, x7, x8, x9, e, hJ, rfl⟩
    obtain ⟨x, hx, rfl⟩ := ld_get hd
    have hp : x.2.length + 1 = m + 1 := by rw [hI.ln x (List.mem_of_getElem? hx)]
    rw [drop_of_get hx] at e
    unfold oute at e
    refine ⟨_, rfl, Hid.monoR (b2_R (i := x.1.1) (j := x.1.2) ha hb hJ hp hm) ?_ ?_⟩
    · rintro s ⟨K', L', x7, x8, x9, e2, hJ2, rfl⟩
      rw [e2] at e
      exact ⟨_, _, _, _, _, _, _, e, hJ2, rfl⟩
    · rintro v s ⟨w, e2, hv⟩
      rw [e2] at e
      exact ⟨w, e.symm, hv⟩
  · rintro r ⟨K, L, x5, x6, x7, x8, x9, e, hJ, rfl⟩
    rw [ld_len, List.drop_length] at e
    exact ⟨K, L, _, _, _, _, _, e.symm, hJ, rfl⟩
  · exact fun v r h => h
theorem cutR {x : RS} {p : Po} {q : S → Prop} {R : SV → S → Prop} (h : Hid (wS x (PR q R))) (k : ∀ s, q s → p.nx s) (kr : ∀ v s, R v s → p.rt v s) : wS x p :=
  wS_mono h.out k kr (fun _ z => z.elim) (fun _ z => z.elim) (fun _ _ _ z => z.elim)
theorem b4_R {a b : List Nat} {K0 : List Pr} {W : List (Pr × List Nat)} {m : Nat} {x3 x4 x5 x6 x7 x8 x9 : Option SV} (ha : a.length ≤ 1000) (hb : b.length ≤ 1000) (hI : FInv a b K0 W m) (hm : m + 1 ≤ 2000) (hW : WL x3 W) :
    Hid (wS (first_parting_v2_b4 ⟨[some (.fz (.str (tx a))), some (.fz (.str (tx b))), some (.ot (kd K0)), x3, x4, x5, x6, x7, x8, x9], none⟩)
      (PR (fun r => ∃ K L x3 x4 x5 x6 x7 x8 x9, oute a b W K0 [] = .inr (K, L) ∧ FInv a b K L (m + 1) ∧ WL x3 L ∧ r = ⟨[some (.fz (.str (tx a))), some (.fz (.str (tx b))), some (.ot (kd K)), x3, x4, x5, x6, x7, x8, x9], none⟩)
        fun v _ => ∃ w, oute a b W K0 [] = .inl w ∧ v = .fz (.str (tx w)))) := by
  refine ⟨?_⟩
  unfold first_parting_v2_b4
  rcases hW with rfl | rfl
  · repeat' decreasing_trivial_pre_omega
    refine cutR (b3_R ha hb hI hm) ?_ ?_
    · rintro s ⟨K, L, x5, x6, x7, x8, x9, e, hJ, rfl⟩
      repeat' decreasing_trivial_pre_omega
      exact ⟨_, _, _, _, _, _, _, _, _, e, hJ, .inr rfl, rfl⟩
    · exact fun v s h => h
  · repeat' decreasing_trivial_pre_omega
    refine cutR (b3_R ha hb hI hm) ?_ ?_
    · rintro s ⟨K, L, x5, x6, x7, x8, x9, e, hJ, rfl⟩
      repeat' decreasing_trivial_pre_omega
      exact ⟨_, _, _, _, _, _, _, _, _, e, hJ, .inr rfl, rfl⟩
    · exact fun v s h => h
def ptV (a b : List Nat) : SV := match partL a b with
  | none => .fz .none
  | some w => .fz (.str (tx w))
theorem pt_none {a b : List Nat} (h : partL a b = none) : (SV.fz PyData.none).out = true ∧ SV.fz PyData.none = ptV a b := by
  unfold ptV
  rw [h]
  exact ⟨rfl, rfl⟩
theorem pt_some {a b w : List Nat} {v : SV} (h : partL a b = some w) (hv : v = .fz (.str (tx w))) : v.out = true ∧ v = ptV a b := by
  unfold ptV
  rw [h]
  subst hv
  exact ⟨rfl, rfl⟩
theorem ld_ne {W : List (Pr × List Nat)} (h : W ≠ []) : (ld W).isEmpty = false := by
  cases W with
  | nil => exact absurd rfl h
  | cons x W => rfl
theorem first_parting_R {a b : List Nat} (ha : a.length ≤ 1000) (hb : b.length ≤ 1000) : Ret (F_first_parting_v2 [.str (tx a), .str (tx b)]) (ptV a b) := by
  refine Ret.go ?_
  unfold B_first_parting_v2
  repeat' decreasing_trivial_pre_omega
  refine ⟨_, _, rfl, ?_⟩
  repeat' decreasing_trivial_pre_omega
  have e0 : (mergeDT [] [([Sum.inl 0, Sum.inl 0], PyData.bool true)] : List (D × D)) = kd [(0, 0)] := putT_kd (K := []) (p := (0, 0)) (fun h => nomatch h)
  have e1 : ([PyData.tuple [PyData.tuple [PyData.int 0, PyData.int 0], PyData.str (tx [])]] : List D) = ld [((0, 0), [])] := rfl
  rw [e0, e1]
  refine wWhile_inv (fun n r => ∃ K W m x3 x4 x5 x6 x7 x8 x9, bfs a b n K W = some (partL a b) ∧ FInv a b K W m ∧ m + n = a.length + 2 ∧ WL x3 W ∧ r = ⟨[some (.fz (.str (tx a))), some (.fz (.str (tx b))), some (.ot (kd K)), x3, x4, x5, x6, x7, x8, x9], none⟩) (n := a.length + 2) (by unfold fuel; omega) ⟨_, _, 0, _, _, _, _, _, _, _, partL_eq a b, ?_, Nat.zero_add _, .inl rfl, rfl⟩ ?_
  · refine ⟨by simp, ?_, ?_, ?_⟩
    · intro y hy
      rw [List.mem_singleton] at hy
      subst hy
      exact ⟨Nat.zero_le _, Nat.zero_le _⟩
    · exact List.Sublist.refl _
    · intro y hy
      rw [List.mem_singleton] at hy
      subst hy
      rfl
  · rintro k r ⟨K, W, m, x3, x4, x5, x6, x7, x8, x9, e, hI, hmn, hW, rfl⟩
    have hW' := hW
    unfold first_parting_v2_t3
    rcases hW with rfl | rfl
    · repeat' decreasing_trivial_pre_omega
      cases k with
      | zero => cases e
      | succ n =>
        have e : (if W = [] then some none else match oute a b W K [] with | .inl w => some (some w) | .inr (K', L') => bfs a b n K' L') = some (partL a b) := e
        by_cases hw : W = []
        · subst hw
          rw [if_pos rfl] at e
          refine wB_t rfl ?_
          repeat' decreasing_trivial_pre_omega
          exact (pt_none (Option.some.inj e).symm).2
        · rw [if_neg hw] at e
          refine wB_f (ld_ne hw) ⟨n, rfl, ?_⟩
          refine cutR (b4_R ha hb hI (by omega) hW') ?_ ?_
          · rintro s ⟨K', L', y3, y4, y5, y6, y7, y8, y9, e2, hJ, hL, rfl⟩
            rw [e2] at e
            exact ⟨n, Nat.le_refl _, K', L', m + 1, _, _, _, _, _, _, _, e, hJ, by omega, hL, rfl⟩
          · rintro v s ⟨w, e2, hv⟩
            rw [e2] at e
            exact pt_some (Option.some.inj e).symm hv
    · repeat' decreasing_trivial_pre_omega
      cases k with
      | zero => cases e
      | succ n =>
        have e : (if W = [] then some none else match oute a b W K [] with | .inl w => some (some w) | .inr (K', L') => bfs a b n K' L') = some (partL a b) := e
        by_cases hw : W = []
        · subst hw
          rw [if_pos rfl] at e
          refine wB_t rfl ?_
          repeat' decreasing_trivial_pre_omega
          exact (pt_none (Option.some.inj e).symm).2
        · rw [if_neg hw] at e
          refine wB_f (ld_ne hw) ⟨n, rfl, ?_⟩
          refine cutR (b4_R ha hb hI (by omega) hW') ?_ ?_
          · rintro s ⟨K', L', y3, y4, y5, y6, y7, y8, y9, e2, hJ, hL, rfl⟩
            rw [e2] at e
            exact ⟨n, Nat.le_refl _, K', L', m + 1, _, _, _, _, _, _, _, e, hJ, by omega, hL, rfl⟩
          · rintro v s ⟨w, e2, hv⟩
            rw [e2] at e
            exact pt_some (Option.some.inj e).symm hv
end QM
namespace QM
open PySem PySem.Spec L2 QL QP
local macro_rules | `(tactic| decreasing_trivial_pre_omega) => `(tactic| first
  | apply QM.Step.go
  | refine ⟨rfl, ?_⟩
  | refine ⟨⟨rfl, rfl⟩, ?_⟩
  | refine ⟨_, rfl, ?_⟩
  | refine ⟨Nat.le_of_ble_eq_true rfl, ?_⟩
  | refine wB_t rfl ?_
  | refine wB_f rfl ?_)
def ptD (a b : List Nat) : D := match partL a b with
  | none => .none
  | some w => .str (tx w)
theorem ptV_eq {a b : List Nat} : ptV a b = .fz (ptD a b) := by
  unfold ptV ptD
  cases partL a b <;> rfl
def lkD (a b : List Nat) : D := match partL a b with
  | none => .none
  | some w => .int ((w.length : Int) - 1)
def akB (a b : List Nat) (k : Int) : Bool := match partL a b with
  | none => true
  | some w => decide (k < (w.length : Int))
theorem part_len {a b w : List Nat} (h : partL a b = some w) : w.length ≤ a.length + b.length := by
  have hs := partL_spec a b
  rw [h] at hs
  rcases parts_or hs.1 with z | z
  · have := ((adv_sub a w).mp z).length_le
    omega
  · have := ((adv_sub b w).mp z).length_le
    omega
theorem are_alike_R {a b : List Nat} {k : Int} (ha : a.length ≤ 1000) (hb : b.length ≤ 1000) : Ret (F_are_alike_v2 [.str (tx a), .str (tx b), .int k]) (.fz (.bool (akB a b k))) := by
  have h := first_parting_R ha hb
  unfold ptV at h
  unfold akB
  unfold F_are_alike_v2 B_are_alike_v2
  generalize F_first_parting_v2 = F at h ⊢
  have hl : ∀ w, partL a b = some w → w.length ≤ sizeLine := fun w e => by have := part_len e; rw [sizeLine_eq]; omega
  generalize partL a b = o at h hl ⊢
  refine Ret.go ?_
  repeat' decreasing_trivial_pre_omega
  refine wF_ret h ?_
  cases o with
  | none =>
    repeat' decreasing_trivial_pre_omega
    exact rfl
  | some w =>
    repeat' decreasing_trivial_pre_omega
    refine ⟨hl w rfl, ?_⟩
    repeat' decreasing_trivial_pre_omega
    exact rfl
end QM
namespace QM
open PySem PySem.Spec L2 QL QP
local macro_rules | `(tactic| decreasing_trivial_pre_omega) => `(tactic| first
  | apply QM.Step.go
  | refine ⟨rfl, ?_⟩
  | refine ⟨⟨rfl, rfl⟩, ?_⟩
  | refine ⟨_, rfl, ?_⟩
  | refine ⟨Nat.le_of_ble_eq_true rfl, ?_⟩
  | refine wAt_r rfl ?_
  | refine wB_t rfl ?_
  | refine wB_f rfl ?_)
def leS (p q : List Nat) : Bool := decide (p.length < q.length ∨ p.length = q.length ∧ ¬ q < p)
theorem leS_total (p q : List Nat) : (leS p q || leS q p) = true := by
  unfold leS
  rw [Bool.or_eq_true, decide_eq_true_eq, decide_eq_true_eq]
  rcases Nat.lt_trichotomy p.length q.length with h | h | h
  · exact .inl (.inl h)
  · by_cases z : q < p
    · exact .inr (.inr ⟨h.symm, fun y => List.lt_irrefl _ (List.lt_trans z y)⟩)
    · exact .inl (.inr ⟨h, z⟩)
  · exact .inr (.inl h)
theorem leS_trans (p q r : List Nat) (h1 : leS p q = true) (h2 : leS q r = true) : leS p r = true := by
  unfold leS at *
  rw [decide_eq_true_eq] at *
  rcases h1 with h1 | ⟨h1, z1⟩
  · rcases h2 with h2 | ⟨h2, z2⟩
    · exact .inl (by omega)
    · exact .inl (by omega)
  · rcases h2 with h2 | ⟨h2, z2⟩
    · exact .inl (by omega)
    · exact .inr ⟨h1.trans h2, List.not_lt.mpr (List.le_trans (List.not_lt.mp z1) (List.not_lt.mp z2))⟩
theorem parts_iff {a b w : List Nat} : parts a b w ↔ (w.Sublist a ∧ ¬ w.Sublist b) ∨ (w.Sublist b ∧ ¬ w.Sublist a) := by
  unfold parts
  have h1 := adv_sub a w
  have h2 := adv_sub b w
  rw [← h1, ← h2]
  cases (adv a w 0).isSome <;> cases (adv b w 0).isSome <;> simp
end QM
namespace QM
open PySem PySem.Spec L2 QL QP
theorem cut_fr1 {α : Type} (xs : List α) (b : Nat) : cutL xs (some ((b : Int) + 1)) none = xs.drop (b + 1) := cut_fr xs (b + 1)
local macro_rules | `(tactic| decreasing_trivial_pre_omega) => `(tactic| first
  | apply QM.Step.go
  | refine ⟨rfl, ?_⟩
  | refine ⟨⟨rfl, rfl⟩, ?_⟩
  | refine ⟨_, rfl, ?_⟩
  | refine ⟨_, _, rfl, ?_⟩
  | refine ⟨Nat.le_of_ble_eq_true rfl, ?_⟩
  | refine wAt_r rfl ?_
  | refine wB_t rfl ?_
  | refine wB_f rfl ?_)
local macro_rules | `(tactic| decreasing_trivial_pre_omega) => `(tactic| first
  | refine ⟨szb' (by first | omega | (simp only [cut_to, cut_fr, cut_fr1, List.length_append, List.length_take, List.length_drop, List.length_reverse, List.length_cons, List.length_nil]; omega)), ?_⟩
  | apply QM.Step.go
  | refine ⟨rfl, ?_⟩
  | refine ⟨_, rfl, ?_⟩
  | refine ⟨Nat.le_of_ble_eq_true rfl, ?_⟩
  | refine wB_t rfl ?_
  | refine wB_f rfl ?_)
end QM
namespace QM
open PySem PySem.Spec L2 QL QP
theorem akB_iff {a b : List Nat} {k : Int} : akB a b k = true ↔ ∀ w : List Nat, (w.length : Int) ≤ k → (w.Sublist a ↔ w.Sublist b) := by
  have h := partL_spec a b
  unfold akB
  constructor
  · intro e w hw
    have hn : ¬ parts a b w := by
      cases ep : partL a b with
      | none =>
        rw [ep] at h
        exact h w
      | some v =>
        rw [ep] at h e
        have e : k < (v.length : Int) := of_decide_eq_true e
        intro hp
        rcases h.2 w hp with z | ⟨z, _⟩ <;> omega
    rw [parts_iff] at hn
    constructor
    · exact fun z => Classical.byContradiction fun y => hn (.inl ⟨z, y⟩)
    · exact fun z => Classical.byContradiction fun y => hn (.inr ⟨z, y⟩)
  · intro H
    cases ep : partL a b with
    | none => rfl
    | some v =>
      rw [ep] at h
      refine decide_eq_true (Classical.byContradiction fun z => ?_)
      have hv := H v (by omega)
      have := parts_iff.mp h.1
      rcases this with ⟨h1, h2⟩ | ⟨h1, h2⟩
      · exact h2 (hv.mp h1)
      · exact h2 (hv.mpr h1)
abbrev Ft := List (Pr × Nat)
def tinn (a b : List Nat) (i j n : Nat) : List Nat → Ft → List Pr → Ft × List Pr
  | [], F, L => (F, L)
  | c :: cs, F, L => match nx a c i, nx b c j with
    | some i', some j' => if (i', j') ∈ F.map (·.1) then tinn a b i j n cs F L else tinn a b i j n cs (F ++ [((i', j'), n + 1)]) (L ++ [(i', j')])
    | _, _ => tinn a b i j n cs F L
def tout (a b : List Nat) (n : Nat) : List Pr → Ft → List Pr → Ft × List Pr
  | [], F, L => (F, L)
  | p :: W, F, L => tout a b n W (tinn a b p.1 p.2 n (lettersOf a b) F L).1 (tinn a b p.1 p.2 n (lettersOf a b) F L).2
def tbl (a b : List Nat) : Nat → Ft × List Pr
  | 0 => ([((0, 0), 0)], [(0, 0)])
  | n + 1 => tout a b n (tbl a b n).2 (tbl a b n).1 []
/-- what a table must hold -/
structure Tok (a b : List Nat) (k : Int) (F : Ft) : Prop where
  nd : (F.map (·.1)).Nodup
  bd : ∀ x ∈ F, x.1.1 ≤ a.length ∧ x.1.2 ≤ b.length
  z0 : ((0, 0), 0) ∈ F
  ca : ∀ x ∈ F, (x.2 : Int) < k → ∀ c ∈ lettersOf a b, (nx a c x.1.1 = none ∧ nx b c x.1.2 = none) ∨ ∃ i' j' v, nx a c x.1.1 = some i' ∧ nx b c x.1.2 = some j' ∧ v ≤ x.2 + 1 ∧ ((i', j'), v) ∈ F
end QM
namespace QM
open PySem PySem.Spec L2 QL QP
theorem nxt_iff {l : List Nat} {c s p : Nat} (hp : p < l.length) : nxt l c s = some p ↔ s ≤ p ∧ l.getD p 0 = c ∧ c ∉ (l.take p).drop s := by
  have hg : l[p]? = some (l.getD p 0) := by rw [List.getD_eq_getElem?_getD, List.getElem?_eq_getElem hp]; rfl
  constructor
  · intro e
    obtain ⟨h1, h2, h3⟩ := nxt_some e
    refine ⟨h1, by rw [hg] at h2; exact Option.some.inj h2, fun hc => ?_⟩
    obtain ⟨i, hi⟩ := List.getElem?_of_mem hc
    have hl := (List.getElem?_eq_some_iff.mp hi).1
    rw [List.length_drop, List.length_take] at hl
    rw [List.getElem?_drop, List.getElem?_take_of_lt (by omega)] at hi
    exact h3 (s + i) (by omega) (by omega) hi
  · rintro ⟨h1, h2, h3⟩
    refine nxt_is h1 (by rw [hg, h2]) fun j a b e => h3 ?_
    refine List.mem_iff_getElem?.mpr ⟨j - s, ?_⟩
    rw [List.getElem?_drop, show s + (j - s) = j by omega, List.getElem?_take_of_lt b, e]
end QM
namespace QM
open PySem PySem.Spec L2 QL QP
local macro_rules | `(tactic| decreasing_trivial_pre_omega) => `(tactic| first
  | apply QM.Step.go
  | refine ⟨rfl, ?_⟩
  | refine ⟨⟨rfl, rfl⟩, ?_⟩
  | refine ⟨_, rfl, ?_⟩
  | refine ⟨_, _, rfl, ?_⟩
  | refine ⟨_, _, _, rfl, ?_⟩
  | refine ⟨Nat.le_of_ble_eq_true rfl, ?_⟩
  | refine wAt_r rfl ?_
  | refine wB_t rfl ?_
  | refine wB_f rfl ?_)
end QM
namespace QM
open PySem PySem.Spec L2 QL QP
/-- the pieces that begin with d behind s -/
def blk (l : List Nat) (s z d : Nat) : List (List Nat) := (pcs (l.drop ((nxt l d s).getD 0 + 1)) z).map (d :: ·)
end QM
namespace QM
open PySem PySem.Spec L2 QL QP
local macro_rules | `(tactic| decreasing_trivial_pre_omega) => `(tactic| first
  | apply QM.Step.go
  | refine ⟨rfl, ?_⟩
  | refine ⟨⟨rfl, rfl⟩, ?_⟩
  | refine ⟨_, rfl, ?_⟩
  | refine ⟨_, _, rfl, ?_⟩
  | refine ⟨_, _, _, rfl, ?_⟩
  | refine ⟨Nat.le_of_ble_eq_true rfl, ?_⟩
  | refine And.intro (szb' (by omega)) ?_
  | refine wAt_r rfl ?_
  | refine wB_t rfl ?_
  | refine wB_f rfl ?_)
instance {FL : S → Res (List D)} {fv : S → Res D} {r : S} {PL : List D → S → Prop} {X : XPo} : Step (wE (fZipR FL fv r) PL X) (wE (FL r) (fun ds r => ∃ i j c, intsD ds = some [i, j, c] ∧ (QL.sml i = true ∧ QL.sml j = true ∧ c = -1) ∧ wE (fv r) (fun d r => wIt d fun es => PL (zipL (downL i (i - j).toNat) es) r) X) X) := ⟨fun h => wE_bind (wE_mono h fun ds r h => by
  obtain ⟨i, j, c, e, h1, h2⟩ := h
  rw [e]
  dsimp only
  rw [if_pos h1]
  refine wE_bind (wE_mono h2 fun d r h => ?_)
  obtain ⟨es, e2, h⟩ := h
  rw [e2]
  exact h)⟩
end QM
namespace QM
open PySem PySem.Spec L2 QL QP
local macro_rules | `(tactic| decreasing_trivial_pre_omega) => `(tactic| first
  | apply QM.Step.go
  | refine ⟨rfl, ?_⟩
  | refine ⟨⟨rfl, rfl⟩, ?_⟩
  | refine ⟨_, rfl, ?_⟩
  | refine ⟨_, _, rfl, ?_⟩
  | refine ⟨_, _, _, rfl, ?_⟩
  | refine ⟨Nat.le_of_ble_eq_true rfl, ?_⟩
  | refine And.intro (szb' (by omega)) ?_
  | refine wAt_r rfl ?_
  | refine wB_t rfl ?_
  | refine wB_f rfl ?_)
end QM
namespace QM
open PySem PySem.Spec L2 QL QP
end QM
namespace QM
open PySem PySem.Spec L2 QL QP
local macro_rules | `(tactic| decreasing_trivial_pre_omega) => `(tactic| first
  | apply QM.Step.go
  | refine ⟨rfl, ?_⟩
  | refine ⟨⟨rfl, rfl⟩, ?_⟩
  | refine ⟨_, rfl, ?_⟩
  | refine ⟨_, _, rfl, ?_⟩
  | refine ⟨_, _, _, rfl, ?_⟩
  | refine ⟨Nat.le_of_ble_eq_true rfl, ?_⟩
  | refine wAt_r rfl ?_
  | refine wB_t rfl ?_
  | refine wB_f rfl ?_)
end QM
namespace QM
open PySem PySem.Spec L2 QL QP
local macro_rules | `(tactic| decreasing_trivial_pre_omega) => `(tactic| first
  | apply QM.Step.go
  | refine ⟨rfl, ?_⟩
  | refine ⟨⟨rfl, rfl⟩, ?_⟩
  | refine ⟨_, rfl, ?_⟩
  | refine ⟨_, _, rfl, ?_⟩
  | refine ⟨_, _, _, rfl, ?_⟩
  | refine ⟨Nat.le_of_ble_eq_true rfl, ?_⟩
  | refine wAt_r rfl ?_
  | refine wB_t rfl ?_
  | refine wB_f rfl ?_)
end QM
namespace QM
open PySem PySem.Spec L2 QL QP
end QM
namespace QM
open PySem PySem.Spec L2 QL QP
local macro_rules | `(tactic| decreasing_trivial_pre_omega) => `(tactic| first
  | apply QM.Step.go
  | refine ⟨rfl, ?_⟩
  | refine ⟨⟨rfl, rfl⟩, ?_⟩
  | refine ⟨_, rfl, ?_⟩
  | refine ⟨_, _, rfl, ?_⟩
  | refine ⟨Nat.le_of_ble_eq_true rfl, ?_⟩
  | refine wAt_r rfl ?_
  | refine wB_t rfl ?_
  | refine wB_f rfl ?_)
theorem textsP_R {d e : D} (h : Good d) (h2 : Good e) : Ret (F_must_be_texts_v2 [d, e]) (.fz .none) := by
  refine Ret.go ?_
  unfold B_must_be_texts_v2
  repeat' decreasing_trivial_pre_omega
  refine wF_ret (mustTP_R h) ?_
  repeat' decreasing_trivial_pre_omega
  refine wF_ret (mustTP_R h2) ?_
  repeat' decreasing_trivial_pre_omega
  rfl
theorem partingP_R {a b : List Nat} (ga : Good (.str (tx a))) (gb : Good (.str (tx b))) (ha : a.length ≤ 1000) (hb : b.length ≤ 1000) : Ret (F_parting_v4 [.str (tx a), .str (tx b)]) (.fz (ptD a b)) := by
  have h := first_parting_R ha hb
  rw [ptV_eq] at h
  have h1 := textsP_R ga gb
  unfold F_parting_v4 B_parting_v4
  generalize F_first_parting_v2 = F at h ⊢
  generalize F_must_be_texts_v2 = G at h1 ⊢
  refine Ret.go ?_
  repeat' decreasing_trivial_pre_omega
  refine wF_ret h1 ?_
  repeat' decreasing_trivial_pre_omega
  refine wF_ret h ?_
  exact ⟨rfl, rfl⟩
theorem likenessP_R {a b : List Nat} (ga : Good (.str (tx a))) (gb : Good (.str (tx b))) (ha : a.length ≤ 1000) (hb : b.length ≤ 1000) : Ret (F_likeness_v4 [.str (tx a), .str (tx b)]) (.fz (lkD a b)) := by
  have h := partingP_R ga gb ha hb
  unfold ptD at h
  unfold lkD
  unfold F_likeness_v4 B_likeness_v4
  generalize F_parting_v4 = F at h ⊢
  have hl : ∀ w, partL a b = some w → w.length ≤ sizeLine := fun w e => by have := part_len e; rw [sizeLine_eq]; omega
  generalize partL a b = o at h hl ⊢
  refine Ret.go ?_
  repeat' decreasing_trivial_pre_omega
  refine wF_ret h ?_
  cases o with
  | none =>
    repeat' decreasing_trivial_pre_omega
    exact rfl
  | some w =>
    repeat' decreasing_trivial_pre_omega
    refine ⟨hl w rfl, ?_⟩
    repeat' decreasing_trivial_pre_omega
    exact rfl
theorem alikeP_R {a b : List Nat} {k : Nat} (ga : Good (.str (tx a))) (gb : Good (.str (tx b))) (ha : a.length ≤ 1000) (hb : b.length ≤ 1000) : Ret (F_alike_v4 [.str (tx a), .str (tx b), .int (k : Nat)]) (.fz (.bool (akB a b (k : Nat)))) := by
  have h := are_alike_R (k := (k : Nat)) ha hb
  have h1 := textsP_R ga gb
  have h2 := mustKP_R (k := k)
  unfold F_alike_v4 B_alike_v4
  generalize F_are_alike_v2 = F at h ⊢
  generalize F_must_be_texts_v2 = G at h1 ⊢
  generalize F_must_be_reach = E at h2 ⊢
  refine Ret.go ?_
  repeat' decreasing_trivial_pre_omega
  refine wF_ret h1 ?_
  repeat' decreasing_trivial_pre_omega
  refine wF_ret h2 ?_
  repeat' decreasing_trivial_pre_omega
  refine wF_ret h ?_
  exact ⟨rfl, rfl⟩
def td (F : Ft) : List (D × D) := F.map fun x => (prD x.1, .int (x.2 : Nat))
def wd (L : List Pr) : List D := L.map prD
def ftv (F : Ft) (p : Pr) : Option Nat := (F.find? fun x => decide (x.1 = p)).map (·.2)
theorem getT_td (p : Pr) : ∀ F : Ft, getT (td F) (kyP p) = (ftv F p).map fun v => PyData.int (v : Nat)
  | [] => rfl
  | x :: F => by
    have ih := getT_td p F
    unfold getT ftv td at ih ⊢
    rw [List.map_cons, List.find?_cons, List.find?_cons]
    by_cases h : x.1 = p
    · rw [decide_eq_true h, decide_eq_true (kyP_eq.mpr h)]
      rfl
    · rw [decide_eq_false h, decide_eq_false fun z => h (kyP_eq.mp z)]
      exact ih
theorem ftv_some {F : Ft} {p : Pr} {v : Nat} (nd : (F.map (·.1)).Nodup) (h : (p, v) ∈ F) : ftv F p = some v := by
  induction F with
  | nil => cases h
  | cons x F ih =>
    rw [List.map_cons, List.nodup_cons] at nd
    unfold ftv
    rw [List.find?_cons]
    by_cases e : x.1 = p
    · rw [decide_eq_true e]
      rcases List.mem_cons.mp h with h | h
      · rw [← h]; rfl
      · exact absurd (List.mem_map.mpr ⟨_, h, e.symm⟩) nd.1
    · rw [decide_eq_false e]
      rcases List.mem_cons.mp h with h | h
      · rw [← h] at e; exact absurd rfl e
      · exact ih nd.2 h
theorem putT_td {F : Ft} {p : Pr} {v : Nat} (h : p ∉ F.map (·.1)) : putT (td F) (kyP p) (.int (v : Nat)) = td (F ++ [(p, v)]) := by
  have hn : ((td F).any fun q => decide (keyT q.1 = some (kyP p))) = false := by
    rw [List.any_eq_false]
    intro q hq
    obtain ⟨y, hy, rfl⟩ := List.mem_map.mp hq
    rw [decide_eq_true_eq, kyP_eq]
    intro e
    exact h (List.mem_map.mpr ⟨y, hy, e⟩)
  unfold putT
  rw [hn, if_neg (by decide)]
  unfold td
  rw [List.map_append]
  rfl
structure TInv (a b : List Nat) (F : Ft) (L : List Pr) : Prop where
  nd : (F.map (·.1)).Nodup
  bd : ∀ x ∈ F, x.1.1 ≤ a.length ∧ x.1.2 ≤ b.length
  sb : L.Sublist (F.map (·.1))
theorem TInv.add {a b : List Nat} {F : Ft} {L : List Pr} {i j v : Nat} (h : TInv a b F L) (hn : (i, j) ∉ F.map (·.1)) (hi : i ≤ a.length) (hj : j ≤ b.length) : TInv a b (F ++ [((i, j), v)]) (L ++ [(i, j)]) := by
  refine ⟨?_, ?_, ?_⟩
  · rw [List.map_append, List.nodup_append]
    refine ⟨h.nd, by simp, fun x hx y hy e => ?_⟩
    have : y = (i, j) := by simpa using hy
    subst this
    exact hn (e ▸ hx)
  · intro x hx
    rcases List.mem_append.mp hx with hx | hx
    · exact h.bd x hx
    · rw [List.mem_singleton.mp hx]; exact ⟨hi, hj⟩
  · rw [List.map_append]
    exact h.sb.append (List.Sublist.refl _)
theorem TInv.small {a b : List Nat} {F : Ft} {L : List Pr} (h : TInv a b F L) (ha : a.length ≤ 1000) (hb : b.length ≤ 1000) : F.length ≤ 1002001 ∧ L.length ≤ 1002001 := by
  have h1 : F.length ≤ (a.length + 1) * (b.length + 1) := by
    have := nodup_leP (b := (List.range (a.length + 1)).flatMap fun i => (List.range (b.length + 1)).map fun j => (i, j)) h.nd fun y hy => by
      obtain ⟨x, hx, rfl⟩ := List.mem_map.mp hy
      have := h.bd x hx
      rw [List.mem_flatMap]
      refine ⟨x.1.1, List.mem_range.mpr (by omega), List.mem_map.mpr ⟨x.1.2, List.mem_range.mpr (by omega), rfl⟩⟩
    simp only [List.length_flatMap, List.length_map, List.length_range] at this
    rw [sum_const, List.length_range] at this
    exact this
  have h2 := h.sb.length_le
  rw [List.length_map] at h2
  have h3 : (a.length + 1) * (b.length + 1) ≤ 1001 * 1001 := Nat.mul_le_mul (by omega) (by omega)
  omega
theorem wd_get {L : List Pr} {k : Nat} {d : D} (h : (wd L)[k]? = some d) : ∃ x, L[k]? = some x ∧ d = prD x := by
  unfold wd at h
  rw [List.getElem?_map] at h
  obtain ⟨c, e, rfl⟩ := Option.map_eq_some_iff.mp h
  exact ⟨c, e, rfl⟩
def WP (x : Option SV) (W : List Pr) : Prop := x = some (.ol (wd W)) ∨ x = some (.fz (.list (wd W)))
end QM
namespace QM
open PySem PySem.Spec L2 QL QP
local macro_rules | `(tactic| decreasing_trivial_pre_omega) => `(tactic| first
  | apply QM.Step.go
  | refine ⟨rfl, ?_⟩
  | refine ⟨⟨rfl, rfl⟩, ?_⟩
  | refine ⟨_, rfl, ?_⟩
  | refine ⟨_, _, rfl, ?_⟩
  | refine ⟨_, _, _, rfl, ?_⟩
  | refine ⟨Nat.le_of_ble_eq_true rfl, ?_⟩
  | refine wAt_r rfl ?_
  | refine wB_t rfl ?_
  | refine wB_f rfl ?_)
theorem shortest0_R {l : List Nat} {k : Nat} (hl : l.length ≤ 100) (tl : Tx l) : Ret (F_shortest [.str (tx l), .int (k : Nat)]) (.fz (.str (tx (nf k l)))) := by
  obtain ⟨ds, h, hd⟩ := pth_nf k hl tl
  exact shortestP_R hl tl h hd
theorem lk_ok (a b : List Nat) : okD (lkD a b) = true ∧ PyData.eqv (lkD a b) (lkD a b) = true := by
  unfold lkD
  cases partL a b with
  | none => exact ⟨rfl, rfl⟩
  | some w => exact ⟨ok_int, by rw [eqv_int]; simp⟩
end QM
namespace QM
open PySem PySem.Spec L2 QL QP
local macro_rules | `(tactic| decreasing_trivial_pre_omega) => `(tactic| first
  | apply QM.Step.go
  | refine ⟨rfl, ?_⟩
  | refine ⟨⟨rfl, rfl⟩, ?_⟩
  | refine ⟨_, rfl, ?_⟩
  | refine ⟨_, _, rfl, ?_⟩
  | refine ⟨Nat.le_of_ble_eq_true rfl, ?_⟩
  | refine wAt_r rfl ?_
  | refine wB_t rfl ?_
  | refine wB_f rfl ?_)
def linn (a b : List Nat) (i j : Nat) : List Nat → List Pr → List Pr → Option (List Pr × List Pr)
  | [], K, L => some (K, L)
  | c :: cs, K, L => match nx a c i, nx b c j with
    | none, _ => linn a b i j cs K L
    | some _, none => none
    | some i', some j' => if (i', j') ∈ K then linn a b i j cs K L else linn a b i j cs (K ++ [(i', j')]) (L ++ [(i', j')])
def lout (a b : List Nat) : List Pr → List Pr → List Pr → Option (List Pr × List Pr)
  | [], K, L => some (K, L)
  | p :: W, K, L => (linn a b p.1 p.2 (lettersOf a b) K L).bind fun r => lout a b W r.1 r.2
def lrn (a b : List Nat) : Nat → Option (List Pr × List Pr)
  | 0 => some ([(0, 0)], [(0, 0)])
  | n + 1 => (lrn a b n).bind fun r => lout a b r.2 r.1 []
section
variable {x0 x1 x2 x4 x5 x7 x8 : Option SV} {kvs : List (D × D)} {acc : List D} {i j : Nat} {y : Option SV}
theorem lw_n1 : Hid (wS (lies_within_b1 ⟨[x0, x1, x2, some (.ot kvs), x4, x5, some (.ol acc), x7, x8, some (.fz .none), y], none⟩)
    (PR (fun r => r = ⟨[x0, x1, x2, some (.ot kvs), x4, x5, some (.ol acc), x7, x8, some (.fz .none), y], none⟩) fun _ _ => False)) := by
  refine ⟨?_⟩
  unfold lies_within_b1
  repeat' decreasing_trivial_pre_omega
  exact rfl
theorem lw_n2 : Hid (wS (lies_within_b1 ⟨[x0, x1, x2, some (.ot kvs), x4, x5, some (.ol acc), x7, x8, some (.fz (.int (i : Nat))), some (.fz .none)], none⟩)
    (PR (fun r => False) fun v _ => v = .fz (.bool false))) := by
  refine ⟨?_⟩
  unfold lies_within_b1
  repeat' decreasing_trivial_pre_omega
  exact rfl
theorem lw_old (h : (getT kvs [.inl (i : Nat), .inl (j : Nat)]).isSome = true) : Hid (wS (lies_within_b1 ⟨[x0, x1, x2, some (.ot kvs), x4, x5, some (.ol acc), x7, x8, some (.fz (.int (i : Nat))), some (.fz (.int (j : Nat)))], none⟩)
    (PR (fun r => r = ⟨[x0, x1, x2, some (.ot kvs), x4, x5, some (.ol acc), x7, x8, some (.fz (.int (i : Nat))), some (.fz (.int (j : Nat)))], none⟩) fun _ _ => False)) := by
  refine ⟨?_⟩
  unfold lies_within_b1
  repeat' decreasing_trivial_pre_omega
  refine wB_t h ?_
  repeat' decreasing_trivial_pre_omega
  exact rfl
theorem lw_new (hk : kvs.length < sizeLine) (hl : acc.length < sizeLine) (h : (getT kvs [.inl (i : Nat), .inl (j : Nat)]).isSome = false) : Hid (wS (lies_within_b1 ⟨[x0, x1, x2, some (.ot kvs), x4, x5, some (.ol acc), x7, x8, some (.fz (.int (i : Nat))), some (.fz (.int (j : Nat)))], none⟩)
    (PR (fun r => r = ⟨[x0, x1, x2, some (.ot (putT kvs [.inl (i : Nat), .inl (j : Nat)] (.bool true))), x4, x5, some (.ol (acc ++ [.tuple [.int (i : Nat), .int (j : Nat)]])), x7, x8, some (.fz (.int (i : Nat))), some (.fz (.int (j : Nat)))], none⟩) fun _ _ => False)) := by
  refine ⟨?_⟩
  unfold lies_within_b1
  repeat' decreasing_trivial_pre_omega
  refine wB_f h ?_
  repeat' decreasing_trivial_pre_omega
  refine ⟨hk, ?_⟩
  repeat' decreasing_trivial_pre_omega
  refine ⟨hl, ?_⟩
  repeat' decreasing_trivial_pre_omega
  exact rfl
end
structure WInv (a b : List Nat) (K : List Pr) (L : List Pr) : Prop where
  nd : K.Nodup
  bd : ∀ x ∈ K, x.1 ≤ a.length ∧ x.2 ≤ b.length
  sb : L.Sublist K
theorem WInv.add {a b : List Nat} {K L : List Pr} {i j : Nat} (h : WInv a b K L) (hn : (i, j) ∉ K) (hi : i ≤ a.length) (hj : j ≤ b.length) : WInv a b (K ++ [(i, j)]) (L ++ [(i, j)]) := by
  refine ⟨?_, ?_, h.sb.append (List.Sublist.refl _)⟩
  · rw [List.nodup_append]
    refine ⟨h.nd, by simp, fun x hx y hy e => ?_⟩
    have : y = (i, j) := by simpa using hy
    subst this
    exact hn (e ▸ hx)
  · intro x hx
    rcases List.mem_append.mp hx with hx | hx
    · exact h.bd x hx
    · rw [List.mem_singleton.mp hx]; exact ⟨hi, hj⟩
theorem WInv.small {a b : List Nat} {K L : List Pr} (h : WInv a b K L) (ha : a.length ≤ 1000) (hb : b.length ≤ 1000) : K.length ≤ 1002001 ∧ L.length ≤ 1002001 := by
  have h1 : K.length ≤ (a.length + 1) * (b.length + 1) := by
    have := nodup_leP (b := (List.range (a.length + 1)).flatMap fun i => (List.range (b.length + 1)).map fun j => (i, j)) h.nd fun x hx => by
      have := h.bd x hx
      rw [List.mem_flatMap]
      refine ⟨x.1, List.mem_range.mpr (by omega), List.mem_map.mpr ⟨x.2, List.mem_range.mpr (by omega), rfl⟩⟩
    simp only [List.length_flatMap, List.length_map, List.length_range] at this
    rw [sum_const, List.length_range] at this
    exact this
  have h2 := h.sb.length_le
  have h3 : (a.length + 1) * (b.length + 1) ≤ 1001 * 1001 := Nat.mul_le_mul (by omega) (by omega)
  omega
abbrev Lw (a b : List Nat) (x2 : Option SV) (K : List Pr) (x4 x5 : Option SV) (L : List Pr) (x7 x8 x9 x10 : Option SV) : S := ⟨[some (.fz (.str (tx a))), some (.fz (.str (tx b))), x2, some (.ot (kd K)), x4, x5, some (.ol (wd L)), x7, x8, x9, x10], none⟩
theorem lw2_R {a b : List Nat} {K0 L0 : List Pr} {p : Pr} {x2 x4 x5 x8 x9 x10 : Option SV} (ha : a.length ≤ 1000) (hb : b.length ≤ 1000) (hI : WInv a b K0 L0) :
    Hid (wS (lies_within_b2 (Lw a b x2 K0 x4 x5 L0 (some (.fz (prD p))) x8 x9 x10))
      (PR (fun r => ∃ K L x8 x9 x10, linn a b p.1 p.2 (lettersOf a b) K0 L0 = some (K, L) ∧ WInv a b K L ∧ r = Lw a b x2 K x4 x5 L (some (.fz (prD p))) x8 x9 x10) fun v _ => linn a b p.1 p.2 (lettersOf a b) K0 L0 = none ∧ v = .fz (.bool false))) := by
  obtain ⟨i, j⟩ := p
  have R1 := moves_R (i := i) (j := j) ha hb
  generalize hT : linn a b i j (lettersOf a b) K0 L0 = T
  refine ⟨?_⟩
  unfold lies_within_b2
  generalize F_moves_v2 = Fm at R1 ⊢
  repeat' decreasing_trivial_pre_omega
  refine wF_ret R1 ?_
  repeat' decreasing_trivial_pre_omega
  refine for_hidR (fun m r => ∃ K L x8 x9 x10, linn a b i j ((lettersOf a b).drop m) K L = T ∧ WInv a b K L ∧ r = Lw a b x2 K x4 x5 L (some (.fz (prD (i, j)))) x8 x9 x10) (fun v _ => T = none ∧ v = .fz (.bool false)) ⟨K0, L0, _, _, _, hT, hI, rfl⟩ ?_ ?_ ?_
  · rintro m d r hd ⟨K, L, x8, x9, x10, e, hI, rfl⟩
    obtain ⟨c, hc, rfl⟩ := mvs_get hd
    rw [drop_of_get hc] at e
    unfold linn at e
    have hK := hI.small ha hb
    refine ⟨_, rfl, ?_⟩
    cases e1 : nx a c i with
    | none =>
      rw [e1] at e
      exact Hid.monoR lw_n1 (fun s hs => ⟨K, L, _, _, _, e, hI, hs⟩) fun _ _ z => z.elim
    | some i' =>
      cases e2 : nx b c j with
      | none =>
        rw [e1, e2] at e
        exact Hid.monoR lw_n2 (fun s hs => hs.elim) fun v _ hv => ⟨e.symm, hv⟩
      | some j' =>
        rw [e1, e2] at e
        dsimp only at e
        have hg := getT_kd (K := K) (p := (i', j'))
        by_cases hk : (i', j') ∈ K
        · rw [if_pos hk] at e
          rw [decide_eq_true hk] at hg
          exact Hid.monoR (lw_old hg) (fun s hs => ⟨K, L, _, _, _, e, hI, hs⟩) fun _ _ z => z.elim
        · rw [if_neg hk] at e
          rw [decide_eq_false hk] at hg
          have hk1 : (kd K).length < sizeLine := by unfold kd; rw [List.length_map, sizeLine_eq]; omega
          have hl1 : (wd L).length < sizeLine := by unfold wd; rw [List.length_map, sizeLine_eq]; omega
          have hld : wd (L ++ [(i', j')]) = wd L ++ [prD (i', j')] := List.map_append
          have hA := hI.add hk (nx_le e1).2 (nx_le e2).2
          refine Hid.monoR (lw_new hk1 hl1 hg) (fun s hs => ?_) fun _ _ z => z.elim
          rw [putT_kd (p := (i', j')) hk, ← hld] at hs
          exact ⟨_, _, _, _, _, e, hA, hs⟩
  · rintro r ⟨K, L, x8, x9, x10, e, hI, rfl⟩
    rw [show (mvs a b i j).length = (lettersOf a b).length from List.length_map .., List.drop_length] at e
    exact ⟨K, L, _, _, _, e.symm, hI, rfl⟩
  · exact fun v s h => h
theorem lw3_R {a b : List Nat} {K0 W : List Pr} {x2 x5 x7 x8 x9 x10 : Option SV} (ha : a.length ≤ 1000) (hb : b.length ≤ 1000) (hI : WInv a b K0 []) :
    Hid (wS (forF (gNm 7) lies_within_b2 (wd W) (Lw a b x2 K0 (some (.fz (.list (wd W)))) x5 [] x7 x8 x9 x10))
      (PR (fun r => ∃ K L x7 x8 x9 x10, lout a b W K0 [] = some (K, L) ∧ WInv a b K L ∧ r = Lw a b x2 K (some (.fz (.list (wd W)))) x5 L x7 x8 x9 x10) fun v _ => lout a b W K0 [] = none ∧ v = .fz (.bool false))) := by
  generalize hT : lout a b W K0 [] = T
  refine ⟨?_⟩
  refine for_hidR (fun m r => ∃ K L x7 x8 x9 x10, lout a b (W.drop m) K L = T ∧ WInv a b K L ∧ r = Lw a b x2 K (some (.fz (.list (wd W)))) x5 L x7 x8 x9 x10) (fun v _ => T = none ∧ v = .fz (.bool false)) ⟨K0, [], _, _, _, _, hT, hI, rfl⟩ ?_ ?_ ?_
  · rintro m d r hd ⟨K, L, x7, x8, x9, x10, e, hJ, rfl⟩
    obtain ⟨x, hx, rfl⟩ := wd_get hd
    rw [drop_of_get hx] at e
    unfold lout at e
    refine ⟨_, rfl, Hid.monoR (lw2_R ha hb hJ) ?_ ?_⟩
    · rintro s ⟨K2, L2, x8, x9, x10, e2, hJ2, rfl⟩
      rw [e2] at e
      exact ⟨_, _, _, _, _, _, e, hJ2, rfl⟩
    · rintro v s ⟨e2, hv⟩
      rw [e2] at e
      exact ⟨e.symm, hv⟩
  · rintro r ⟨K, L, x7, x8, x9, x10, e, hJ, rfl⟩
    rw [show (wd W).length = W.length from List.length_map .., List.drop_length] at e
    exact ⟨K, L, _, _, _, _, e.symm, hJ, rfl⟩
  · exact fun v s h => h
theorem lw4_R {a b : List Nat} {K0 W : List Pr} {x2 x4 x5 x6 x7 x8 x9 x10 : Option SV} (ha : a.length ≤ 1000) (hb : b.length ≤ 1000) (hI : WInv a b K0 []) (hW : WP x4 W) :
    Hid (wS (lies_within_b3 ⟨[some (.fz (.str (tx a))), some (.fz (.str (tx b))), x2, some (.ot (kd K0)), x4, x5, x6, x7, x8, x9, x10], none⟩)
      (PR (fun r => ∃ K L x4 x6 x7 x8 x9 x10, lout a b W K0 [] = some (K, L) ∧ WInv a b K [] ∧ WP x4 L ∧ r = ⟨[some (.fz (.str (tx a))), some (.fz (.str (tx b))), x2, some (.ot (kd K)), x4, x5, x6, x7, x8, x9, x10], none⟩) fun v _ => lout a b W K0 [] = none ∧ v = .fz (.bool false))) := by
  refine ⟨?_⟩
  unfold lies_within_b3
  rcases hW with rfl | rfl
  · repeat' decreasing_trivial_pre_omega
    refine cutR (lw3_R ha hb hI) ?_ fun v s h => h
    rintro s ⟨K, L, x7, x8, x9, x10, e, hJ, rfl⟩
    repeat' decreasing_trivial_pre_omega
    exact ⟨_, _, _, _, _, _, _, _, e, ⟨hJ.nd, hJ.bd, List.nil_sublist _⟩, .inr rfl, rfl⟩
  · repeat' decreasing_trivial_pre_omega
    refine cutR (lw3_R ha hb hI) ?_ fun v s h => h
    rintro s ⟨K, L, x7, x8, x9, x10, e, hJ, rfl⟩
    repeat' decreasing_trivial_pre_omega
    exact ⟨_, _, _, _, _, _, _, _, e, ⟨hJ.nd, hJ.bd, List.nil_sublist _⟩, .inr rfl, rfl⟩
end QM
namespace QM
open PySem PySem.Spec L2 QL QP
local macro_rules | `(tactic| decreasing_trivial_pre_omega) => `(tactic| first
  | apply QM.Step.go
  | refine ⟨rfl, ?_⟩
  | refine ⟨⟨rfl, rfl⟩, ?_⟩
  | refine ⟨_, rfl, ?_⟩
  | refine ⟨_, _, rfl, ?_⟩
  | refine ⟨Nat.le_of_ble_eq_true rfl, ?_⟩
  | refine wAt_r rfl ?_
  | refine wB_t rfl ?_
  | refine wB_f rfl ?_)
theorem lrn_none {a b : List Nat} {m : Nat} (h : lrn a b m = none) : ∀ n, m ≤ n → lrn a b n = none := fun n hn => by
  induction hn with
  | refl => exact h
  | step _ ih => rw [lrn, ih]; rfl
/-- every piece of at most k letters of one is one of another -/
def wi (a b : List Nat) (k : Nat) : Bool := (lrn a b (min k a.length)).isSome
theorem lies_R {a b : List Nat} {k : Nat} (ha : a.length ≤ 1000) (hb : b.length ≤ 1000) : Ret (F_lies_within [.str (tx a), .str (tx b), .int (k : Nat)]) (.fz (.bool (wi a b k))) := by
  unfold F_lies_within B_lies_within
  refine Ret.go ?_
  repeat' decreasing_trivial_pre_omega
  have e0 : (mergeDT [] [([Sum.inl 0, Sum.inl 0], PyData.bool true)] : List (D × D)) = kd [(0, 0)] := putT_kd (K := []) (p := (0, 0)) (fun h => (nomatch h))
  have e1 : ([PyData.tuple [PyData.int 0, PyData.int 0]] : List D) = wd [(0, 0)] := rfl
  rw [e0, e1]
  refine ⟨szb' (by omega), ?_⟩
  repeat' decreasing_trivial_pre_omega
  have en : (if ((a.length : Nat) : Int) < (k : Int) then ((a.length : Nat) : Int) else (k : Int)) = ((min k a.length : Nat) : Int) := by
    split <;> omega
  rw [en, Int.toNat_natCast]
  have sm : QL.sml ((min k a.length : Nat) : Int) = true := by
    have e : (2 : Int) ^ 62 = 4611686018427387904 := by decide
    unfold QL.sml
    rw [e]
    exact decide_eq_true ⟨by omega, by omega⟩
  refine ⟨sm, ?_⟩
  unfold wi
  generalize hN : min k a.length = N
  refine for_hidR (fun n r => ∃ K W x4 x5 x6 x7 x8 x9 x10, lrn a b n = some (K, W) ∧ WInv a b K [] ∧ WP x4 W ∧ r = ⟨[some (.fz (.str (tx a))), some (.fz (.str (tx b))), some (.fz (.int (k : Nat))), some (.ot (kd K)), x4, x5, x6, x7, x8, x9, x10], none⟩) (fun v _ => lrn a b N = none ∧ v = .fz (.bool false)) ⟨_, _, _, _, _, _, _, _, _, rfl, ⟨?_, ?_, List.nil_sublist _⟩, .inl rfl, rfl⟩ ?_ ?_ ?_
  · simp
  · intro x hx
    rw [List.mem_singleton.mp hx]
    exact ⟨Nat.zero_le _, Nat.zero_le _⟩
  · rintro n d r hd ⟨K, W, x4, x5, x6, x7, x8, x9, x10, e, hI, hW, rfl⟩
    rw [(rngL_get hd).1]
    refine ⟨_, rfl, Hid.monoR (lw4_R ha hb hI hW) ?_ ?_⟩
    · rintro s ⟨K2, L2, x4, x6, x7, x8, x9, x10, e2, hJ, hW2, rfl⟩
      exact ⟨_, _, _, _, _, _, _, _, _, by rw [lrn, e]; exact e2, hJ, hW2, rfl⟩
    · rintro v s ⟨e2, hv⟩
      exact ⟨lrn_none (m := n + 1) (by rw [lrn, e]; exact e2) N (rngL_get hd).2, hv⟩
  · rintro r ⟨K, W, x4, x5, x6, x7, x8, x9, x10, e, hI, hW, rfl⟩
    rw [show (rngL 0 N).length = N by simp [rngL]] at e
    rw [e]
    repeat' decreasing_trivial_pre_omega
    exact rfl
  · rintro v r ⟨e, rfl⟩
    rw [e]
    exact ⟨rfl, rfl⟩
end QM
namespace QM
open PySem PySem.Spec L2 QL QP
def wDc (d : D) (Q : List (D × D) → Prop) : Prop := ∃ kvs, d = .dict kvs ∧ isOb kvs = false ∧ Q kvs
instance {kvs : List (D × D)} {Q : List (D × D) → Prop} [n : NoOb kvs] : Step (wDc (.dict kvs) Q) (Q kvs) := ⟨fun q => ⟨_, rfl, n.h, q⟩⟩
section
variable {P : SV → S → Prop} {X : XPo} {r : S} {p : Po} {fk fx : S → Res D} {i : Nat} {sl : List (Option SV)} {tp : Option (Int × Int)} {kvs : List (D × D)} {Q : Option D → Prop} {a b : Int} {z : Str} {o : Option D}
instance {P : List D → S → Prop} : Step (wE (fDk i r) P X) (wE (fV i r) (fun d r => wDc d fun kvs => P (kysD kvs) r) X) := ⟨fun h => by
  unfold fDk
  refine wE_bind (wE_mono h fun d r h => ?_)
  obtain ⟨kvs, e, n, h⟩ := h
  subst e
  simp only [n, cond_false]
  exact h⟩
instance {G : D → S → Option S} {B : S → RS} : Step (wS (sForK i G B r) p) (wE (fDk i r) (fun ds r => wS (forF G B ds r) { p with ex := XN }) p.ex) := ⟨fun h => by
  unfold sForK
  refine wE_bindS (wE_mono h fun ds r h => ?_)
  generalize forF G B ds r = R at h ⊢
  cases R <;> first | exact h | exact h.elim⟩
theorem wLk_ft {k : D} {c : List Key} {x : D × D} [h : Get sl i (some (.fz (.dict (x :: kvs))))] (hk : keyT k = some c) (h0 : (keyT x.1).isSome = true) (q : Q (getT (x :: kvs) c)) : wLk ⟨sl, tp⟩ i k Q := ⟨_, by
  have e0 : keyD k = none := by cases k <;> first | rfl | cases hk
  unfold lkS
  dsimp only
  rw [h.eq]
  dsimp only
  rw [e0]
  dsimp only
  rw [hk]
  dsimp only
  rw [if_pos h0], q⟩
instance [h : Get sl i (some (.fz (.dict kvs)))] [NoOb kvs] : Step (wE (fGetS i fk ⟨sl, tp⟩) P X) (wE (fk ⟨sl, tp⟩) (fun k r => wLk r i k fun o => wSm' o fun d => P (.fz d) r) X) := ⟨w_getS isDS_f⟩
instance [h : Get sl i (some (.fz (.dict kvs)))] [NoOb kvs] : Step (wE (fGet1S i fk ⟨sl, tp⟩) P X) (wE (fk ⟨sl, tp⟩) (fun k r => wLk r i k fun o => P (.fz (o.getD .none)) r) X) := ⟨w_get1S isDS_f⟩
instance [h : Get sl i (some (.fz (.dict kvs)))] [NoOb kvs] : Step (wE (fGet2S i fk fx ⟨sl, tp⟩) P X) (wE (fk ⟨sl, tp⟩) (fun k r => wE (fx r) (fun x r => wLk r i k fun o => P (.fz (o.getD x)) r) X) X) := ⟨w_get2S isDS_f⟩
end
end QM
namespace QM
open PySem PySem.Spec L2 QL QP
section
variable {P : SV → S → Prop} {PL : List D → S → Prop} {X : XPo} {r : S} {p : Po} {fa fb fo : S → Res D} {FL : S → Res (List D)} {i n : Nat} {c f m : Str} {q : D → Bool} {fs fs' : List (D × D)} {d e v : D} {F : List D → FR} {B : S → RS} {sl : List (Option SV)} {tp : Option (Int × Int)}
class ShF (fs : List (D × D)) : Prop where
  h : fs.length < 1000
instance : ShF [] := ⟨by simp⟩
instance {a : D × D} : ShF [a] := ⟨by simp⟩
instance {a b : D × D} : ShF [a, b] := ⟨by simp⟩
class NeS (x f : Str) : Prop where
  h : x ≠ f
instance : NeS "least" "k" := ⟨by decide +kernel⟩
instance : NeS "k" "least" := ⟨by decide +kernel⟩
class PutF (f : Str) (d : D) (fs : List (D × D)) (fs' : outParam (List (D × D))) : Prop where
  h : putFD f d fs = fs'
instance : PutF f d [] [(.str f, d)] := ⟨rfl⟩
instance {x : Str} {e : D} {r r' : List (D × D)} [n : NeS x f] [h : PutF f d r r'] : PutF f d ((.str x, e) :: r) ((.str x, e) :: r') := ⟨by rw [putFD, if_neg n.h, h.h]⟩
def wOb (c : Str) (x : SV) (Q : List (D × D) → Prop) : Prop := ∃ fs, x = .ob c fs ∧ fs.length < 1000 ∧ Q fs
instance {Q : List (D × D) → Prop} [h : ShF fs] : Step (wOb c (.ob c fs) Q) (Q fs) := ⟨fun q => ⟨fs, rfl, h.h, q⟩⟩
def wPf (f : Str) (d : D) (fs : List (D × D)) (Q : List (D × D) → Prop) : Prop := Q (putFD f d fs)
instance {Q : List (D × D) → Prop} [h : PutF f d fs fs'] : Step (wPf f d fs Q) (Q fs') := ⟨fun q => by unfold wPf; rw [h.h]; exact q⟩
instance : Step (wS (sFst c i f fa r) p) (wE (fa r) (fun d r => wL r.sl i fun x => wOb c x fun fs => wPf f d fs fun fs => wU r.sl i (some (.ob c fs)) fun sl => wRS sl r.tp p.nx) p.ex) := ⟨fun h => by
  unfold sFst
  refine wE_bindS (wE_mono h fun d r h => ?_)
  obtain ⟨x, e, fs, e2, hl, hi, h⟩ := h
  subst e2
  rw [e]
  dsimp only
  rw [if_pos ⟨rfl, hl⟩]
  exact h⟩
def wMt (c m : Str) (d : D) (Q : Prop) : Prop := ∃ fs, fldsOf c d = some fs ∧ lookF m fs = none ∧ Q
instance : Step (wE (aMeth c m fo FL r) PL X) (wE (fo r) (fun d r => wMt c m d (wE (FL r) (fun ds r => PL (d :: ds) r) X)) X) := ⟨fun h => by
  unfold aMeth
  refine wE_bind (wE_mono h fun d r h => ?_)
  obtain ⟨fs, e, l, h⟩ := h
  rw [e]
  dsimp only
  rw [l]
  exact wE_bind h⟩
def wOwO (c : Str) (q : D → Bool) (d e : D) (Q : Prop) : Prop := (fldsOf c d).isSome = true ∧ q e = true ∧ Q
instance : Step (wE (aOwn c q fa fb r) PL X) (wE (fa r) (fun d r => wE (fb r) (fun e r => wOwO c q d e (PL [d, e] r)) X) X) := ⟨fun h => by
  unfold aOwn
  refine wE_bind (wE_mono h fun d r h => wE_bind (wE_mono h fun e r h => ?_))
  obtain ⟨h1, h2, h⟩ := h
  rw [h1, h2]
  exact h⟩
theorem mkO_R {ds : List D} (h : wS (B (mkS n (.ob c [] :: ds.map .fz) none)) ⟨fun r => r.sl[0]? = some (some (.ob c fs)), fun _ _ => False, fun _ => False, fun _ => False, XN⟩) : Ret (mkO (bodyI n c B) ds) (.fz (obD c fs)) := by
  unfold mkO bodyI
  generalize B (mkS n (.ob c [] :: ds.map .fz) none) = z at h ⊢
  cases z with
  | nx r =>
    have h : r.sl[0]? = some (some (.ob c fs)) := h
    unfold outI
    dsimp only
    rw [h]
    exact ⟨_, rfl, rfl⟩
  | _ => exact h.elim
end
def Kd (k : Nat) (u : List Nat) : D := obD "Kind" [(.str "least", .str (tx u)), (.str "k", .int k)]
section
variable {P : SV → S → Prop} {r : S} {k j : Nat} {u v : List Nat} {t : Int} {Q : Prop}
theorem kd_f : fldsOf "Kind" (Kd k u) = some [(.str "least", .str (tx u)), (.str "k", .int k)] := by
  unfold Kd fldsOf
  simp
instance : Step (wO (dFld "Kind" "k" (Kd k u)) r P) (P (.fz (.int k)) r) := ⟨fun q => ⟨.fz (.int k), by
  unfold dFld
  rw [kd_f]
  dsimp only
  rw [lookF, if_neg (by decide +kernel), lookF, if_pos rfl]
  rfl, q⟩⟩
instance : Step (wO (dFld "Kind" "least" (Kd k u)) r P) (P (.fz (.str (tx u))) r) := ⟨fun q => ⟨.fz (.str (tx u)), by
  unfold dFld
  rw [kd_f]
  dsimp only
  rw [lookF, if_pos rfl]
  rfl, q⟩⟩
instance : Step (wO (dIsC "Kind" (Kd k u)) r P) (P (.fz (.bool true)) r) := ⟨fun q => ⟨.fz (.bool true), by
  unfold dIsC
  rw [kd_f]
  rfl, q⟩⟩
instance : Step (wMt "Kind" "within" (Kd k u) Q) Q := ⟨fun q => ⟨_, kd_f, by
  rw [lookF, if_neg (by decide +kernel), lookF, if_neg (by decide +kernel)]
  rfl, q⟩⟩
instance : Step (wMt "Kind" "idle_behind" (Kd k u) Q) Q := ⟨fun q => ⟨_, kd_f, by
  rw [lookF, if_neg (by decide +kernel), lookF, if_neg (by decide +kernel)]
  rfl, q⟩⟩
instance : Step (wOwO "Kind" (qOb "Kind") (Kd k u) (Kd j v) Q) Q := ⟨fun q => ⟨by rw [kd_f]; rfl, by unfold qOb; rw [kd_f]; rfl, q⟩⟩
instance : Step (wOwO "Kind" qInt (Kd k u) (.int t) Q) Q := ⟨fun q => ⟨by rw [kd_f]; rfl, rfl, q⟩⟩
end
end QM
namespace QM
open PySem PySem.Spec L2 QL QP
local macro_rules | `(tactic| decreasing_trivial_pre_omega) => `(tactic| first
  | apply QM.Step.go
  | refine ⟨rfl, ?_⟩
  | refine ⟨⟨rfl, rfl⟩, ?_⟩
  | refine ⟨_, rfl, ?_⟩
  | refine ⟨_, _, rfl, ?_⟩
  | refine ⟨_, _, _, rfl, ?_⟩
  | refine ⟨Nat.le_of_ble_eq_true rfl, ?_⟩
  | refine wAt_r rfl ?_
  | refine wB_t rfl ?_
  | refine wB_f rfl ?_)
theorem kind_R {l : List Nat} {k : Nat} (hl : l.length ≤ 100) (tl : Tx l) : Ret (mkO F_Kind_init [.str (tx l), .int (k : Nat)]) (.fz (Kd k (nf k l))) := by
  have h1 := shortest0_R (k := k) hl tl
  have h2 := mustTP_R (good_tx (l := l) (by omega) tl)
  have h3 := mustKP_R (k := k)
  unfold F_Kind_init
  refine mkO_R ?_
  unfold B_Kind_init
  generalize F_shortest = F at h1 ⊢
  generalize F_must_be_text = G at h2 ⊢
  generalize F_must_be_reach = E at h3 ⊢
  simp only [mkS, List.map_cons, List.map_nil, List.length_cons, List.length_nil, List.replicate, Nat.reduceAdd, Nat.reduceSub, List.cons_append, List.nil_append]
  repeat' decreasing_trivial_pre_omega
  refine wF_ret h2 ?_
  repeat' decreasing_trivial_pre_omega
  refine wF_ret h3 ?_
  repeat' decreasing_trivial_pre_omega
  refine wF_ret h1 ?_
  repeat' decreasing_trivial_pre_omega
  rfl
theorem kind_eq_R {u v : List Nat} {k : Nat} : Ret (F_Kind_eq [Kd k u, Kd k v]) (.fz (.bool (decide (u = v)))) := by
  unfold F_Kind_eq B_Kind_eq
  refine Ret.go ?_
  repeat' decreasing_trivial_pre_omega
  refine wB_t (by simp) ?_
  repeat' decreasing_trivial_pre_omega
  all_goals rfl
theorem kind_add_R {u v : List Nat} {k : Nat} (hl : (u ++ v).length ≤ 100) (tl : Tx (u ++ v)) : Ret (F_Kind_add [Kd k u, Kd k v]) (.fz (Kd k (nf k (u ++ v)))) := by
  have h := kind_R (k := k) hl tl
  unfold F_Kind_add B_Kind_add
  generalize mkO F_Kind_init = F at h ⊢
  refine Ret.go ?_
  repeat' decreasing_trivial_pre_omega
  refine wB_t (by simp) ?_
  repeat' decreasing_trivial_pre_omega
  refine ⟨szb' (by rw [List.length_append] at hl; omega), ?_⟩
  repeat' decreasing_trivial_pre_omega
  refine wF_ret h ?_
  repeat' decreasing_trivial_pre_omega
  all_goals rfl
theorem kind_within_R {u v : List Nat} {k : Nat} (hu : u.length ≤ 1000) (hv : v.length ≤ 1000) : Ret (F_Kind_within [Kd k u, Kd k v]) (.fz (.bool (wi u v k))) := by
  have h := lies_R (k := k) hu hv
  unfold F_Kind_within B_Kind_within
  generalize F_lies_within = F at h ⊢
  refine Ret.go ?_
  repeat' decreasing_trivial_pre_omega
  refine wB_t (by simp) ?_
  repeat' decreasing_trivial_pre_omega
  refine wF_ret h ?_
  repeat' decreasing_trivial_pre_omega
  all_goals rfl
theorem kind_mul_R {u : List Nat} {k t : Nat} (hl : u.length * min t k ≤ 100) (hu : u.length ≤ 100) (tl : Tx u) (hk : k ≤ 100) : Ret (F_Kind_mul [Kd k u, .int (t : Nat)]) (.fz (Kd k (nf k (List.replicate (min t k) u).flatten))) := by
  have h := kind_R (l := (List.replicate (min t k) u).flatten) (k := k) (by simp; rw [Nat.mul_comm]; exact hl) (fun c hc => by
    simp only [List.mem_flatten, List.mem_replicate] at hc
    obtain ⟨x, ⟨_, rfl⟩, hc⟩ := hc
    exact tl c hc)
  unfold F_Kind_mul B_Kind_mul
  generalize mkO F_Kind_init = F at h ⊢
  have em : (if (k : Int) < (t : Int) then (k : Int) else (t : Int)) = ((min t k : Nat) : Int) := by split <;> omega
  refine Ret.go ?_
  repeat' decreasing_trivial_pre_omega
  by_cases e : u = []
  · subst e
    refine wB_t (by simp) ?_
    repeat' decreasing_trivial_pre_omega
    have e2 : (List.replicate (min t k) ([] : List Nat)).flatten = [] := by simp
    rw [e2] at h ⊢
    refine wF_ret h ?_
    repeat' decreasing_trivial_pre_omega
    rfl
  · refine wB_f (by simp [e]) ?_
    repeat' decreasing_trivial_pre_omega
    rw [em]
    have ee : (2 : Int) ^ 40 = 1099511627776 := by decide
    refine ⟨⟨by rw [Int.toNat_natCast]; exact szb' (by omega), by rw [ee]; omega, by rw [ee]; omega⟩, ?_⟩
    rw [Int.toNat_natCast]
    repeat' decreasing_trivial_pre_omega
    refine wF_ret h ?_
    repeat' decreasing_trivial_pre_omega
    rfl
end QM
namespace QM
open PySem PySem.Spec L2 QL QP
section
variable {k : Nat} {a b c x y z u v : List Nat}
/-- within, of texts -/
def Wn (k : Nat) (x y : List Nat) : Prop := ∀ p : List Nat, p.length ≤ k → p.Sublist x → p.Sublist y
theorem Alk.iff_wn : Alk k x y ↔ Wn k x y ∧ Wn k y x := ⟨fun h => ⟨fun p hp => (h p hp).mp, fun p hp => (h p hp).mpr⟩, fun h p hp => ⟨h.1 p hp, h.2 p hp⟩⟩
theorem Wn.app (h : Wn k x y) (h' : Wn k a b) : Wn k (x ++ a) (y ++ b) := fun p hp hs => by
  obtain ⟨p1, p2, rfl, h1, h2⟩ := List.sublist_append_iff.mp hs
  rw [List.length_append] at hp
  exact (h p1 (by omega) h1).append (h' p2 (by omega) h2)
theorem Wn.refl : Wn k x x := fun _ _ h => h
theorem Wn.trans (h : Wn k x y) (h' : Wn k y z) : Wn k x z := fun p hp q => h' p hp (h p hp q)
theorem Alk.app (h : Alk k x y) (h' : Alk k a b) : Alk k (x ++ a) (y ++ b) := Alk.iff_wn.mpr ⟨(Alk.iff_wn.mp h).1.app (Alk.iff_wn.mp h').1, (Alk.iff_wn.mp h).2.app (Alk.iff_wn.mp h').2⟩
theorem Alk.refl : Alk k x x := fun _ _ => Iff.rfl
theorem nf_app : nf k (nf k x ++ nf k y) = nf k (x ++ y) := nf_iff.mp ((nf_alk k x).symm.app (nf_alk k y).symm)
abbrev rp (n : Nat) (u : List Nat) : List Nat := (List.replicate n u).flatten
theorem rp_succ (n : Nat) (u : List Nat) : rp (n + 1) u = u ++ rp n u := by unfold rp; rw [List.replicate_succ, List.flatten_cons]
theorem rp_add (n m : Nat) (u : List Nat) : rp (n + m) u = rp n u ++ rp m u := by
  induction n with
  | zero => rw [Nat.zero_add]; rfl
  | succ n ih => rw [show n + 1 + m = (n + m) + 1 by omega, rp_succ, rp_succ, ih, List.append_assoc]
theorem rp_one (u : List Nat) : rp 1 u = u := by rw [rp_succ]; exact List.append_nil _
theorem Alk.rp (h : Alk k x y) : ∀ n, Alk k (rp n x) (rp n y)
  | 0 => Alk.refl
  | n + 1 => by rw [rp_succ, rp_succ]; exact h.app (Alk.rp h n)
theorem sub_rp : ∀ (p : List Nat), (∀ c ∈ p, c ∈ u) → ∀ n, p.length ≤ n → p.Sublist (rp n u)
  | [], _, n, _ => List.nil_sublist _
  | c :: p, h, 0, hn => by simp at hn
  | c :: p, h, n + 1, hn => by
    rw [rp_succ]
    exact (List.singleton_sublist.mpr (h c (by simp))).append (sub_rp p (fun d hd => h d (List.mem_cons_of_mem _ hd)) n (by simpa using hn))
theorem mem_rp {n : Nat} {c : Nat} (h : c ∈ rp n u) : c ∈ u := by
  unfold rp at h
  simp only [List.mem_flatten, List.mem_replicate] at h
  obtain ⟨w, ⟨_, rfl⟩, h⟩ := h
  exact h
theorem alk_rp (n m : Nat) (hn : k ≤ n) (hm : k ≤ m) : Alk k (rp n u) (rp m u) := fun p hp => ⟨fun h => sub_rp p (fun c hc => mem_rp (h.subset hc)) m (by omega), fun h => sub_rp p (fun c hc => mem_rp (h.subset hc)) n (by omega)⟩
theorem nf_rp (n : Nat) : nf k (rp (min n k) (nf k x)) = nf k (rp n x) := by
  refine (nf_iff.mp ((nf_alk k x).symm.rp _)).trans (nf_iff.mp ?_)
  by_cases h : n ≤ k
  · rw [Nat.min_eq_left h]; exact Alk.refl
  · exact alk_rp _ _ (by omega) (by omega)
end
/-- a text whose normal text is short -/
class ON (k : Nat) (n : outParam Nat) (x : List Nat) : Prop where
  le : (nf k x).length ≤ n
  tx : Tx (nf k x)
theorem nfTx_app {k : Nat} {x y : List Nat} (h : Tx (nf k x)) (h' : Tx (nf k y)) : Tx (nf k x ++ nf k y) := fun c hc => (List.mem_append.mp hc).elim (h c) (h' c)
instance {k n m : Nat} {x y : List Nat} [h : ON k n x] [h' : ON k m y] : ON k (n + m) (x ++ y) := ⟨by
  rw [← nf_app]
  refine Nat.le_trans (nf_len _ _) ?_
  rw [List.length_append]
  have := h.le; have := h'.le; omega, by rw [← nf_app]; exact nf_Tx (nfTx_app h.tx h'.tx)⟩
theorem rp_len (n : Nat) (u : List Nat) : (rp n u).length = n * u.length := by simp [rp]
class Le4 (k : Nat) : Prop where
  h : k ≤ 4
instance {k n t : Nat} {x : List Nat} [h : ON k n x] [h4 : Le4 k] : ON k (4 * n) (rp t x) := ⟨by
  rw [← nf_rp]
  refine Nat.le_trans (nf_len _ _) ?_
  rw [rp_len]
  have h1 := h.le
  have h2 := h4.h
  exact Nat.mul_le_mul (by omega) h1, by
  rw [← nf_rp]
  exact nf_Tx fun c hc => h.tx c (mem_rp hc)⟩
section
variable {P : SV → Prop} {X : Str → List (Str × D) → Prop} {k n m t : Nat} {x y : List Nat}
instance : Step (wF (F_Kind_eq [Kd k x, Kd k y]) P X) (P (.fz (.bool (decide (x = y))))) := ⟨fun q => wF_ret kind_eq_R q⟩
instance [h : ON k n x] [h' : ON k m y] : Step (wF (F_Kind_add [Kd k (nf k x), Kd k (nf k y)]) P X) (n + m ≤ 100 ∧ P (.fz (Kd k (nf k (x ++ y))))) := ⟨fun q => by
  have h1 := h.le
  have h2 := h'.le
  have e := kind_add_R (k := k) (u := nf k x) (v := nf k y) (by rw [List.length_append]; omega) (nfTx_app h.tx h'.tx)
  rw [nf_app] at e
  exact wF_ret e q.2⟩
instance {a : Int} [h : ON k n x] [h4 : Le4 k] : Step (wF (F_Kind_mul [Kd k (nf k x), .int a]) P X) (n * 4 ≤ 100 ∧ 0 ≤ a ∧ P (.fz (Kd k (nf k (rp a.toNat x))))) := ⟨fun q => by
  have h1 := h.le
  have h2 := h4.h
  have h3 : (nf k x).length * min a.toNat k ≤ n * 4 := Nat.mul_le_mul h1 (by omega)
  have e := kind_mul_R (k := k) (u := nf k x) (t := a.toNat) (by omega) (by omega) h.tx (by omega)
  rw [show (List.replicate (min a.toNat k) (nf k x)).flatten = rp (min a.toNat k) (nf k x) from rfl, nf_rp, Int.toNat_of_nonneg q.2.1] at e
  exact wF_ret e q.2.2⟩
instance [h : ON k n x] [h' : ON k m y] : Step (wF (F_Kind_within [Kd k (nf k x), Kd k (nf k y)]) P X) (n + m ≤ 1000 ∧ P (.fz (.bool (wi (nf k x) (nf k y) k)))) := ⟨fun q => by
  have h1 := h.le
  have h2 := h'.le
  exact wF_ret (kind_within_R (by omega) (by omega)) q.2⟩
end
end QM
namespace QM
open PySem PySem.Spec L2 QL QP
local macro_rules | `(tactic| decreasing_trivial_pre_omega) => `(tactic| first
  | apply QM.Step.go
  | refine ⟨rfl, ?_⟩
  | refine ⟨⟨rfl, rfl⟩, ?_⟩
  | refine ⟨_, rfl, ?_⟩
  | refine ⟨_, _, rfl, ?_⟩
  | refine ⟨Nat.le_of_ble_eq_true rfl, ?_⟩
  | refine wAt_r rfl ?_
  | refine wB_t rfl ?_
  | refine wB_f rfl ?_)
instance {F : Ft} : NoOb (td F) := ⟨by cases F <;> rfl⟩
theorem wLk_td {sl : List (Option SV)} {tp : Option (Int × Int)} {i : Nat} {F : Ft} {p : Pr} {Q : Option D → Prop} [h : Get sl i (some (.fz (.dict (td F))))] (h0 : F ≠ []) (q : Q ((ftv F p).map fun v => PyData.int (v : Nat))) : wLk ⟨sl, tp⟩ i (prD p) Q := by
  cases F with
  | nil => exact absurd rfl h0
  | cons x F =>
    have h : Get sl i (some (.fz (.dict ((prD x.1, PyData.int (x.2 : Nat)) :: td F)))) := h
    refine wLk_ft (x := (prD x.1, PyData.int (x.2 : Nat))) (kvs := td F) (c := kyP p) (kyP_eq.mpr rfl) (by rw [show keyT (prD x.1) = some (kyP x.1) from kyP_eq.mpr rfl]; rfl) ?_
    rw [← getT_td] at q
    exact q
theorem Tok.ne {a b : List Nat} {k : Int} {F : Ft} (h : Tok a b k F) : F ≠ [] := fun e => by
  have := h.z0
  rw [e] at this
  cases this
theorem td_get {F : Ft} {k : Nat} {d : D} (h : (kysD (td F))[k]? = some d) : ∃ x, F[k]? = some x ∧ d = prD x.1 := by
  unfold kysD td at h
  rw [List.map_map, List.getElem?_map] at h
  obtain ⟨c, e, rfl⟩ := Option.map_eq_some_iff.mp h
  exact ⟨c, e, rfl⟩
theorem is_entry_R {a b : List Nat} {p : Pr} {v : Nat} (ha : a.length ≤ 1000) (hb : b.length ≤ 1000) (h1 : p.1 ≤ a.length) (h2 : p.2 ≤ b.length) : Ret (F_is_entry [.str (tx a), .str (tx b), prD p, .int (v : Nat)]) (.fz (.bool true)) := by
  have c1 : Ret (F_is_count [.int (p.1 : Nat)]) (.fz (.bool true)) := goodK_int (by omega)
  have c2 : Ret (F_is_count [.int (p.2 : Nat)]) (.fz (.bool true)) := goodK_int (by omega)
  have c3 : Ret (F_is_count [.int (v : Nat)]) (.fz (.bool true)) := goodK_int (by omega)
  refine Ret.go ?_
  unfold B_is_entry
  generalize F_is_count = G at c1 c2 c3 ⊢
  repeat' decreasing_trivial_pre_omega
  refine wF_ret c1 ?_
  repeat' decreasing_trivial_pre_omega
  refine wF_ret c2 ?_
  repeat' decreasing_trivial_pre_omega
  refine ⟨szb' (by omega), ?_⟩
  repeat' decreasing_trivial_pre_omega
  refine wB_t (decide_eq_true (by omega)) ?_
  repeat' decreasing_trivial_pre_omega
  refine ⟨szb' (by omega), ?_⟩
  repeat' decreasing_trivial_pre_omega
  refine wB_t (decide_eq_true (by omega)) ?_
  repeat' decreasing_trivial_pre_omega
  refine wF_ret c3 ?_
  exact ⟨rfl, rfl⟩
abbrev Ic (a b : List Nat) (F : Ft) (x3 x4 x5 x6 : Option SV) : S := ⟨[some (.fz (.str (tx a))), some (.fz (.str (tx b))), some (.fz (.dict (td F))), x3, x4, x5, x6], none⟩
theorem ic_n {a b : List Nat} {F : Ft} {x3 x4 : Option SV} : Hid (wS (is_carried_v3_b1 (Ic a b F x3 x4 (some (.fz .none)) (some (.fz .none)))) (Pn fun r => ∃ x4 x5 x6, r = Ic a b F x3 x4 x5 x6)) := by
  refine ⟨?_⟩
  unfold is_carried_v3_b1
  repeat' decreasing_trivial_pre_omega
  exact ⟨_, _, _, rfl⟩
theorem ic_s {a b : List Nat} {F : Ft} {x4 : Option SV} {p : Pr} {i j u v : Nat} (h0 : F ≠ []) (hv : ftv F p = some v) (hu : ftv F (i, j) = some u) (hle : u ≤ v + 1) :
    Hid (wS (is_carried_v3_b1 (Ic a b F (some (.fz (prD p))) x4 (some (.fz (.int (i : Nat)))) (some (.fz (.int (j : Nat)))))) (Pn fun r => ∃ x4 x5 x6, r = Ic a b F (some (.fz (prD p))) x4 x5 x6)) := by
  refine ⟨?_⟩
  unfold is_carried_v3_b1
  repeat' decreasing_trivial_pre_omega
  refine wLk_td h0 ?_
  rw [hv]
  repeat' decreasing_trivial_pre_omega
  refine wLk_td (p := (i, j)) h0 ?_
  rw [hu]
  repeat' decreasing_trivial_pre_omega
  refine wLk_td h0 ?_
  rw [hv]
  repeat' decreasing_trivial_pre_omega
  refine wB_f (decide_eq_false (by omega)) ?_
  repeat' decreasing_trivial_pre_omega
  exact ⟨_, _, _, rfl⟩
theorem is_carried_R {a b : List Nat} {k : Int} {F : Ft} {x : Pr × Nat} (ha : a.length ≤ 1000) (hb : b.length ≤ 1000) (h : Tok a b k F) (hx : x ∈ F) (hk : (x.2 : Int) < k) : Ret (F_is_carried_v3 [.str (tx a), .str (tx b), .dict (td F), prD x.1]) (.fz (.bool true)) := by
  have R1 := moves_R (i := x.1.1) (j := x.1.2) ha hb
  have hv : ftv F x.1 = some x.2 := ftv_some h.nd hx
  have i1 := fun x3 x4 => @ic_n a b F x3 x4
  have i2 := fun x4 i j u => @ic_s a b F x4 x.1 i j u x.2 h.ne hv
  refine Ret.go ?_
  unfold B_is_carried_v3
  generalize is_carried_v3_b1 = B1 at i1 i2 ⊢
  generalize F_moves_v2 = Fm at R1 ⊢
  repeat' decreasing_trivial_pre_omega
  refine wF_ret R1 ?_
  repeat' decreasing_trivial_pre_omega
  refine for_hid (fun n r => ∃ x4 x5 x6, r = Ic a b F (some (.fz (prD x.1))) x4 x5 x6) ⟨_, _, _, rfl⟩ ?_ ?_
  · rintro n d r hd ⟨x4, x5, x6, rfl⟩
    obtain ⟨c, hc, rfl⟩ := mvs_get hd
    refine ⟨_, rfl, ?_⟩
    rcases h.ca x hx hk c (List.mem_of_getElem? hc) with ⟨e1, e2⟩ | ⟨i', j', v, e1, e2, hle, hm⟩
    · rw [e1, e2]
      exact i1 _ _
    · rw [e1, e2]
      exact i2 _ i' j' v (ftv_some h.nd hm) hle
  · rintro r ⟨x4, x5, x6, rfl⟩
    repeat' decreasing_trivial_pre_omega
    exact rfl
theorem filt_true {f : D → Option D} (h : ∀ d y, f d = some y → y = .bool true) : ∀ ds : List D, ∃ n, ds.filterMap f = (List.replicate n true).map PyData.bool
  | [] => ⟨0, rfl⟩
  | d :: ds => by
    obtain ⟨n, e⟩ := filt_true h ds
    cases q : f d with
    | none => exact ⟨n, by rw [List.filterMap_cons, q]; exact e⟩
    | some y =>
      refine ⟨n + 1, ?_⟩
      rw [List.filterMap_cons, q, h d y q, List.replicate_succ, List.map_cons]
      exact congrArg _ e
theorem rep_all (n : Nat) : (List.replicate n true).all id = true := by
  rw [List.all_eq_true]
  intro b hb
  rw [(List.mem_replicate.mp hb).2]; rfl
def carF (F : Ft) (k : Int) : D → Option D
  | .tuple [.int i, .int j] => match ftv F (i.toNat, j.toNat) with
    | some v => if (v : Int) < k then some (.bool true) else none
    | none => none
  | _ => none
theorem carF_true (F : Ft) (k : Int) : ∀ d y, carF F k d = some y → y = .bool true := by
  intro d y h
  unfold carF at h
  split at h
  · split at h
    · split at h
      · exact (Option.some.inj h).symm
      · cases h
    · cases h
  · cases h
theorem carF_at {F : Ft} {k : Int} {p : Pr} {v : Nat} (h : ftv F p = some v) : carF F k (prD p) = if (v : Int) < k then some (.bool true) else none := by
  show (match ftv F ((p.1 : Int).toNat, (p.2 : Int).toNat) with
    | some v => if (v : Int) < k then some (PyData.bool true) else none
    | none => none) = _
  rw [Int.toNat_natCast, Int.toNat_natCast, h]
theorem td_mem {F : Ft} {d : D} (h : d ∈ kysD (td F)) : ∃ x ∈ F, d = prD x.1 := by
  obtain ⟨k, hk⟩ := List.getElem?_of_mem h
  obtain ⟨x, hx, e⟩ := td_get hk
  exact ⟨x, List.mem_of_getElem? hx, e⟩
theorem kys_len (F : Ft) : (kysD (td F)).length = F.length := by unfold kysD td; rw [List.length_map, List.length_map]
theorem is_table_R {a b : List Nat} {k : Nat} {F : Ft} (ga : Good (.str (tx a))) (gb : Good (.str (tx b))) (ha : a.length ≤ 1000) (hb : b.length ≤ 1000) (h : Tok a b (k : Nat) F) :
    Ret (F_is_table_v3 [.str (tx a), .str (tx b), .int (k : Nat), .dict (td F)]) (.fz (.bool true)) := by
  have hv : ftv F (0, 0) = some 0 := ftv_some h.nd h.z0
  have h1 := textsP_R ga gb
  have h2 := mustKP_R (k := k)
  have i1 := fun x hx => @is_entry_R a b x.1 x.2 ha hb (h.bd x hx).1 (h.bd x hx).2
  have i2 := fun x hx hk => @is_carried_R a b k F x ha hb h hx hk
  have hF : F.length ≤ 1002001 := (TInv.small (a := a) (b := b) (F := F) (L := []) ⟨h.nd, h.bd, List.nil_sublist _⟩ ha hb).1
  refine Ret.go ?_
  unfold B_is_table_v3
  generalize F_must_be_texts_v2 = G1 at h1 ⊢
  generalize F_must_be_reach = G2 at h2 ⊢
  repeat' decreasing_trivial_pre_omega
  refine wF_ret h1 ?_
  repeat' decreasing_trivial_pre_omega
  refine wF_ret h2 ?_
  repeat' decreasing_trivial_pre_omega
  refine lc_map (fun _ => some (.bool true)) (by rw [kys_len, sizeLine_eq]; omega) (fun d hd => ?_) ?_
  · obtain ⟨x, hx, rfl⟩ := td_mem hd
    have c1 := i1 x hx
    unfold is_table_v3_e1
    generalize F_is_entry = G3 at c1 ⊢
    repeat' decreasing_trivial_pre_omega
    refine wLk_td h.ne ?_
    rw [ftv_some h.nd hx]
    repeat' decreasing_trivial_pre_omega
    refine wF_ret c1 ?_
    repeat' decreasing_trivial_pre_omega
    rfl
  · obtain ⟨n, e⟩ := filt_true (f := fun _ => some (.bool true)) (fun d y h => (Option.some.inj h).symm) (kysD (td F))
    rw [e]
    repeat' decreasing_trivial_pre_omega
    refine ⟨⟨rfl, ok_bools _⟩, ?_⟩
    rw [any_bool, rep_all]
    repeat' decreasing_trivial_pre_omega
    refine wLk_td (p := (0, 0)) h.ne ?_
    rw [hv]
    repeat' decreasing_trivial_pre_omega
    refine lc_map (carF F k) (by rw [kys_len, sizeLine_eq]; omega) (fun d hd => ?_) ?_
    · obtain ⟨x, hx, rfl⟩ := td_mem hd
      have c1 := i2 x hx
      have c2 := ftv_some h.nd hx
      rw [carF_at c2]
      unfold is_table_v3_t2 is_table_v3_e3
      generalize F_is_carried_v3 = G3 at c1 ⊢
      repeat' decreasing_trivial_pre_omega
      refine wLk_td h.ne ?_
      rw [c2]
      repeat' decreasing_trivial_pre_omega
      by_cases hk : (x.2 : Int) < (k : Nat)
      · rw [if_pos hk]
        refine wB_t (decide_eq_true hk) ?_
        repeat' decreasing_trivial_pre_omega
        refine wF_ret (c1 hk) ?_
        repeat' decreasing_trivial_pre_omega
        rfl
      · rw [if_neg hk]
        refine wB_f (decide_eq_false hk) ?_
        repeat' decreasing_trivial_pre_omega
        rfl
    · obtain ⟨n, e⟩ := filt_true (carF_true F k) (kysD (td F))
      rw [e]
      repeat' decreasing_trivial_pre_omega
      refine ⟨⟨rfl, ok_bools _⟩, ?_⟩
      rw [any_bool, rep_all]
      exact ⟨rfl, rfl⟩
end QM
namespace QM
open PySem PySem.Spec L2 QL QP
def wNg (x : SV) (Q : Bool → Prop) : Prop := ∃ b, x = .fz (.bool b) ∧ Q b
section
variable {P : SV → S → Prop} {X : XPo} {r : S} {k j : Nat} {u v : List Nat} {t : Int} {Q : Prop} {QB : Bool → Prop} {G : S → Res SV} {b : Bool}
instance : Step (wE (fNeg G r) P X) (wE (G r) (fun x r => wNg x fun b => P (.fz (.bool (!b))) r) X) := ⟨fun h => by
  unfold fNeg
  refine wE_bind (wE_mono h fun x r h => ?_)
  obtain ⟨b, rfl, h⟩ := h
  exact h⟩
instance : Step (wNg (.fz (.bool b)) QB) (QB b) := ⟨fun h => ⟨b, rfl, h⟩⟩
instance : Step (wOwO "Kind" (qAny "Kind") (Kd k u) (Kd j v) Q) Q := ⟨fun q => ⟨by rw [kd_f]; rfl, by unfold qAny; rw [kd_f]; rfl, q⟩⟩
end
section
variable {P : SV → S → Prop} {X : XPo} {r : S} {fa : S → Res D}
instance : Step (wE (eDictL fa r) P X) (wE (fa r) (fun d r => ∃ ds ps cs, d = .list ds ∧ prsKV ds = some ps ∧ keysDT ps = some cs ∧ P (.ot (mergeDT [] cs)) r) X) := ⟨fun h => by
  unfold eDictL
  refine wE_bind (wE_mono h fun d r h => ?_)
  obtain ⟨ds, ps, cs, rfl, e1, e2, h⟩ := h
  dsimp only
  rw [e1]
  dsimp only
  rw [e2]
  exact h⟩
end
section
variable {vs vs1 : List Nat} {G G1 : D → S → Option S} {T T1 : S → Res Bool} {I I1 : S → Res (List D)} {F : S → Res D} {r r3 r0 : S} {P : SV → S → Prop} {X : XPo} {ds es : List D}
def wLc2 (vs vs1 : List Nat) (G : D → S → Option S) (T : S → Res Bool) (I1 : S → Res (List D)) (G1 : D → S → Option S) (T1 : S → Res Bool) (F : S → Res D) (ds : List D) (r : S) (P : SV → S → Prop) : Prop :=
  ∃ acc r', lc2F vs vs1 G T I1 G1 T1 F ds [] ⟨wipeS vs r.sl, r.tp⟩ = .ok acc r' ∧ P (.ol acc) ⟨restS vs r.sl r'.sl, r'.tp⟩
instance : Step (wE (fLc2 vs vs1 I G T I1 G1 T1 F r) P X) (wE (I r) (fun ds r => wLc2 vs vs1 G T I1 G1 T1 F ds r P) X) := ⟨fun h => wE_bind (wE_mono h fun ds r h => by
  obtain ⟨acc, r', e, h⟩ := h
  show wE (match lc2F vs vs1 G T I1 G1 T1 F ds [] { r with sl := wipeS vs r.sl } with
    | .ok acc r' => Res.ok (SV.ol acc) { r' with sl := restS vs r.sl r'.sl }
    | _ => Res.bad) P X
  rw [show ({ r with sl := wipeS vs r.sl } : S) = ⟨wipeS vs r.sl, r.tp⟩ from rfl, e]
  exact h)⟩
end
end QM
namespace K19
open PySem PySem.Spec L2 QL QP QM
local macro_rules | `(tactic| decreasing_trivial_pre_omega) => `(tactic| first
  | apply QM.Step.go
  | refine ⟨rfl, ?_⟩
  | refine ⟨⟨rfl, rfl⟩, ?_⟩
  | refine ⟨_, rfl, ?_⟩
  | refine ⟨_, _, rfl, ?_⟩
  | refine ⟨_, _, _, rfl, ?_⟩
  | refine ⟨Nat.le_of_ble_eq_true rfl, ?_⟩
  | refine wAt_r rfl ?_
  | refine wB_t rfl ?_
  | refine wB_f rfl ?_)
def B_law_1 : S → RS := sParN [3, 4] (oCons (fCallT 2 1 F__law_pick (aCons (fC (.int 20)) (aNil))) (oCons (fOp dAdd (fC (.int 1)) (fD (fCallT 2 1 F__law_pick (aCons (fC (.int 10)) (aNil))))) (oNil)))
def B_law_2 : S → RS := sIf (tOrF (tV (fD (fOp dNe (fD (fCall 2 F_parting_v4 (aCons (fD (fOp dMul (fC (.str "q")) (gV 3))) (aCons (fD (fOp dMul (fC (.str "q")) (fD (fOp dAdd (gV 3) (gV 4))))) (aNil))))) (fD (fOp dMul (fC (.str "q")) (fD (fOp dAdd (gV 3) (fC (.int 1))))))))) (tV (fD (fOp dNe (fD (fCall 2 F_likeness_v4 (aCons (fD (fOp dMul (fC (.str "ab")) (gV 3))) (aCons (fD (fOp dMul (fC (.str "ab")) (fD (fOp dAdd (gV 3) (gV 4))))) (aNil))))) (gV 3))))) (sRet (eD (fC (.bool false)))) (sNext)
def B_law_3 : S → RS := sIf (tV (fD (fOp dNe (fD (fCall 2 F_parting_v4 (aCons (fD (fOp dMul (fC (.str "abc")) (gV 3))) (aCons (fD (fOp dMul (fC (.str "abc")) (fD (fOp dAdd (gV 3) (gV 4))))) (aNil))))) (fD (fOp dMul (fC (.str "a")) (fD (fOp dAdd (gV 3) (fC (.int 1))))))))) (sRet (eD (fC (.bool false)))) (sNext)
def B_law_4 : S → RS := sAsg 5 (eDictL (fD (fLc [6] (fRng1 (aCons (fD (fOp dAdd (gV 3) (fC (.int 1)))) (aNil))) (gNm 6) (tYesF) (law_e1))))
def B_law_5 : S → RS := sIf (tV (fD (fOp dNe (fD (fLc [7] (fItems (fD (eTup (aCons (fV 3) (aCons (fD (fOp dAdd (gV 3) (fC (.int 1)))) (aCons (fD (fOp dPow (fC (.int 10)) (fC (.int 30)))) (aNil))))))) (gNm 7) (tYesF) (law_e2))) (fD (eLst (aCons (fC (.bool true)) (aCons (fC (.bool false)) (aCons (fC (.bool false)) (aNil))))))))) (sRet (eD (fC (.bool false)))) (sNext)
def B_law_6 : S → RS := sIf (tAndF (tV (fD (fOp dGt (gV 3) (fC (.int 0))))) (tV (fD (fOp dNe (fD (fCall 2 F_likeness_v4 (aCons (fD (fOp dMul (fC (.str "ab")) (gV 3))) (aCons (fD (fOp dMul (fC (.str "ba")) (gV 3))) (aNil))))) (gV 3))))) (sRet (eD (fC (.bool false)))) (sNext)
def B_law_7 : S → RS := sIf (tOrF (tNotF (tV (fD (fCall 3 F_alike_v4 (aCons (fD (fOp dMul (fC (.str "abc")) (fD (fOp dAdd (gV 3) (fC (.int 1)))))) (aCons (fD (fOp dMul (fD (fOp dMul (fC (.str "cba")) (fD (fOp dAdd (gV 3) (fC (.int 1)))))) (fC (.int 2)))) (aCons (fD (fOp dAdd (gV 3) (fC (.int 1)))) (aNil)))))))) (tV (fD (fOp dNe (fD (fCall 3 F_alike_v4 (aCons (fD (fOp dMul (fC (.str "abc")) (gV 3))) (aCons (fD (fOp dMul (fC (.str "ab")) (gV 3))) (aCons (fC (.int 1)) (aNil)))))) (fD (fOp dEq (gV 3) (fC (.int 0)))))))) (sRet (eD (fC (.bool false)))) (sNext)
theorem B_law_eq : B_law = sSeq (B_law_1) (sSeq (B_law_2) (sSeq (B_law_3) (sSeq (B_law_4) (sSeq (B_law_5) (sSeq (B_law_6) (B_law_7)))))) := rfl
section
variable {a b w : List Nat} {n m : Nat}
theorem rp_q (c n : Nat) : rp n [c] = List.replicate n c := by
  induction n with
  | zero => rfl
  | succ n ih => rw [rp_succ, ih]; rfl
theorem part_of (h : parts a b w) (hm : ∀ v, parts a b v → w.length < v.length ∨ (w.length = v.length ∧ ¬ v < w)) : partL a b = some w := by
  have sp := partL_spec a b
  cases e : partL a b with
  | none => rw [e] at sp; exact absurd h (sp w)
  | some u =>
    rw [e] at sp
    have h1 := sp.2 w h
    have h2 := hm u sp.1
    have hl : u.length = w.length := by omega
    have n1 : ¬ w < u := by rcases h1 with h1 | h1; omega; exact h1.2
    have n2 : ¬ u < w := by rcases h2 with h2 | h2; omega; exact h2.2
    have : u = w := List.le_antisymm (List.not_lt.mp n1) (List.not_lt.mp n2)
    rw [this]
theorem lk_of (h : ∀ v : List Nat, v.length ≤ n → (v.Sublist a ↔ v.Sublist b)) (hw : w.length = n + 1) (hp : parts a b w) : lkD a b = .int (n : Nat) := by
  have sp := partL_spec a b
  unfold lkD
  cases e : partL a b with
  | none => rw [e] at sp; exact absurd hp (sp w)
  | some u =>
    rw [e] at sp
    have h1 := sp.2 w hp
    have h2 : ¬ u.length ≤ n := fun z => by
      rcases parts_iff.mp sp.1 with ⟨x, y⟩ | ⟨x, y⟩
      · exact y ((h u z).mp x)
      · exact y ((h u z).mpr x)
    have : (u.length : Int) - 1 = (n : Int) := by omega
    show PyData.int ((u.length : Int) - 1) = _
    rw [this]
theorem pt_of (h : partL a b = some w) : ptD a b = .str (tx w) := by unfold ptD; rw [h]
theorem rep_min (c : Nat) : ∀ {v : List Nat}, (∀ x ∈ v, c ≤ x) → ¬ v < List.replicate v.length c
  | [], _ => by intro h; cases h
  | x :: v, h => fun z => by
    rw [List.length_cons, List.replicate_succ] at z
    rcases List.cons_lt_cons_iff.mp z with z | ⟨_, z⟩
    · have := h x (by simp); omega
    · exact rep_min c (fun y hy => h y (List.mem_cons_of_mem _ hy)) z
theorem sub_rep {c j n : Nat} {v : List Nat} (h : v.Sublist (List.replicate n c)) : ∃ j, j ≤ n ∧ v = List.replicate j c := by
  obtain ⟨j, hj, rfl⟩ := List.sublist_replicate_iff.mp h
  exact ⟨j, hj, rfl⟩
theorem rep_sub {c j n : Nat} : (List.replicate j c).Sublist (List.replicate n c) ↔ j ≤ n := List.replicate_sublist_replicate c
theorem part_q (hm : 1 ≤ m) : partL (List.replicate n 113) (List.replicate (n + m) 113) = some (List.replicate (n + 1) 113) := by
  refine part_of (parts_iff.mpr (.inr ⟨rep_sub.mpr (by omega), fun z => by have := rep_sub.mp z; omega⟩)) fun v hv => ?_
  rcases parts_iff.mp hv with ⟨x, y⟩ | ⟨x, y⟩
  · obtain ⟨j, hj, rfl⟩ := sub_rep (j := 0) x
    exact absurd (rep_sub.mpr (by omega)) y
  · obtain ⟨j, hj, rfl⟩ := sub_rep (j := 0) x
    have : n < j := Nat.lt_of_not_le fun z => y (rep_sub.mpr z)
    rw [List.length_replicate, List.length_replicate]
    rcases Nat.lt_or_ge (n + 1) j with z | z
    · exact .inl z
    · obtain rfl : j = n + 1 := by omega
      exact .inr ⟨rfl, List.lt_irrefl _⟩
theorem cnt_rp (c : Nat) (u : List Nat) : ∀ n, (rp n u).count c = n * u.count c
  | 0 => by simp [rp]
  | n + 1 => by rw [rp_succ, List.count_append, cnt_rp c u n, Nat.succ_mul, Nat.add_comm]
/-- rounds of letters against more rounds: the first letter once more -/
theorem rounds_agree {u v : List Nat} (hv : v.length ≤ n) : v.Sublist (rp n u) ↔ v.Sublist (rp (n + m) u) := alk_rp (k := n) n (n + m) (Nat.le_refl _) (Nat.le_add_right _ _) v hv
theorem a_sub {c : Nat} {u : List Nat} (hc : c ∈ u) {j n : Nat} (h : j ≤ n) : (List.replicate j c).Sublist (rp n u) :=
  sub_rp _ (fun d hd => by rw [(List.mem_replicate.mp hd).2]; exact hc) n (by simpa using h)
theorem a_parts {c : Nat} {u : List Nat} (hc : u.count c = 1) (hm : 1 ≤ m) : parts (rp n u) (rp (n + m) u) (List.replicate (n + 1) c) := by
  have hmem : c ∈ u := List.count_pos_iff.mp (by omega)
  refine parts_iff.mpr (.inr ⟨a_sub hmem (by omega), fun z => ?_⟩)
  have := z.count_le c
  rw [cnt_rp, hc, List.count_replicate_self] at this
  omega
theorem lk_ab (hm : 1 ≤ m) : lkD (rp n [97, 98]) (rp (n + m) [97, 98]) = .int (n : Nat) :=
  lk_of (fun v hv => rounds_agree hv) (by simp) (a_parts (c := 97) (by decide) hm)
theorem pt_abc (hm : 1 ≤ m) : partL (rp n [97, 98, 99]) (rp (n + m) [97, 98, 99]) = some (List.replicate (n + 1) 97) := by
  refine part_of (a_parts (by decide) hm) fun v hv => ?_
  have h2 : ¬ v.length ≤ n := fun z => by
    rcases parts_iff.mp hv with ⟨x, y⟩ | ⟨x, y⟩
    · exact y ((rounds_agree z).mp x)
    · exact y ((rounds_agree z).mpr x)
  have hl : ∀ x ∈ v, 97 ≤ x := fun x hx => by
    have hx' : x ∈ [97, 98, 99] := by
      rcases parts_iff.mp hv with ⟨z, _⟩ | ⟨z, _⟩
      · exact mem_rp (z.subset hx)
      · exact mem_rp (z.subset hx)
    simp only [List.mem_cons, List.not_mem_nil, or_false] at hx'
    omega
  rw [List.length_replicate]
  rcases Nat.lt_or_ge (n + 1) v.length with z | z
  · exact .inl z
  · have e : v.length = n + 1 := by omega
    refine .inr ⟨e.symm, ?_⟩
    rw [← e]
    exact rep_min 97 hl
theorem rp_snoc (n : Nat) (u : List Nat) : rp (n + 1) u = rp n u ++ u := by rw [rp_add, rp_one]
theorem ab_word (n : Nat) : (List.replicate (n + 1) 97 ++ [98]).Sublist (rp (n + 1) [97, 98]) := by
  rw [rp_snoc, List.replicate_succ', List.append_assoc]
  exact (a_sub (by decide) (Nat.le_refl n)).append (by decide)
theorem ba_end : ∀ n, ∃ t, rp (n + 1) [98, 97] = t ++ [97] := fun n => ⟨rp n [98, 97] ++ [98], by rw [rp_snoc, List.append_assoc]; rfl⟩
theorem ba_no (n : Nat) : ¬ (List.replicate (n + 1) 97 ++ [98]).Sublist (rp (n + 1) [98, 97]) := fun h => by
  obtain ⟨r1, r2, e, h1, h2⟩ := List.append_sublist_iff.mp h
  have c1 := h1.count_le 97
  rw [List.count_replicate_self] at c1
  have c2 := cnt_rp 97 [98, 97] (n + 1)
  rw [e, List.count_append, show List.count 97 [98, 97] = 1 by decide] at c2
  have c3 : r2.count 97 = 0 := by omega
  obtain ⟨t, et⟩ := ba_end n
  rw [e] at et
  have hne : r2 ≠ [] := fun z => by rw [z] at h2; exact absurd h2 (by decide)
  have hl : (r1 ++ r2).getLast? = some 97 := by rw [et]; simp
  rw [List.getLast?_append, List.getLast?_eq_some_getLast hne] at hl
  have hl : r2.getLast? = some 97 := by rw [List.getLast?_eq_some_getLast hne]; exact hl
  have hm : 97 ∈ r2 := List.mem_of_getLast? hl
  have := List.count_pos_iff.mpr hm
  omega
theorem lk_ba (n : Nat) : lkD (rp (n + 1) [97, 98]) (rp (n + 1) [98, 97]) = .int ((n + 1 : Nat) : Nat) := by
  refine lk_of (w := List.replicate (n + 1) 97 ++ [98]) (fun v hv => ?_) (by simp) (parts_iff.mpr (.inl ⟨ab_word n, ba_no n⟩))
  constructor
  · intro h
    refine sub_rp v (fun c hc => ?_) _ hv
    have := mem_rp (h.subset hc)
    simp only [List.mem_cons, List.not_mem_nil, or_false] at this ⊢
    omega
  · intro h
    refine sub_rp v (fun c hc => ?_) _ hv
    have := mem_rp (h.subset hc)
    simp only [List.mem_cons, List.not_mem_nil, or_false] at this ⊢
    omega
theorem ak_abc (n : Nat) : akB (rp (n + 1) [97, 98, 99]) (rp 2 (rp (n + 1) [99, 98, 97])) ((n + 1 : Nat) : Int) = true := by
  rw [akB_iff]
  intro w hw
  have hw : w.length ≤ n + 1 := by omega
  constructor
  · intro h
    rw [rp_succ]
    refine (sub_rp w (fun c hc => ?_) _ hw).trans (List.sublist_append_left _ _)
    have := mem_rp (h.subset hc)
    simp only [List.mem_cons, List.not_mem_nil, or_false] at this ⊢
    omega
  · intro h
    refine sub_rp w (fun c hc => ?_) _ hw
    have := mem_rp (mem_rp (h.subset hc))
    simp only [List.mem_cons, List.not_mem_nil, or_false] at this ⊢
    omega
theorem ak_c (n : Nat) : akB (rp n [97, 98, 99]) (rp n [97, 98]) ((1 : Nat) : Int) = decide (n = 0) := by
  cases n with
  | zero => exact akB_iff.mpr fun w _ => Iff.rfl
  | succ n =>
    rw [decide_eq_false (by omega)]
    refine Bool.eq_false_iff.mpr fun z => ?_
    have := (akB_iff.mp z [99] (by decide)).mp (List.singleton_sublist.mpr (by rw [rp_succ]; simp))
    have := mem_rp (List.singleton_sublist.mp this)
    simp at this
theorem g_pt : partL [97, 98] [98, 97] = some [97, 98] ∧ partL [97, 97, 98] [97, 98, 97] = some [98, 97] ∧ (partL [97, 98, 98, 97] [98, 97, 97, 98]).map List.length = some 3 := by decide +kernel
end
def fD19 (n : Nat) : Ft := (List.range n).map fun p => ((p, p), p)
theorem fD_succ (n : Nat) : fD19 (n + 1) = fD19 n ++ [((n, n), n)] := by unfold fD19; rw [List.range_succ, List.map_append]; rfl
theorem fD_keys (n : Nat) : (fD19 n).map (·.1) = (List.range n).map fun p => (p, p) := by unfold fD19; rw [List.map_map]; rfl
theorem fD_mem {n : Nat} {x : Pr × Nat} : x ∈ fD19 n ↔ ∃ p, p < n ∧ x = ((p, p), p) := by
  unfold fD19
  simp only [List.mem_map, List.mem_range]
  constructor
  · rintro ⟨p, hp, rfl⟩; exact ⟨p, hp, rfl⟩
  · rintro ⟨p, hp, rfl⟩; exact ⟨p, hp, rfl⟩
def itF : D → Option D
  | .int i => some (.tuple [.tuple [.int i, .int i], .int i])
  | _ => none
def itL (n : Nat) : List D := (List.range n).map fun p => .tuple [prD (p, p), .int (p : Nat)]
theorem itF_all (n : Nat) : (rngL 0 n).filterMap itF = itL n := by
  unfold rngL itL
  rw [List.filterMap_map]
  generalize List.range n = L
  induction L with
  | nil => rfl
  | cons a L ih =>
    have e : (itF ∘ fun i : Nat => PyData.int (0 + (i : Int))) a = some (.tuple [prD (a, a), .int (a : Nat)]) := by
      show some (PyData.tuple [.tuple [.int (0 + (a : Int)), .int (0 + (a : Int))], .int (0 + (a : Int))]) = _
      rw [show (0 + (a : Int)) = (a : Int) by omega]
    rw [List.filterMap_cons, e, List.map_cons]
    dsimp only
    rw [ih]
theorem prs_it (L : List Nat) : prsKV (L.map fun p => .tuple [prD (p, p), .int (p : Nat)]) = some (L.map fun p => (prD (p, p), .int (p : Nat))) := by
  induction L with
  | nil => rfl
  | cons a L ih =>
    rw [List.map_cons]
    unfold prsKV
    rw [ih]; rfl
theorem keys_it (L : List Nat) : keysDT (L.map fun p => (prD (p, p), .int (p : Nat))) = some (L.map fun p => (kyP (p, p), .int (p : Nat))) := by
  induction L with
  | nil => rfl
  | cons a L ih =>
    rw [List.map_cons]
    unfold keysDT
    rw [ih]; rfl
theorem merge_it : ∀ n, mergeDT [] ((List.range n).map fun p => (kyP (p, p), PyData.int (p : Nat))) = td (fD19 n)
  | 0 => rfl
  | n + 1 => by
    have ih := merge_it n
    unfold mergeDT at ih ⊢
    rw [List.range_succ, List.map_append, List.foldl_append, ih, fD_succ]
    show putT (td (fD19 n)) (kyP (n, n)) (.int (n : Nat)) = _
    refine putT_td fun h => ?_
    rw [fD_keys] at h
    obtain ⟨p, hp, e⟩ := List.mem_map.mp h
    have := List.mem_range.mp hp
    cases e
    omega
theorem nxt_rep {n i : Nat} : nx (List.replicate n 113) 113 i = if i < n then some (i + 1) else none := by
  by_cases h : i < n
  · rw [if_pos h]
    have : nxt (List.replicate n 113) 113 i = some i := (nxt_iff (by simpa using h)).mpr ⟨Nat.le_refl _, by simp [List.getD_eq_getElem?_getD, List.getElem?_replicate, h], by
      intro z
      have := List.length_pos_of_mem z
      simp at this
      omega⟩
    show (nxt (List.replicate n 113) 113 i).map (· + 1) = _
    rw [this]; rfl
  · rw [if_neg h]
    have : nxt (List.replicate n 113) 113 i = none := by
      cases e : nxt (List.replicate n 113) 113 i with
      | none => rfl
      | some k =>
        have := nxt_lt e
        rw [List.length_replicate] at this
        omega
    show (nxt (List.replicate n 113) 113 i).map (· + 1) = _
    rw [this]; rfl
theorem let_q {n m c : Nat} (h : c ∈ lettersOf (List.replicate n 113) (List.replicate m 113)) : c = 113 := by
  have := (QS.sortU_mem _ _).mp h
  rcases List.mem_append.mp this with z | z
  · exact (List.mem_replicate.mp z).2
  · exact (List.mem_replicate.mp z).2
theorem tok_q {n m : Nat} (hm : 1 ≤ m) : Tok (List.replicate n 113) (List.replicate (n + m) 113) (n : Int) (fD19 (n + 1)) := by
  refine ⟨?_, fun x hx => ?_, fD_mem.mpr ⟨0, by omega, rfl⟩, fun x hx hk c hc => ?_⟩
  · rw [fD_keys]
    refine List.Pairwise.map _ ?_ (List.nodup_range)
    intro p q h e
    cases e
    exact h rfl
  · obtain ⟨p, hp, rfl⟩ := fD_mem.mp hx
    simp only [List.length_replicate]
    omega
  · obtain ⟨p, hp, rfl⟩ := fD_mem.mp hx
    rw [let_q hc]
    have hk : p < n := by simpa using hk
    exact .inr ⟨p + 1, p + 1, p + 1, by show nx (List.replicate n 113) 113 p = _; rw [nxt_rep, if_pos hk], by show nx (List.replicate (n + m) 113) 113 p = _; rw [nxt_rep, if_pos (by omega)], Nat.le_refl _, fD_mem.mpr ⟨p + 1, by omega, rfl⟩⟩
theorem tl_q (n c : Nat) (hc : 97 ≤ c ∧ c ≤ 122) : Tx (List.replicate n c) := fun d hd => by
  rw [(List.mem_replicate.mp hd).2]; exact hc
theorem txl {l : List Nat} (h : (l.all fun c => decide (97 ≤ c ∧ c ≤ 122)) = true) : Tx l := fun c hc => by
  have := List.all_eq_true.mp h c hc
  simpa using this
theorem tl_rp {u : List Nat} {n : Nat} (h : Tx u) : Tx (rp n u) := fun c hc => h c (mem_rp hc)
theorem nn (n : Nat) : ((n : Int)).toNat = n := Int.toNat_natCast n
section
variable {n m : Nat}
theorem ic_no {a b : List Nat} {F : Ft} {x3 x4 : Option SV} {j : Nat} : Hid (wS (is_carried_v3_b1 (Ic a b F x3 x4 (some (.fz .none)) (some (.fz (.int (j : Nat)))))) (PR (fun _ => False) (fun v _ => v = .fz (.bool false)))) := by
  refine ⟨?_⟩
  unfold is_carried_v3_b1
  repeat' decreasing_trivial_pre_omega
  exact rfl
theorem carried_no {F : Ft} (hn : n ≤ 900) (hm : 1 ≤ m) (hm2 : n + m ≤ 1000) : Ret (F_is_carried_v3 [.str (tx (List.replicate n 113)), .str (tx (List.replicate (n + m) 113)), .dict (td F), prD (n, n)]) (.fz (.bool false)) := by
  have R1 := moves_R (a := List.replicate n 113) (b := List.replicate (n + m) 113) (i := n) (j := n) (by simp; omega) (by simp; omega)
  have i1 := fun x3 x4 j => @ic_no (List.replicate n 113) (List.replicate (n + m) 113) F x3 x4 j
  refine Ret.go ?_
  unfold B_is_carried_v3
  generalize is_carried_v3_b1 = B1 at i1 ⊢
  generalize F_moves_v2 = Fm at R1 ⊢
  repeat' decreasing_trivial_pre_omega
  refine wF_ret R1 ?_
  repeat' decreasing_trivial_pre_omega
  refine for_hidR (fun k r => k = 0 ∧ ∃ x4 x5 x6, r = Ic (List.replicate n 113) (List.replicate (n + m) 113) F (some (.fz (prD (n, n)))) x4 x5 x6) (fun v _ => v = .fz (.bool false)) ⟨rfl, _, _, _, rfl⟩ ?_ ?_ ?_
  · rintro k d r hd ⟨rfl, x4, x5, x6, rfl⟩
    obtain ⟨c, hc, rfl⟩ := mvs_get hd
    have hc := let_q (List.mem_of_getElem? hc)
    subst hc
    refine ⟨_, rfl, ?_⟩
    rw [nxt_rep, nxt_rep, if_neg (by omega), if_pos (by omega)]
    exact (i1 _ _ (n + 1)).monoR (fun _ z => z.elim) fun _ _ z => z
  · rintro r ⟨hk, _⟩
    have : 113 ∈ lettersOf (List.replicate n 113) (List.replicate (n + m) 113) := (QS.sortU_mem _ _).mpr (List.mem_append_right _ (List.mem_replicate.mpr ⟨by omega, rfl⟩))
    have := List.length_pos_of_mem this
    unfold mvs at hk
    rw [List.length_map] at hk
    omega
  · intro v r h
    subst h
    exact ⟨rfl, rfl⟩
def cg (n : Nat) : D → Option D
  | .tuple [.int i, .int _] => some (.bool (decide (i < (n : Int))))
  | _ => none
theorem cg_all (n k : Nat) : (kysD (td (fD19 k))).filterMap (cg n) = ((List.range k).map fun p => decide (p < n)).map PyData.bool := by
  unfold kysD td fD19
  rw [List.map_map, List.map_map, List.filterMap_map, List.map_map, ← List.filterMap_eq_map]
  congr 1
  funext a
  show some (PyData.bool (decide ((a : Int) < (n : Int)))) = some (PyData.bool (decide (a < n)))
  rw [show decide ((a : Int) < (n : Int)) = decide (a < n) by rw [decide_eq_decide]; omega]
theorem is_table_no {k : Nat} (hn : n ≤ 400) (hm : 1 ≤ m) (hm2 : m ≤ 400) (hk : n < k) :
    Ret (F_is_table_v3 [.str (tx (List.replicate n 113)), .str (tx (List.replicate (n + m) 113)), .int (k : Nat), .dict (td (fD19 (n + 1)))]) (.fz (.bool false)) := by
  have h := tok_q (n := n) hm
  have ha : (List.replicate n 113).length ≤ 1000 := by simp; omega
  have hb : (List.replicate (n + m) 113).length ≤ 1000 := by simp; omega
  have hv : ftv (fD19 (n + 1)) (0, 0) = some 0 := ftv_some h.nd h.z0
  have h1 := textsP_R (good_tx (l := List.replicate n 113) (by omega) (tl_q _ _ (by omega))) (good_tx (l := List.replicate (n + m) 113) (by omega) (tl_q _ _ (by omega)))
  have h2 := mustKP_R (k := k)
  have i1 := fun x hx => @is_entry_R (List.replicate n 113) (List.replicate (n + m) 113) x.1 x.2 ha hb (h.bd x hx).1 (h.bd x hx).2
  have i2 : ∀ x ∈ fD19 (n + 1), Ret (F_is_carried_v3 [.str (tx (List.replicate n 113)), .str (tx (List.replicate (n + m) 113)), .dict (td (fD19 (n + 1))), prD x.1]) (.fz (.bool (decide (x.1.1 < n)))) := fun x hx => by
    obtain ⟨p, hp, rfl⟩ := fD_mem.mp hx
    by_cases z : p < n
    · rw [decide_eq_true (show ((p, p), p).1.1 < n from z)]
      exact is_carried_R ha hb h hx (by show (p : Int) < (n : Int); omega)
    · obtain rfl : p = n := by omega
      rw [decide_eq_false (show ¬ ((p, p), p).1.1 < p from Nat.lt_irrefl _)]
      exact carried_no (by omega) hm (by omega)
  have hF : (fD19 (n + 1)).length ≤ 1002001 := by unfold fD19; simp; omega
  refine Ret.go ?_
  unfold B_is_table_v3
  generalize F_must_be_texts_v2 = G1 at h1 ⊢
  generalize F_must_be_reach = G2 at h2 ⊢
  repeat' decreasing_trivial_pre_omega
  refine wF_ret h1 ?_
  repeat' decreasing_trivial_pre_omega
  refine wF_ret h2 ?_
  repeat' decreasing_trivial_pre_omega
  refine lc_map (fun _ => some (.bool true)) (by rw [kys_len, sizeLine_eq]; omega) (fun d hd => ?_) ?_
  · obtain ⟨x, hx, rfl⟩ := td_mem hd
    have c1 := i1 x hx
    unfold is_table_v3_e1
    generalize F_is_entry = G3 at c1 ⊢
    repeat' decreasing_trivial_pre_omega
    refine wLk_td h.ne ?_
    rw [ftv_some h.nd hx]
    repeat' decreasing_trivial_pre_omega
    refine wF_ret c1 ?_
    repeat' decreasing_trivial_pre_omega
    rfl
  · obtain ⟨j, e⟩ := filt_true (f := fun _ => some (.bool true)) (fun d y h => (Option.some.inj h).symm) (kysD (td (fD19 (n + 1))))
    rw [e]
    repeat' decreasing_trivial_pre_omega
    refine ⟨⟨rfl, ok_bools _⟩, ?_⟩
    rw [any_bool, rep_all]
    repeat' decreasing_trivial_pre_omega
    refine wLk_td (p := (0, 0)) h.ne ?_
    rw [hv]
    repeat' decreasing_trivial_pre_omega
    refine lc_map (cg n) (by rw [kys_len, sizeLine_eq]; omega) (fun d hd => ?_) ?_
    · obtain ⟨x, hx, rfl⟩ := td_mem hd
      have c1 := i2 x hx
      have c2 := ftv_some h.nd hx
      have c3 : cg n (prD x.1) = some (.bool (decide (x.1.1 < n))) := by
        show some (PyData.bool (decide ((x.1.1 : Int) < (n : Int)))) = _
        rw [show decide ((x.1.1 : Int) < (n : Int)) = decide (x.1.1 < n) by rw [decide_eq_decide]; omega]
      have hxk : x.2 < k := by
        obtain ⟨p, hp, rfl⟩ := fD_mem.mp hx
        show p < k
        omega
      rw [c3]
      unfold is_table_v3_t2 is_table_v3_e3
      generalize F_is_carried_v3 = G3 at c1 ⊢
      repeat' decreasing_trivial_pre_omega
      refine wLk_td h.ne ?_
      rw [c2]
      repeat' decreasing_trivial_pre_omega
      refine wB_t (decide_eq_true (by omega)) ?_
      repeat' decreasing_trivial_pre_omega
      refine wF_ret c1 ?_
      repeat' decreasing_trivial_pre_omega
      rfl
    · rw [cg_all]
      repeat' decreasing_trivial_pre_omega
      refine ⟨⟨rfl, ok_bools _⟩, ?_⟩
      rw [any_bool]
      rw [show ((List.range (n + 1)).map fun p => decide (p < n)).all id = false by
        rw [List.all_eq_false]
        exact ⟨false, List.mem_map.mpr ⟨n, by simp, by simp⟩, by simp⟩]
      exact ⟨rfl, rfl⟩
theorem table_q {k : Nat} (hn : n ≤ 400) (hm : 1 ≤ m) (hm2 : m ≤ 400) :
    Ret (F_is_table_v3 [.str (tx (List.replicate n 113)), .str (tx (List.replicate (n + m) 113)), .int (k : Nat), .dict (td (fD19 (n + 1)))]) (.fz (.bool (decide (k ≤ n)))) := by
  by_cases hk : k ≤ n
  · rw [decide_eq_true hk]
    have h := tok_q (n := n) hm
    have h' : Tok (List.replicate n 113) (List.replicate (n + m) 113) (k : Int) (fD19 (n + 1)) := ⟨h.nd, h.bd, h.z0, fun x hx hx2 => h.ca x hx (by omega)⟩
    exact is_table_R (good_tx (by simp; omega) (tl_q _ _ (by omega))) (good_tx (by simp; omega) (tl_q _ _ (by omega))) (by simp; omega) (by simp; omega) h'
  · rw [decide_eq_false hk]
    exact is_table_no hn hm hm2 (by omega)
end
abbrev St (i : Int) (x3 x4 x5 : Option SV) (t : Int × Int) : S := ⟨[some (.scr []), some (.fz (.int i)), some .tape, x3, x4, x5, none, none], some t⟩
abbrev iS (k : Nat) : Option SV := some (.fz (.int (k : Nat)))
instance : OfS "q" [113] := ⟨by decide +kernel⟩
instance : OfS "ab" [97, 98] := ⟨by decide +kernel⟩
instance : OfS "ba" [98, 97] := ⟨by decide +kernel⟩
instance : OfS "a" [97] := ⟨by decide +kernel⟩
instance : OfS "abc" [97, 98, 99] := ⟨by decide +kernel⟩
instance : OfS "cba" [99, 98, 97] := ⟨by decide +kernel⟩
instance : OfS "aab" [97, 97, 98] := ⟨by decide +kernel⟩
instance : OfS "aba" [97, 98, 97] := ⟨by decide +kernel⟩
instance : OfS "abba" [97, 98, 98, 97] := ⟨by decide +kernel⟩
instance : OfS "baab" [98, 97, 97, 98] := ⟨by decide +kernel⟩
def tenN : Nat := 1000000000000000000000000000000
theorem ten30 : (10 : Int) ^ (Int.toNat 30) = (tenN : Int) := by decide +kernel
theorem tenB : (0 : Int) ≤ 30 ∧ ((bitsI 10 : Nat) : Int) * 30 ≤ 2 ^ 27 := by decide +kernel
section
variable {i : Int} {x3 x4 x5 : Option SV} {t : Int × Int} {n m : Nat}
theorem s1 (ok : TapeOk t = true) : wS (B_law_1 (St i x3 x4 x5 t)) (Pn fun r => ∃ n m t', TapeOk t' = true ∧ n ≤ 19 ∧ 1 ≤ m ∧ m ≤ 10 ∧ r = St i (iS n) (iS m) x5 t') := by
  unfold B_law_1
  repeat' decreasing_trivial_pre_omega
  refine wFT_use (pick_sp ok (by omega) (by omega)) (fun v t2 ⟨o2, f, e, hf⟩ => ?_)
  subst e
  repeat' decreasing_trivial_pre_omega
  refine wFT_use (pick_sp o2 (by omega) (by omega)) (fun v t2 ⟨o3, g, e, hg⟩ => ?_)
  subst e
  repeat' decreasing_trivial_pre_omega
  exact ⟨f, 1 + g, t2, o3, by omega, by omega, by omega, by simp⟩
theorem rpL (n : Nat) (u : List Nat) : (rp n u).length = n * u.length := rp_len n u
theorem s2 (hn : n ≤ 19) (h1 : 1 ≤ m) (hm : m ≤ 10) : wS (B_law_2 (St i (iS n) (iS m) x5 t)) (Pn fun r => r = St i (iS n) (iS m) x5 t) := by
  have p1 := partingP_R (a := rp n [113]) (b := rp (n + m) [113]) (good_tx (by rw [rpL]; simp; omega) (tl_rp (txl rfl))) (good_tx (by rw [rpL]; simp; omega) (tl_rp (txl rfl))) (by rw [rpL]; simp; omega) (by rw [rpL]; simp; omega)
  rw [show ptD (rp n [113]) (rp (n + m) [113]) = .str (tx (rp (n + 1) [113])) by rw [rp_q, rp_q, rp_q]; exact pt_of (part_q h1)] at p1
  have p2 := likenessP_R (a := rp n [97, 98]) (b := rp (n + m) [97, 98]) (good_tx (by rw [rpL]; simp; omega) (tl_rp (txl rfl))) (good_tx (by rw [rpL]; simp; omega) (tl_rp (txl rfl))) (by rw [rpL]; simp; omega) (by rw [rpL]; simp; omega)
  rw [lk_ab h1] at p2
  unfold B_law_2
  generalize F_parting_v4 = F at p1 ⊢
  generalize F_likeness_v4 = G at p2 ⊢
  have z1 : (2 : Int) ^ 40 = 1099511627776 := by decide
  repeat' decreasing_trivial_pre_omega
  rw [nn]
  refine ⟨⟨szb' (by simp; omega), by rw [z1]; omega, by rw [z1]; omega⟩, ?_⟩
  repeat' decreasing_trivial_pre_omega
  rw [show ((n : Int) + (m : Int)).toNat = n + m by omega]
  refine ⟨⟨szb' (by simp; omega), by rw [z1]; omega, by rw [z1]; omega⟩, ?_⟩
  repeat' decreasing_trivial_pre_omega
  refine wF_ret p1 ?_
  repeat' decreasing_trivial_pre_omega
  rw [show ((n : Int) + 1).toNat = n + 1 by omega]
  refine ⟨⟨szb' (by simp; omega), by rw [z1]; omega, by rw [z1]; omega⟩, ?_⟩
  repeat' decreasing_trivial_pre_omega
  refine wB_t (by simp) ?_
  repeat' decreasing_trivial_pre_omega
  rw [nn]
  refine ⟨⟨szb' (by simp; omega), by rw [z1]; omega, by rw [z1]; omega⟩, ?_⟩
  repeat' decreasing_trivial_pre_omega
  rw [show ((n : Int) + (m : Int)).toNat = n + m by omega]
  refine ⟨⟨szb' (by simp; omega), by rw [z1]; omega, by rw [z1]; omega⟩, ?_⟩
  repeat' decreasing_trivial_pre_omega
  refine wF_ret p2 ?_
  repeat' decreasing_trivial_pre_omega
  refine wB_t (by simp) ?_
  repeat' decreasing_trivial_pre_omega
  rfl
theorem s3 (hn : n ≤ 19) (h1 : 1 ≤ m) (hm : m ≤ 10) : wS (B_law_3 (St i (iS n) (iS m) x5 t)) (Pn fun r => r = St i (iS n) (iS m) x5 t) := by
  have p1 := partingP_R (a := rp n [97, 98, 99]) (b := rp (n + m) [97, 98, 99]) (good_tx (by rw [rpL]; simp; omega) (tl_rp (txl rfl))) (good_tx (by rw [rpL]; simp; omega) (tl_rp (txl rfl))) (by rw [rpL]; simp; omega) (by rw [rpL]; simp; omega)
  rw [show ptD (rp n [97, 98, 99]) (rp (n + m) [97, 98, 99]) = .str (tx (rp (n + 1) [97])) by rw [rp_q]; exact pt_of (pt_abc h1)] at p1
  unfold B_law_3
  generalize F_parting_v4 = F at p1 ⊢
  have z1 : (2 : Int) ^ 40 = 1099511627776 := by decide
  repeat' decreasing_trivial_pre_omega
  rw [nn]
  refine ⟨⟨szb' (by simp; omega), by rw [z1]; omega, by rw [z1]; omega⟩, ?_⟩
  repeat' decreasing_trivial_pre_omega
  rw [show ((n : Int) + (m : Int)).toNat = n + m by omega]
  refine ⟨⟨szb' (by simp; omega), by rw [z1]; omega, by rw [z1]; omega⟩, ?_⟩
  repeat' decreasing_trivial_pre_omega
  refine wF_ret p1 ?_
  repeat' decreasing_trivial_pre_omega
  rw [show ((n : Int) + 1).toNat = n + 1 by omega]
  refine ⟨⟨szb' (by simp; omega), by rw [z1]; omega, by rw [z1]; omega⟩, ?_⟩
  repeat' decreasing_trivial_pre_omega
  refine wB_t (by simp) ?_
  repeat' decreasing_trivial_pre_omega
  rfl
theorem s4 (hn : n ≤ 19) : wS (B_law_4 (St i (iS n) (iS m) x5 t)) (Pn fun r => r = St i (iS n) (iS m) (some (.ot (td (fD19 (n + 1))))) t) := by
  unfold B_law_4
  repeat' decreasing_trivial_pre_omega
  refine ⟨⟨by omega, by omega⟩, ?_⟩
  rw [show ((n : Int) + 1).toNat = n + 1 by omega]
  refine wLc_map itF (by unfold rngL; simp; exact szb' (by omega)) (fun d hd => ?_) ?_
  · obtain ⟨j, hj⟩ := List.getElem?_of_mem hd
    obtain ⟨rfl, hj⟩ := rngL_get hj
    unfold law_e1
    refine ⟨_, rfl, ?_⟩
    repeat' decreasing_trivial_pre_omega
    all_goals first | rfl | exact ⟨rfl, rfl⟩
  · rw [itF_all]
    repeat' decreasing_trivial_pre_omega
    refine ⟨_, _, _, rfl, prs_it _, keys_it _, ?_⟩
    rw [merge_it]
    repeat' decreasing_trivial_pre_omega
    rfl
theorem s5a {x5 : Option SV} {k : Nat} (h5 : x5 = some (.ot (td (fD19 (n + 1)))) ∨ x5 = some (.fz (.dict (td (fD19 (n + 1)))))) (hn : n ≤ 19) (h1 : 1 ≤ m) (hm : m ≤ 10) :
    wE (law_e2 ⟨[some (.scr []), some (.fz (.int i)), some .tape, iS n, iS m, x5, none, some (.fz (.int (k : Nat)))], some t⟩) (fun y r => y = .bool (decide (k ≤ n)) ∧ r = ⟨[some (.scr []), some (.fz (.int i)), some .tape, iS n, iS m, some (.fz (.dict (td (fD19 (n + 1))))), none, some (.fz (.int (k : Nat)))], some t⟩) XN := by
  have p1 := table_q (n := n) (m := m) (k := k) (by omega) h1 (by omega)
  unfold law_e2
  generalize F_is_table_v3 = F at p1 ⊢
  have z1 : (2 : Int) ^ 40 = 1099511627776 := by decide
  rcases h5 with rfl | rfl
  all_goals (repeat' decreasing_trivial_pre_omega)
  all_goals rw [nn, show (List.replicate n [113]).flatten = List.replicate n 113 from rp_q _ _]
  all_goals refine ⟨⟨szb' (by simp; omega), by rw [z1]; omega, by rw [z1]; omega⟩, ?_⟩
  all_goals (repeat' decreasing_trivial_pre_omega)
  all_goals rw [show ((n : Int) + (m : Int)).toNat = n + m by omega, show (List.replicate (n + m) [113]).flatten = List.replicate (n + m) 113 from rp_q _ _]
  all_goals refine ⟨⟨szb' (by simp; omega), by rw [z1]; omega, by rw [z1]; omega⟩, ?_⟩
  all_goals (repeat' decreasing_trivial_pre_omega)
  all_goals refine wF_ret p1 ?_
  all_goals (repeat' decreasing_trivial_pre_omega)
  all_goals first | exact ⟨rfl, rfl⟩ | rfl
theorem s5 (hn : n ≤ 19) (h1 : 1 ≤ m) (hm : m ≤ 10) : wS (B_law_5 (St i (iS n) (iS m) (some (.ot (td (fD19 (n + 1))))) t)) (Pn fun r => ∃ x5, r = St i (iS n) (iS m) x5 t) := by
  have key := fun x5 k h5 => @s5a i t n m x5 k h5 hn h1 hm
  unfold B_law_5
  generalize law_e2 = E2 at key ⊢
  repeat' decreasing_trivial_pre_omega
  refine ⟨tenB, ?_⟩
  rw [ten30, show ((n : Int) + 1) = ((n + 1 : Nat) : Int) by omega]
  repeat' decreasing_trivial_pre_omega
  have e1 : decide (n ≤ n) = true := decide_eq_true (Nat.le_refl _)
  have e2 : decide (n + 1 ≤ n) = false := decide_eq_false (by omega)
  have e3 : decide (tenN ≤ n) = false := decide_eq_false (by
    have : 19 < tenN := by decide +kernel
    omega)
  refine wE_mono (key _ n (.inl rfl)) fun y r h => ?_
  obtain ⟨rfl, rfl⟩ := h
  rw [e1]
  repeat' decreasing_trivial_pre_omega
  refine wE_mono (key _ (n + 1) (.inr rfl)) fun y r h => ?_
  obtain ⟨rfl, rfl⟩ := h
  rw [e2]
  repeat' decreasing_trivial_pre_omega
  refine wE_mono (key _ tenN (.inr rfl)) fun y r h => ?_
  obtain ⟨rfl, rfl⟩ := h
  rw [e3]
  repeat' decreasing_trivial_pre_omega
  all_goals first | exact ⟨_, rfl⟩ | rfl
theorem s6 (hn : n ≤ 19) : wS (B_law_6 (St i (iS n) (iS m) x5 t)) (Pn fun r => r = St i (iS n) (iS m) x5 t) := by
  unfold B_law_6
  rcases Nat.eq_zero_or_pos n with h0 | h0
  · repeat' decreasing_trivial_pre_omega
    refine wB_f (decide_eq_false (by omega)) ?_
    repeat' decreasing_trivial_pre_omega
    rfl
  · obtain ⟨n, rfl⟩ : ∃ p, n = p + 1 := ⟨n - 1, by omega⟩
    have p2 := likenessP_R (a := rp (n + 1) [97, 98]) (b := rp (n + 1) [98, 97]) (good_tx (by rw [rpL]; simp; omega) (tl_rp (txl rfl))) (good_tx (by rw [rpL]; simp; omega) (tl_rp (txl rfl))) (by rw [rpL]; simp; omega) (by rw [rpL]; simp; omega)
    rw [lk_ba] at p2
    generalize F_likeness_v4 = G at p2 ⊢
    have z1 : (2 : Int) ^ 40 = 1099511627776 := by decide
    repeat' decreasing_trivial_pre_omega
    refine wB_t (decide_eq_true (by omega)) ?_
    repeat' decreasing_trivial_pre_omega
    rw [nn]
    refine ⟨⟨szb' (by simp; omega), by rw [z1]; omega, by rw [z1]; omega⟩, ?_⟩
    repeat' decreasing_trivial_pre_omega
    rw [nn]
    refine ⟨⟨szb' (by simp; omega), by rw [z1]; omega, by rw [z1]; omega⟩, ?_⟩
    repeat' decreasing_trivial_pre_omega
    refine wF_ret p2 ?_
    repeat' decreasing_trivial_pre_omega
    refine wB_t (by simp) ?_
    repeat' decreasing_trivial_pre_omega
    rfl
theorem s7 (hn : n ≤ 19) : wS (B_law_7 (St i (iS n) (iS m) x5 t)) (Pn fun r => r = St i (iS n) (iS m) x5 t) := by
  have p1 := alikeP_R (a := rp (n + 1) [97, 98, 99]) (b := rp 2 (rp (n + 1) [99, 98, 97])) (k := n + 1) (good_tx (by rw [rpL]; simp; omega) (tl_rp (txl rfl))) (good_tx (by rw [rpL, rpL]; simp; omega) (tl_rp (tl_rp (txl rfl)))) (by rw [rpL]; simp; omega) (by rw [rpL, rpL]; simp; omega)
  rw [ak_abc] at p1
  have p2 := alikeP_R (a := rp n [97, 98, 99]) (b := rp n [97, 98]) (k := 1) (good_tx (by rw [rpL]; simp; omega) (tl_rp (txl rfl))) (good_tx (by rw [rpL]; simp; omega) (tl_rp (txl rfl))) (by rw [rpL]; simp; omega) (by rw [rpL]; simp; omega)
  rw [ak_c] at p2
  unfold B_law_7
  generalize F_alike_v4 = F at p1 p2 ⊢
  have z1 : (2 : Int) ^ 40 = 1099511627776 := by decide
  repeat' decreasing_trivial_pre_omega
  rw [show ((n : Int) + 1).toNat = n + 1 by omega]
  refine ⟨⟨szb' (by simp; omega), by rw [z1]; omega, by rw [z1]; omega⟩, ?_⟩
  repeat' decreasing_trivial_pre_omega
  rw [show ((n : Int) + 1).toNat = n + 1 by omega]
  refine ⟨⟨szb' (by simp; omega), by rw [z1]; omega, by rw [z1]; omega⟩, ?_⟩
  repeat' decreasing_trivial_pre_omega
  refine ⟨⟨by rw [show (List.replicate (n + 1) [99, 98, 97]).flatten.length = (n + 1) * 3 from rpL _ _]; exact szb' (by simp; omega), by rw [z1]; omega, by rw [z1]; omega⟩, ?_⟩
  repeat' decreasing_trivial_pre_omega
  rw [show ((n : Int) + 1) = ((n + 1 : Nat) : Int) by omega]
  refine wF_ret p1 ?_
  repeat' decreasing_trivial_pre_omega
  rw [nn]
  refine ⟨⟨szb' (by simp; omega), by rw [z1]; omega, by rw [z1]; omega⟩, ?_⟩
  repeat' decreasing_trivial_pre_omega
  rw [nn]
  refine ⟨⟨szb' (by simp; omega), by rw [z1]; omega, by rw [z1]; omega⟩, ?_⟩
  repeat' decreasing_trivial_pre_omega
  refine wF_ret p2 ?_
  repeat' decreasing_trivial_pre_omega
  refine wB_t ?_ ?_
  · rw [show decide ((n : Int) = 0) = decide (n = 0) by rw [decide_eq_decide]; omega]
    cases decide (n = 0) <;> rfl
  repeat' decreasing_trivial_pre_omega
  rfl
theorem s_all (ok : TapeOk t = true) : Hid (wS (B_law (St i x3 x4 x5 t)) (Pn fun r => ∃ x3 x4 x5 t', TapeOk t' = true ∧ r = St i x3 x4 x5 t')) := by
  refine ⟨?_⟩
  rw [B_law_eq]
  refine seqP (s1 ok) fun r h => ?_
  obtain ⟨n, m, t1, o1, hn, h1, hm, rfl⟩ := h
  refine seqP (s2 hn h1 hm) fun r h => ?_
  subst h
  refine seqP (s3 hn h1 hm) fun r h => ?_
  subst h
  refine seqP (s4 hn) fun r h => ?_
  subst h
  refine seqP (s5 hn h1 hm) fun r h => ?_
  obtain ⟨y, rfl⟩ := h
  refine seqP (s6 hn) fun r h => ?_
  subst h
  refine cutP (s7 hn) fun r h => ?_
  subst h
  exact ⟨_, _, _, t1, o1, rfl⟩
end
theorem law_ok : LawOk 5 [] B_law G_law := by
  have p1 := partingP_R (a := [97, 98]) (b := [98, 97]) (good_tx (by decide) (txl rfl)) (good_tx (by decide) (txl rfl)) (by decide) (by decide)
  have p2 := partingP_R (a := [97, 97, 98]) (b := [97, 98, 97]) (good_tx (by decide) (txl rfl)) (good_tx (by decide) (txl rfl)) (by decide) (by decide)
  have p3 := likenessP_R (a := [97, 98, 98, 97]) (b := [98, 97, 97, 98]) (good_tx (by decide) (txl rfl)) (good_tx (by decide) (txl rfl)) (by decide) (by decide)
  rw [pt_of g_pt.1] at p1
  rw [pt_of g_pt.2.1] at p2
  rw [show lkD [97, 98, 98, 97] [98, 97, 97, 98] = .int 2 by
    have h := g_pt.2.2
    unfold lkD
    cases e : partL [97, 98, 98, 97] [98, 97, 97, 98] with
    | none => rw [e] at h; cases h
    | some w =>
      rw [e] at h
      have h : w.length = 3 := Option.some.inj h
      show PyData.int ((w.length : Int) - 1) = _
      rw [h]; rfl] at p3
  refine lawOk_of (fun i t ok => ?_) ?_
  · show wS (B_law (St i none none none t)) _
    exact cutP (s_all ok).out fun r ⟨x3, x4, x5, t', _, h⟩ => by subst h; exact ⟨rfl, rfl⟩
  · unfold G_law lawE
    simp only [List.replicate]
    generalize F_parting_v4 = F at p1 p2 ⊢
    generalize F_likeness_v4 = G at p3 ⊢
    repeat' decreasing_trivial_pre_omega
    refine wF_ret p1 ?_
    repeat' decreasing_trivial_pre_omega
    refine wF_ret p2 ?_
    repeat' decreasing_trivial_pre_omega
    refine wF_ret p3 ?_
    repeat' decreasing_trivial_pre_omega
    all_goals rfl
end K19
open PySem PySem.W PyProof.Rows
set_option maxHeartbeats 0 in
theorem PySem.Challenge.cw_scatteredpieces_k19_likeness_by_hand_holds : PySem.Challenge.rw_scatteredpieces_k19_likeness_by_hand.Holds := by
  w_on; o_law; k_head; (case hw => w_witness2)
  k_fill
  refine QL.walk_G (l := PySem.Challenge.rw_scatteredpieces_k19_likeness_by_hand) (n := 63) (k := 6) (x := "script") (sp := fun w => QL.spLaw _ []) rfl (by decide) rfl ⟨rfl, by decide, by decide⟩ (fun w h Y => PySem.W.kIn_of Y) ?F (fun _ _ a ns hl hb hO hS => QL.spLaw_of hl hb hO hS)
  case F =>
    intro w mg fa h KX G hmg
    refine' K19.all_mk KX G hmg K19.law_ok ?a0 ?l0 ?c0 ?k0 ?a1 ?l1 ?c1 ?k1 ?a2 ?l2 ?c2 ?k2 ?a3 ?l3 ?c3 ?k3 ?a4 ?l4 ?c4 ?k4 ?a5 ?l5 ?c5 ?k5 ?a6 ?l6 ?c6 ?k6 ?a7 ?l7 ?c7 ?k7 ?a8 ?l8 ?c8 ?k8 ?a9 ?l9 ?c9 ?k9 ?a10 ?l10 ?c10 ?k10 ?a11 ?l11 ?c11 ?k11 ?a12 ?l12 ?c12 ?k12 ?a13 ?l13 ?c13 ?k13 ?a14 ?l14 ?c14 ?k14 ?a15 ?l15 ?c15 ?k15 ?a16 ?l16 ?c16 ?k16 ?a17 ?l17 ?c17 ?k17 ?z0 ?z1 ?z2 ?z3 ?z4 ?z5 ?z6 ?z7 ?z8 ?z9 ?z10 ?z11 ?z12 ?v0
    (case a0 => k_is); (case l0 => k_is); (case c0 => k_is); (case k0 => k_is); (case a1 => k_is); (case l1 => k_is); (case c1 => k_is); (case k1 => k_is); (case a2 => k_is); (case l2 => k_is); (case c2 => k_is); (case k2 => k_is); (case a3 => k_is); (case l3 => k_is); (case c3 => k_is); (case k3 => k_is); (case a4 => k_is); (case l4 => k_is); (case c4 => k_is); (case k4 => k_is); (case a5 => k_is); (case l5 => k_is); (case c5 => k_is); (case k5 => k_is); (case a6 => k_is); (case l6 => k_is); (case c6 => k_is); (case k6 => k_is); (case a7 => k_is); (case l7 => k_is); (case c7 => k_is); (case k7 => k_is); (case a8 => k_is); (case l8 => k_is); (case c8 => k_is); (case k8 => k_is); (case a9 => k_is); (case l9 => k_is); (case c9 => k_is); (case k9 => k_is); (case a10 => k_is); (case l10 => k_is); (case c10 => k_is); (case k10 => k_is); (case a11 => k_is); (case l11 => k_is); (case c11 => k_is); (case k11 => k_is); (case a12 => k_is); (case l12 => k_is); (case c12 => k_is); (case k12 => k_is); (case a13 => k_is); (case l13 => k_is); (case c13 => k_is); (case k13 => k_is); (case a14 => k_is); (case l14 => k_is); (case c14 => k_is); (case k14 => k_is); (case a15 => k_is); (case l15 => k_is); (case c15 => k_is); (case k15 => k_is); (case a16 => k_is); (case l16 => k_is); (case c16 => k_is); (case k16 => k_is); (case a17 => k_is); (case l17 => k_is); (case c17 => k_is); (case k17 => k_is); (case z0 => k_is); (case z1 => k_is); (case z2 => k_is); (case z3 => k_is); (case z4 => k_is); (case z5 => k_is); (case z6 => k_is); (case z7 => k_is); (case z8 => k_is); (case z9 => k_is); (case z10 => k_is); (case z11 => k_is); (case z12 => k_is); (case v0 => k_is)
