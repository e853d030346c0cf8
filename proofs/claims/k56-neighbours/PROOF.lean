import PyProof.Rows.All
import Wide.All
import OpenK.AllK
import Wide.FinOn
import PyProof.EqAt
import PyProof.EqKinds
import PyProof.TupleCall
import KE.DataMinMax
import HandS.ForMost
import HandS.ForExc
import HandS.Wide
import HandS.IsInst
import HandS.ExcIs
import HandS.Lambda
import HandS.TupAny
import HandS.Flow
import KE.DatumOrd
import KE.KLam
import HandS.EndTab
import HandS.EndOwn
import PySem.Challenge.RW_gearsturn_k56_whole_neighbours
set_option Elab.async false
set_option linter.all false
set_option maxRecDepth 100000
set_option maxHeartbeats 2000000
/-! G0: what the text's shape alone says. -/
namespace G
open PySem PySem.Spec PyProof.Rows
def isStar : Expr → Bool
  | .Starred _ _ => true
  | _ => false
theorem star_ok {e : Expr} {es : List Expr} {env : Env} (h : isStar e = false) : starEach (e :: es) env = (false, eval e env) :: starEach es env := by
  cases e <;> first | (simp only [starEach]; done) | cases h
theorem star_any {env : Env} {pos : Pos} : ∀ {es : List Expr}, (es.all fun e => !isStar e) = true → (backTo pos (starEach es env)).any (·.1) = false
  | [], _ => by simp [starEach, backTo]
  | e :: es, h => by
    rw [List.all_cons, Bool.and_eq_true] at h
    rw [star_ok (by simpa using h.1)]
    have ih := star_any (env := env) (pos := pos) h.2
    unfold backTo at ih ⊢
    rw [List.map_cons, List.any_cons, ih]
    rfl
theorem star_hd {e : Expr} {es : List Expr} (h : ((e :: es).all fun e => !isStar e) = true) : isStar e = false := by
  rw [List.all_cons, Bool.and_eq_true] at h
  simpa using h.1
theorem star_tl {e : Expr} {es : List Expr} (h : ((e :: es).all fun e => !isStar e) = true) : (es.all fun e => !isStar e) = true := by
  rw [List.all_cons, Bool.and_eq_true] at h
  exact h.2
def isCompr : Expr → Bool
  | .ListComp .. => true
  | .SetComp .. => true
  | .DictComp .. => true
  | _ => false
theorem swaps_ok {e : Expr} {t : Option Expr} {l : Nat} {env : Env} (h : isCompr e = false) : swapsWith e t l env = pure false := by
  cases e <;> first | rfl | cases h
def isLogic : Expr → Bool
  | .UnaryOp .Not _ _ => true
  | .BoolOp .. => true
  | .IfExp .. => true
  | .Compare .. => true
  | _ => false
theorem plain_ok {e : Expr} {env : Env} {whole : Sem Value} (h : isLogic e = false) : isTrue e env whole = (do let v ← whole; standAt e.pos; holding [v] (truthy v)) := by
  cases e <;> first | rfl | (simp only [isTrue]; done) | (rename_i op _ _; cases op <;> first | rfl | (simp only [isTrue]; done) | cases h) | cases h
def isSetD : Expr → Bool
  | .Set .. => true
  | _ => false
theorem noset_ok {e : Expr} {env : Env} {x : Value} (h : isSetD e = false) : foldedSetIterable e env x = pure x := by
  cases e <;> first | rfl | cases h
end G
/-! G1: values as data, the heap in two parts (M: what may be written; the rest stands), expressions and statements by what they come to. -/
namespace G
open PySem PySem.Spec PyProof.Rows L2

/-! ### data -/
abbrev MM := Hp
/-- the heap without the part that may be written -/
def off (M H : Hp) : Hp := fun a => if (M a).isSome then none else H a
theorem off_of {M H : Hp} {a : Addr} {o : HO} (h : H a = some o) (n : M a = none) : off M H a = some o := by
  unfold off
  rw [n]
  exact h
theorem of_off {M H : Hp} {a : Addr} {o : HO} (h : off M H a = some o) : H a = some o ∧ M a = none := by
  unfold off at h
  cases e : M a with
  | none => rw [e] at h; exact ⟨h, rfl⟩
  | some x => rw [e] at h; cases h
theorem off_same' {M H : Hp} : Same (off M H) H := fun a o h => (of_off h).1
/-- all but tables of code objects stay -/
def SameN (F F' : Hp) : Prop := ∀ a o, F a = some o → (∀ ps, o ≠ .tbl ps) → F' a = some o
theorem Same.n {F F' : Hp} (e : Same F F') : SameN F F' := fun a o h _ => e a o h
theorem SameN.refl (F : Hp) : SameN F F := fun _ _ h _ => h
theorem SameN.trans {F F' F2 : Hp} (a : SameN F F') (b : SameN F' F2) : SameN F F2 := fun x o h n => b x o (a x o h n) n
theorem SameN.seq {K : PySem.W.Frag} {F F' : Hp} {a : Addr} {xs : List V} (e : SameN F F') (h : SqL K F a xs) : SqL K F' a xs := by
  rcases h with (h | ⟨o, h⟩) | h
  · exact .inl (.inl (e _ _ h (fun _ z => by cases z)))
  · exact .inl (.inr ⟨o, e _ _ h (fun _ z => by cases z)⟩)
  · exact .inr h
theorem off_same {M H : Hp} : SameN (off M H) H := Same.n off_same'
/-- M stands in H, and so do the tables of code objects that are told -/
structure Hold (T : List (Addr × Str)) (M H : Hp) : Prop where
  m : Same M H
  t : LamX.Tabs T H
/-- what may be written -/
def plainO : HO → Bool
  | .lst _ => true
  | .dK _ => true
  | .dT _ => true
  | .ins _ _ _ => true
  | _ => false
theorem tabs_new {T : List (Addr × Str)} {H : Hp} {p : Addr} {o : HO} (h : LamX.Tabs T H) (hp : H p = none) : LamX.Tabs T (upd H p o) := h.ext fun b o' e => by
  rw [upd_ne (ne_of_none e hp)]
  exact e
theorem tabs_write {T : List (Addr × Str)} {H : Hp} {p : Addr} {o o' : HO} (h : LamX.Tabs T H) (hp : H p = some o) (hk : plainO o = true) : LamX.Tabs T (upd H p o') := fun x hx => by
  obtain ⟨ps, h1, h2, h3⟩ := h x hx
  have n1 : x.1 ≠ p := fun z => by rw [z, hp] at h1; cases h1; cases hk
  refine ⟨ps, by rw [upd_ne n1]; exact h1, h2, fun pos cv hc => ?_⟩
  obtain ⟨c, e1, e2⟩ := h3 pos cv hc
  have n2 : c ≠ p := fun z => by
    rw [z, hp] at e2
    unfold LamX.CodeO at e2
    cases e2
    cases hk
  exact ⟨c, e1, by rw [upd_ne n2]; exact e2⟩

/-- an exception object that is held -/
def ExV (cls : Value) (a : Addr) : HO := .ext fun h => ∃ (oe : Obj) (vs : Array Value), h.get? a = some oe ∧ Zc cls none oe ∧ oe.data = .fields vs

mutual
inductive Dq (K : PySem.W.Frag) (F : Hp) : V → PyData → Prop
  | non : Dq K F .non .none
  | bl (b : Bool) : Dq K F (.bl b) (.bool b)
  | int (i : Int) : Dq K F (.int i) (.int i)
  | str (x : Str) : Dq K F (.str x) (.str x)
  | lst {a : Addr} {xs : List V} {ds : List PyData} : F a = some (.lst xs) → DqAll K F xs ds → Dq K F (.ref a) (.list ds)
  | tup {a : Addr} {xs : List V} {ds : List PyData} : SqT K F a xs → DqAll K F xs ds → Dq K F (.ref a) (.tuple ds)
inductive DqAll (K : PySem.W.Frag) (F : Hp) : List V → List PyData → Prop
  | nil : DqAll K F [] []
  | cons {v : V} {vs : List V} {d : PyData} {ds : List PyData} : Dq K F v d → DqAll K F vs ds → DqAll K F (v :: vs) (d :: ds)
end
theorem same_t {K : PySem.W.Frag} {H H' : Hp} {a : Addr} {xs : List V} (e : SameN H H') (h : SqT K H a xs) : SqT K H' a xs := by
  rcases h with (h | ⟨o, h⟩) | h
  · exact .inl (.inl (e _ _ h (fun _ z => by cases z)))
  · exact .inl (.inr ⟨o, e _ _ h (fun _ z => by cases z)⟩)
  · exact .inr h
section
variable {K : PySem.W.Frag} {F F' : Hp}
mutual
theorem Dq.mono (e : SameN F F') : ∀ (d : PyData) (v : V), Dq K F v d → Dq K F' v d
  | .none, _, h => by cases h; exact .non
  | .bool _, _, h => by cases h; exact .bl _
  | .int _, _, h => by cases h; exact .int _
  | .str _, _, h => by cases h; exact .str _
  | .list ds, _, h => by
    cases h with
    | lst h1 h2 => exact .lst (e _ _ h1 (fun _ z => by cases z)) (DqAll.mono e ds _ h2)
  | .tuple ds, _, h => by
    cases h with
    | tup h1 h2 => exact .tup (same_t e h1) (DqAll.mono e ds _ h2)
  | .dict _, _, h => by cases h
theorem DqAll.mono (e : SameN F F') : ∀ (ds : List PyData) (vs : List V), DqAll K F vs ds → DqAll K F' vs ds
  | [], _, h => by cases h; exact .nil
  | d :: ds, _, h => by
    cases h with
    | cons h1 h2 => exact .cons (Dq.mono e d _ h1) (DqAll.mono e ds _ h2)
end
mutual
theorem Dq.dp : ∀ (d : PyData) (v : V), Dq K F v d → Dp K F v d
  | .none, _, h => by cases h; exact .non
  | .bool _, _, h => by cases h; exact .bl _
  | .int _, _, h => by cases h; exact .int _
  | .str _, _, h => by cases h; exact .str _
  | .list ds, _, h => by
    cases h with
    | lst h1 h2 => exact .lst (SqL.of h1) (DqAll.dp ds _ h2)
  | .tuple ds, _, h => by
    cases h with
    | tup h1 h2 => exact .tup h1 (DqAll.dp ds _ h2)
  | .dict _, _, h => by cases h
theorem DqAll.dp : ∀ (ds : List PyData) (vs : List V), DqAll K F vs ds → DpAll K F vs ds
  | [], _, h => by cases h; exact .nil
  | d :: ds, _, h => by
    cases h with
    | cons h1 h2 => exact .cons (Dq.dp d _ h1) (DqAll.dp ds _ h2)
end
theorem DqAll.length : ∀ {vs : List V} {ds : List PyData}, DqAll K F vs ds → vs.length = ds.length
  | [], [], _ => rfl
  | _ :: _, _ :: _, .cons _ t => congrArg (· + 1) (DqAll.length t)
theorem DqAll.get : ∀ {vs : List V} {ds : List PyData} {i : Nat} {d : PyData}, DqAll K F vs ds → ds[i]? = some d → ∃ v, vs[i]? = some v ∧ Dq K F v d
  | _, _, _, _, .nil, h => by simp at h
  | _, _, 0, _, .cons h _, e => by simp at e; subst e; exact ⟨_, rfl, h⟩
  | _, _, i + 1, d, .cons _ t, e => by
    obtain ⟨v, h1, h2⟩ := DqAll.get (i := i) (d := d) t (by simpa using e)
    exact ⟨v, by simpa using h1, h2⟩
theorem DqAll.get' : ∀ {vs : List V} {ds : List PyData} {i : Nat} {v : V}, DqAll K F vs ds → vs[i]? = some v → ∃ d, ds[i]? = some d ∧ Dq K F v d
  | _, _, _, _, .nil, h => by simp at h
  | _, _, 0, _, .cons h _, e => by simp at e; subst e; exact ⟨_, rfl, h⟩
  | _, _, i + 1, v, .cons _ t, e => by
    obtain ⟨d, h1, h2⟩ := DqAll.get' (i := i) (v := v) t (by simpa using e)
    exact ⟨d, by simpa using h1, h2⟩
theorem DqAll.append : ∀ {vs ws : List V} {ds es : List PyData}, DqAll K F vs ds → DqAll K F ws es → DqAll K F (vs ++ ws) (ds ++ es)
  | _, _, _, _, .nil, h => h
  | _, _, _, _, .cons a t, h => .cons a (DqAll.append t h)
theorem DqAll.take : ∀ {vs : List V} {ds : List PyData} (n : Nat), DqAll K F vs ds → DqAll K F (vs.take n) (ds.take n)
  | _, _, 0, _ => .nil
  | _, _, _ + 1, .nil => .nil
  | _, _, n + 1, .cons a t => .cons a (DqAll.take n t)
theorem DqAll.drop : ∀ {vs : List V} {ds : List PyData} (n : Nat), DqAll K F vs ds → DqAll K F (vs.drop n) (ds.drop n)
  | _, _, 0, h => h
  | _, _, _ + 1, .nil => .nil
  | _, _, n + 1, .cons _ t => DqAll.drop n t
theorem DqAll.ints : ∀ {vs : List V} {ns : List Int}, DqAll K F vs (ns.map PyData.int) → vs = ns.map V.int
  | _, [], h => by cases h; rfl
  | _, n :: ns, h => by
    cases h with
    | cons h1 h2 =>
      cases h1
      rw [List.map_cons, DqAll.ints h2]
theorem DqAll.bools : ∀ {vs : List V} {ns : List Bool}, DqAll K F vs (ns.map PyData.bool) → vs = ns.map V.bl
  | _, [], h => by cases h; rfl
  | _, n :: ns, h => by
    cases h with
    | cons h1 h2 =>
      cases h1
      rw [List.map_cons, DqAll.bools h2]
theorem DqAll.of_ints : ∀ (ns : List Int), DqAll K F (ns.map V.int) (ns.map PyData.int)
  | [] => .nil
  | n :: ns => .cons (.int n) (DqAll.of_ints ns)
end

/-! ### values: data, anything, an exception held -/
inductive DV where
  | d (x : PyData)
  | v (u : V)
  | e (C : Addr)
  | r (ds : List PyData)
def Rp (K : PySem.W.Frag) (M H : Hp) (v : V) : DV → Prop
  | .d x => Dq K (off M H) v x
  | .v u => v = u
  | .e C => ∃ a, v = .ref a ∧ off M H a = some (ExV (.ref C) a)
  | .r ds => ∃ a xs, v = .ref a ∧ SqL K (off M H) a xs ∧ DqAll K (off M H) xs ds
structure Step (T : List (Addr × Str)) (M H M' H' : Hp) : Prop where
  hold : Hold T M' H'
  ext : SameN (off M H) (off M' H')
section
variable {T : List (Addr × Str)} {K : PySem.W.Frag} {M H M' H' M1 H1 M2 H2 : Hp} {v : V} {dv : DV} {p : Addr} {o o' : HO}
theorem Rp.step (s : Step T M H M' H') (h : Rp K M H v dv) : Rp K M' H' v dv := by
  cases dv with
  | d x => exact Dq.mono s.ext x v h
  | v u => exact h
  | e C =>
    obtain ⟨a, e, h⟩ := h
    exact ⟨a, e, s.ext _ _ h (fun _ z => by unfold ExV at z; cases z)⟩
  | r ds =>
    obtain ⟨a, xs, e, h1, h2⟩ := h
    exact ⟨a, xs, e, s.ext.seq h1, DqAll.mono s.ext ds xs h2⟩
theorem Step.refl (h : Hold T M H) : Step T M H M H := ⟨h, SameN.refl _⟩
theorem Step.trans (a : Step T M H M1 H1) (b : Step T M1 H1 M2 H2) : Step T M H M2 H2 := ⟨b.hold, a.ext.trans b.ext⟩
theorem Hold.none (h : Hold T M H) (hp : H p = none) : M p = none := by
  cases e : M p with
  | none => rfl
  | some x => rw [h.m _ _ e] at hp; cases hp
theorem Step.alloc (h : Hold T M H) (hp : H p = none) : Step T M H M (upd H p o) := by
  refine ⟨⟨fun a x e => ?_, tabs_new h.t hp⟩, fun a x e _ => ?_⟩
  · rw [upd_ne (ne_of_none (h.m _ _ e) hp)]
    exact h.m _ _ e
  · obtain ⟨e1, e2⟩ := of_off e
    exact off_of (by rw [upd_ne (ne_of_none e1 hp)]; exact e1) e2
theorem Step.alloc_at (h : Hold T M H) (hp : H p = none) : off M (upd H p o) p = some o := off_of upd_same (h.none hp)
theorem Step.newmut (h : Hold T M H) (hp : H p = none) : Step T M H (upd M p o) (upd H p o) := by
  refine ⟨⟨fun a x e => ?_, tabs_new h.t hp⟩, fun a x e _ => ?_⟩
  · by_cases z : a = p
    · subst z
      rw [upd_same] at e ⊢
      exact e
    · rw [upd_ne z] at e ⊢
      exact h.m _ _ e
  · obtain ⟨e1, e2⟩ := of_off e
    have z := ne_of_none e1 hp
    exact off_of (by rw [upd_ne z]; exact e1) (by rw [upd_ne z]; exact e2)
theorem Step.write (h : Hold T M H) (hp : M p = some o) (hk : plainO o = true) : Step T M H (upd M p o') (upd H p o') := by
  refine ⟨⟨fun a x e => ?_, tabs_write h.t (h.m _ _ hp) hk⟩, fun a x e _ => ?_⟩
  · by_cases z : a = p
    · subst z
      rw [upd_same] at e ⊢
      exact e
    · rw [upd_ne z] at e ⊢
      exact h.m _ _ e
  · obtain ⟨e1, e2⟩ := of_off e
    have z : a ≠ p := fun z => by rw [z, hp] at e2; cases e2
    exact off_of (by rw [upd_ne z]; exact e1) (by rw [upd_ne z]; exact e2)
/-- a part that may be written is one no longer -/
def rem (M : Hp) (p : Addr) : Hp := fun a => if a = p then none else M a
theorem rem_same : rem M p p = none := by
  unfold rem
  rw [if_pos rfl]
theorem rem_ne {a : Addr} (h : a ≠ p) : rem M p a = M a := by
  unfold rem
  rw [if_neg h]
theorem Step.freeze (s : Step T M H M1 H1) : Step T M H (rem M1 p) H1 := by
  refine ⟨⟨fun a x e => ?_, s.hold.t⟩, fun a x e n => ?_⟩
  · by_cases z : a = p
    · subst z; rw [rem_same] at e; cases e
    · rw [rem_ne z] at e; exact s.hold.m _ _ e
  · obtain ⟨e1, e2⟩ := of_off (s.ext _ _ e n)
    refine off_of e1 ?_
    by_cases z : a = p
    · subst z; exact rem_same
    · rw [rem_ne z]; exact e2
end

/-! ### what is wanted behind -/
abbrev Env' := List (Option DV)
def EnvOk (K : PySem.W.Frag) (M H : Hp) (σ : L2.St) (ρ : Env') : Prop := ρ.length = σ.length ∧ ∀ (i : Nat) (dv : DV), ρ[i]? = some (some dv) → ∃ v, σ[i]? = some (some v) ∧ Rp K M H v dv
def Kv (T : List (Addr × Str)) (K : PySem.W.Frag) (M H : Hp) (q : DV → MM → Prop) (Q : VK) : Prop := ∀ v dv M' H', q dv M' → Step T M H M' H' → Rp K M' H' v dv → Q v H'
/-- how errors may leave (by class), the tables that are told -/
structure XP where
  e : Addr → MM → Prop
  T : List (Addr × Str)
def Kx (M H : Hp) (ex : XP) (W : WX) : Prop := ∀ c M' H' σ', ex.e c M' → Step ex.T M H M' H' → W (.ref c) none σ' H'
def Kt (T : List (Addr × Str)) (M H : Hp) (q : Bool → MM → Prop) (Q : Bool → Hp → Prop) : Prop := ∀ b M' H', q b M' → Step T M H M' H' → Q b H'
def RpAll (K : PySem.W.Frag) (M H : Hp) : List V → List DV → Prop := Paired (Rp K M H)
def Ka (T : List (Addr × Str)) (K : PySem.W.Frag) (M H : Hp) (q : List DV → MM → Prop) (Q : List V → Hp → Prop) : Prop := ∀ vs dvs M' H', q dvs M' → Step T M H M' H' → RpAll K M' H' vs dvs → Q vs H'
structure Post where
  nx : Env' → MM → Prop
  rt : DV → MM → Prop
  bk : Env' → MM → Prop := fun _ _ => False
  ct : Env' → MM → Prop := fun _ _ => False
structure Kr (T : List (Addr × Str)) (K : PySem.W.Frag) (M H : Hp) (P : Post) (D : Ends) : Prop where
  nx : ∀ ρ' M' σ' H', P.nx ρ' M' → Step T M H M' H' → EnvOk K M' H' σ' ρ' → D.nx σ' H'
  rt : ∀ v dv M' H', P.rt dv M' → Step T M H M' H' → Rp K M' H' v dv → D.rt v H'
  bk : ∀ ρ' M' σ' H', P.bk ρ' M' → Step T M H M' H' → EnvOk K M' H' σ' ρ' → D.bk σ' H'
  ct : ∀ ρ' M' σ' H', P.ct ρ' M' → Step T M H M' H' → EnvOk K M' H' σ' ρ' → D.ct σ' H'
section
variable {T : List (Addr × Str)} {K : PySem.W.Frag} {M H M' H' : Hp}
theorem EnvOk.step {σ : L2.St} {ρ : Env'} (s : Step T M H M' H') (h : EnvOk K M H σ ρ) : EnvOk K M' H' σ ρ := ⟨h.1, fun i dv e => by
  obtain ⟨v, e1, r⟩ := h.2 i dv e
  exact ⟨v, e1, r.step s⟩⟩
theorem EnvOk.set {σ : L2.St} {ρ : Env'} {i : Nat} {v : V} {dv : DV} (h : EnvOk K M H σ ρ) (r : Rp K M H v dv) : EnvOk K M H (σ.set i (some v)) (ρ.set i (some dv)) := by
  refine ⟨by rw [List.length_set, List.length_set]; exact h.1, fun j dw e => ?_⟩
  by_cases hj : i = j
  · subst hj
    by_cases hi : i < ρ.length
    · rw [List.getElem?_set_self hi] at e
      cases e
      exact ⟨v, List.getElem?_set_self (by rw [← h.1]; exact hi), r⟩
    · rw [List.getElem?_eq_none (by rw [List.length_set]; omega)] at e
      cases e
  · rw [List.getElem?_set_ne hj] at e ⊢
    exact h.2 j dw e
theorem Kv.step {q : DV → MM → Prop} {Q : VK} (s : Step T M H M' H') (k : Kv T K M H q Q) : Kv T K M' H' q Q := fun v dv M2 H2 hq s2 r => k v dv M2 H2 hq (s.trans s2) r
theorem Kx.step {ex : XP} {W : WX} (s : Step ex.T M H M' H') (k : Kx M H ex W) : Kx M' H' ex W := fun c M2 H2 σ hq s2 => k c M2 H2 σ hq (s.trans s2)
theorem Kt.step {q : Bool → MM → Prop} {Q : Bool → Hp → Prop} (s : Step T M H M' H') (k : Kt T M H q Q) : Kt T M' H' q Q := fun b M2 H2 hq s2 => k b M2 H2 hq (s.trans s2)
theorem Ka.step {q : List DV → MM → Prop} {Q : List V → Hp → Prop} (s : Step T M H M' H') (k : Ka T K M H q Q) : Ka T K M' H' q Q := fun v dv M2 H2 hq s2 r => k v dv M2 H2 hq (s.trans s2) r
theorem Kr.step {P : Post} {D : Ends} (s : Step T M H M' H') (k : Kr T K M H P D) : Kr T K M' H' P D :=
  ⟨fun ρ M2 σ H2 h s2 e => k.nx ρ M2 σ H2 h (s.trans s2) e, fun v dv M2 H2 h s2 e => k.rt v dv M2 H2 h (s.trans s2) e, fun ρ M2 σ H2 h s2 e => k.bk ρ M2 σ H2 h (s.trans s2) e, fun ρ M2 σ H2 h s2 e => k.ct ρ M2 σ H2 h (s.trans s2) e⟩
end

/-! ### the weakest readings -/
section
variable (X : Cx)
def wE (e : Expr) : TE := fun σ H Q => ∀ pins s, Inv X pins σ H s → wpAny (model X.prog X.w) X.A (eval e X.env) (EP X pins σ Q) X.xe s
def wT (e : Expr) : TT := fun σ H Q => ∀ pins s, Inv X pins σ H s → wpAny (model X.prog X.w) X.A (isTrue e X.env (eval e X.env)) (TP X pins σ Q) X.xe s
def wW (e : Expr) : TT := fun σ H Q => ∀ whole pins s, Inv X pins σ H s → wpAny (model X.prog X.w) X.A (isTrue e X.env whole) (TP X pins σ Q) X.xe s
def wA (es : List Expr) : TA := fun σ H Q => ∀ pos pins s, Inv X pins σ H s → wpAny (model X.prog X.w) X.A (spliced (backTo pos (starEach es X.env))) (AP X pins σ Q) X.xe s
def wS (ss : List Stmt) : TS := fun D σ H => ∀ pins s, Inv X pins σ H s → wpAny (model X.prog X.w) X.A (execs ss X.env) (SP X pins D) X.xe s
end
section
variable {X : Cx} {e : Expr} {es : List Expr} {ss : List Stmt}
theorem pe_w : PE X e (wE X e) := ⟨fun pins s _ _ _ I h => h pins s I⟩
theorem pt_w : PT X e (wT X e) := ⟨fun pins s _ _ _ I h => h pins s I⟩
theorem pw_w : PW X e (wW X e) := ⟨fun wh pins s _ _ _ I h => h wh pins s I⟩
theorem pa_w : PA X es (wA X es) := ⟨fun pos pins s _ _ _ I h => h pos pins s I⟩
theorem pss_w : PSs X ss (wS X ss) := ⟨fun pins s _ _ _ I h => h pins s I⟩
theorem wE_of {t : TE} {σ : L2.St} {H : Hp} {Q : VK} (p : PE X e t) (h : t σ H Q) : wE X e σ H Q := fun pins s I => p.run pins s σ H Q I h
theorem wT_of {t : TT} {σ : L2.St} {H : Hp} {Q : Bool → Hp → Prop} (p : PT X e t) (h : t σ H Q) : wT X e σ H Q := fun pins s I => p.run pins s σ H Q I h
theorem wW_of {t : TT} {σ : L2.St} {H : Hp} {Q : Bool → Hp → Prop} (p : PW X e t) (h : t σ H Q) : wW X e σ H Q := fun wh pins s I => p.run wh pins s σ H Q I h
theorem wA_of {t : TA} {σ : L2.St} {H : Hp} {Q : List V → Hp → Prop} (p : PA X es t) (h : t σ H Q) : wA X es σ H Q := fun pos pins s I => p.run pos pins s σ H Q I h
theorem wS_of {t : TS} {σ : L2.St} {H : Hp} {D : Ends} (p : PSs X ss t) (h : t D σ H) : wS X ss D σ H := fun pins s I => p.run pins s σ H D I h
end

/-! ### what comes to what -/
structure Ev (X : Cx) (ex : XP) (e : Expr) (ρ : Env') (M : MM) (q : DV → MM → Prop) : Prop where
  run : ∀ (W : WX), Takes X W → ∀ σ H, Hold ex.T M H → EnvOk X.K M H σ ρ → ∀ Q : VK, Kv ex.T X.K M H q Q → Kx M H ex W → wE X e σ H Q
structure Et (X : Cx) (ex : XP) (e : Expr) (ρ : Env') (M : MM) (q : Bool → MM → Prop) : Prop where
  run : ∀ (W : WX), Takes X W → ∀ σ H, Hold ex.T M H → EnvOk X.K M H σ ρ → ∀ Q : Bool → Hp → Prop, Kt ex.T M H q Q → Kx M H ex W → wT X e σ H Q
structure Ew (X : Cx) (ex : XP) (e : Expr) (ρ : Env') (M : MM) (q : Bool → MM → Prop) : Prop where
  run : ∀ (W : WX), Takes X W → ∀ σ H, Hold ex.T M H → EnvOk X.K M H σ ρ → ∀ Q : Bool → Hp → Prop, Kt ex.T M H q Q → Kx M H ex W → wW X e σ H Q
structure Ea (X : Cx) (ex : XP) (es : List Expr) (ρ : Env') (M : MM) (q : List DV → MM → Prop) : Prop where
  run : ∀ (W : WX), Takes X W → ∀ σ H, Hold ex.T M H → EnvOk X.K M H σ ρ → ∀ Q : List V → Hp → Prop, Ka ex.T X.K M H q Q → Kx M H ex W → wA X es σ H Q
structure Run (X : Cx) (ex : XP) (ss : List Stmt) (ρ : Env') (M : MM) (P : Post) : Prop where
  run : ∀ (W : WX), Takes X W → ∀ σ H, Hold ex.T M H → EnvOk X.K M H σ ρ → ∀ D : Ends, Kr ex.T X.K M H P D → Kx M H ex W → wS X ss D σ H

/-- rules by values -/
structure RR (T : List (Addr × Str)) (K : PySem.W.Frag) (r : R2) (da db : DV) (M : MM) (q : DV → MM → Prop) : Prop where
  run : ∀ x y H Q, Hold T M H → Rp K M H x da → Rp K M H y db → Kv T K M H q Q → r x y H Q
structure RU (T : List (Addr × Str)) (K : PySem.W.Frag) (r : V → Hp → VK → Prop) (da : DV) (M : MM) (q : DV → MM → Prop) : Prop where
  run : ∀ x H Q, Hold T M H → Rp K M H x da → Kv T K M H q Q → r x H Q
structure RC (T : List (Addr × Str)) (K : PySem.W.Frag) (r : List V → Hp → VK → Prop) (ds : List DV) (M : MM) (q : DV → MM → Prop) : Prop where
  run : ∀ vs H Q, Hold T M H → RpAll K M H vs ds → Kv T K M H q Q → r vs H Q

section
variable {X : Cx} {ex : XP} {ρ : Env'} {M : MM} {q : DV → MM → Prop} {qt : Bool → MM → Prop} {a b e : Expr} {es : List Expr} {pos : Pos}
/-! names, constants -/
structure VarOk (X : Cx) (i : Nat) (x : Str) : Prop where
  ix : X.N[i]? = some x
  vis : Vis X.env.scope x
  nd : (x == ("__debug__" : Str)) = false
  nc : (x == ("__classdict__" : Str)) = false
theorem ev_var {i : Nat} {x : Str} {dv : DV} (h : VarOk X i x) (hr : ρ[i]? = some (some dv)) (k : q dv M) : Ev X ex (.Name x pos) ρ M q := by
  refine ⟨fun W tk σ H hM hE Q kv kx => ?_⟩
  obtain ⟨v, e, r⟩ := hE.2 i dv hr
  exact wE_of (pe_var h.ix h.vis h.nd h.nc) ⟨v, e, kv v dv M H k (Step.refl hM) r⟩
theorem ev_c {v : V} {dv : DV} (h : PE X e (tC v)) (r : ∀ H, Hold ex.T M H → Rp X.K M H v dv) (k : q dv M) : Ev X ex e ρ M q := by
  refine ⟨fun W tk σ H hM hE Q kv kx => ?_⟩
  exact wE_of h (kv v dv M H k (Step.refl hM) (r H hM))
theorem ev_int {i : Int} {j} (k : q (.d (.int i)) M) : Ev X ex (.Constant (.int i) j pos) ρ M q := ev_c (dv := .d (.int i)) pe_int (fun _ _ => .int i) k
theorem ev_bl {b : Bool} {j} (k : q (.d (.bool b)) M) : Ev X ex (.Constant (.bool b) j pos) ρ M q := ev_c (dv := .d (.bool b)) pe_bl (fun _ _ => .bl b) k
theorem ev_non {j} (k : q (.d .none) M) : Ev X ex (.Constant .none j pos) ρ M q := ev_c (dv := .d .none) pe_non (fun _ _ => .non) k
theorem ev_str {x : Str} {j} (k : q (.d (.str x)) M) : Ev X ex (.Constant (.str x) j pos) ρ M q := ev_c (dv := .d (.str x)) pe_str (fun _ _ => .str x) k
/-- a module's constant -/
structure GlobOk (X : Cx) (x : Str) (dv : DV) : Prop where
  gl : Gl X x
  ex : ∃ u v, X.mg x = some u ∧ RelV v u ∧ ∀ M H, Rp X.K M H v dv
  nd : (x == ("__debug__" : Str)) = false
theorem ev_glob {x : Str} {dv : DV} (h : GlobOk X x dv) (k : q dv M) : Ev X ex (.Name x pos) ρ M q := by
  obtain ⟨u, v, h1, h2, h3⟩ := h.ex
  exact ev_c (pe_glob h.gl h1 h2 h.nd) (fun H _ => h3 M H) k
/-! operators -/
theorem ev_bin {op : Operator} {r : R2} (ho : OpR X (binaryOp op) r) (h : Ev X ex a ρ M fun da M1 => Ev X ex b ρ M1 fun db M2 => RR ex.T X.K r da db M2 q) : Ev X ex (.BinOp a op b pos) ρ M q := by
  refine ⟨fun W tk σ H hM hE Q kv kx => ?_⟩
  refine wE_of (pe_op ho pe_w pe_w) ?_
  refine h.run W tk σ H hM hE _ (fun x da M1 H1 h1 s1 r1 => ?_) kx
  refine h1.run W tk σ H1 s1.hold (hE.step s1) _ (fun y db M2 H2 h2 s2 r2 => ?_) (kx.step s1)
  exact h2.run x y H2 Q s2.hold (r1.step s2) r2 (kv.step (s1.trans s2))
theorem ev_un {op : UnaryOp} {r : V → Hp → VK → Prop} (ho : UnR X (unaryOp op) r) (h : Ev X ex a ρ M fun da M1 => RU ex.T X.K r da M1 q) : Ev X ex (.UnaryOp op a pos) ρ M q := by
  refine ⟨fun W tk σ H hM hE Q kv kx => ?_⟩
  refine wE_of (pe_un ho pe_w) ?_
  refine h.run W tk σ H hM hE _ (fun x da M1 H1 h1 s1 r1 => ?_) kx
  exact h1.run x H1 Q s1.hold r1 (kv.step s1)
theorem ev_cmp {op : CmpOp} {r : R2} (ho : OpR X (compareOp op) r) (hm : behindInMarks op b = false) (h : Ev X ex a ρ M fun da M1 => Ev X ex b ρ M1 fun db M2 => RR ex.T X.K r da db M2 q) : Ev X ex (.Compare a [op] [b] pos) ρ M q := by
  refine ⟨fun W tk σ H hM hE Q kv kx => ?_⟩
  refine wE_of (pe_cmpR ho pe_w pe_w hm) ?_
  refine h.run W tk σ H hM hE _ (fun x da M1 H1 h1 s1 r1 => ?_) kx
  refine h1.run W tk σ H1 s1.hold (hE.step s1) _ (fun y db M2 H2 h2 s2 r2 => ?_) (kx.step s1)
  exact h2.run x y H2 Q s2.hold (r1.step s2) r2 (kv.step (s1.trans s2))
/-- a comparison as a test -/
abbrev Bq (qt : Bool → MM → Prop) : DV → MM → Prop := fun dv M => ∃ b, dv = .d (.bool b) ∧ qt b M
theorem Kt.bq {T : List (Addr × Str)} {K : PySem.W.Frag} {M H : Hp} {Q : Bool → Hp → Prop} (k : Kt T M H qt Q) : Kv T K M H (Bq qt) (fun x H' => ∃ c, x = .bl c ∧ Q c H') := fun v dv M' H' ⟨b, e, h⟩ s r => by
  subst e
  cases r
  exact ⟨b, rfl, k b M' H' h s⟩
theorem et_cmp {op : CmpOp} {r : R2} (ho : OpR X (compareOp op) r) (hm : behindInMarks op b = false) (h : Ev X ex a ρ M fun da M1 => Ev X ex b ρ M1 fun db M2 => RR ex.T X.K r da db M2 (Bq qt)) : Et X ex (.Compare a [op] [b] pos) ρ M qt := by
  refine ⟨fun W tk σ H hM hE Q kt kx => ?_⟩
  refine wT_of (pt_cmpR ho pe_w pe_w hm) ?_
  refine h.run W tk σ H hM hE _ (fun x da M1 H1 h1 s1 r1 => ?_) kx
  refine h1.run W tk σ H1 s1.hold (hE.step s1) _ (fun y db M2 H2 h2 s2 r2 => ?_) (kx.step s1)
  exact h2.run x y H2 _ s2.hold (r1.step s2) r2 ((kt.step (s1.trans s2)).bq)
/-- an expression that comes to a bool, as a test -/
theorem et_val (h : Ev X ex e ρ M (Bq qt)) (he : isLogic e = false) : Et X ex e ρ M qt := by
  refine ⟨fun W tk σ H hM hE Q kt kx => ?_⟩
  exact wT_of (pt_val pe_w (fun _ => plain_ok he)) (h.run W tk σ H hM hE _ kt.bq kx)
/-! chains -/
theorem ev_chain {op op' : CmpOp} {c : Expr} {r r' : R2} (ho : OpR X (compareOp op) r) (ho' : OpR X (compareOp op') r') (hm : lastMarks [op, op'] [b, c] = false := by with_unfolding_all rfl)
    (h : Ev X ex a ρ M fun da M1 => Ev X ex b ρ M1 fun db M2 => RR ex.T X.K r da db M2 (Bq fun k M3 => if k = true then Ev X ex c ρ M3 fun dc M4 => RR ex.T X.K r' db dc M4 q else q (.d (.bool false)) M3)) : Ev X ex (.Compare a [op, op'] [b, c] pos) ρ M q := by
  refine ⟨fun W tk σ H hM hE Q kv kx => ?_⟩
  refine wE_of (pe_chain ho ho' pe_w pe_w pe_w hm) ?_
  refine h.run W tk σ H hM hE _ (fun x da M1 H1 h1 s1 r1 => ?_) kx
  refine h1.run W tk σ H1 s1.hold (hE.step s1) _ (fun y db M2 H2 h2 s2 r2 => ?_) (kx.step s1)
  refine h2.run x y H2 _ s2.hold (r1.step s2) r2 fun z dz M3 H3 ⟨k, e, h3⟩ s3 r3 => ?_
  subst e
  cases r3
  refine ⟨k, rfl, ?_⟩
  have s03 := (s1.trans s2).trans s3
  cases k with
  | true =>
    refine iteT ?_
    have h3' := h3
    rw [if_pos rfl] at h3'
    refine h3'.run W tk σ H3 s3.hold (hE.step s03) _ (fun z dc M4 H4 h4 s4 r4 => ?_) (kx.step s03)
    exact h4.run y z H4 Q s4.hold ((r2.step s3).step s4) r4 (kv.step (s03.trans s4))
  | false =>
    refine iteF ?_
    have h3' := h3
    rw [if_neg Bool.false_ne_true] at h3'
    exact kv _ _ M3 H3 h3' s03 (.bl false)
end
end G
namespace G
open PySem PySem.Spec PyProof.Rows L2
section
variable {X : Cx} {ex : XP} {ρ : Env'} {M : MM} {q : DV → MM → Prop} {qt : Bool → MM → Prop} {qa : List DV → MM → Prop} {a b c e : Expr} {es rest : List Expr} {pos : Pos}
/-! ### and, or, not, if else -/
theorem ev_one {op} (h : Ev X ex a ρ M q) : Ev X ex (.BoolOp op [a] pos) ρ M q := ⟨fun W tk σ H hM hE Q kv kx => wE_of (pe_one pe_w) (h.run W tk σ H hM hE Q kv kx)⟩
theorem ev_and (h : Ev X ex a ρ M (Bq fun k M1 => if k = true then Ev X ex (.BoolOp .And (b :: rest) pos) ρ M1 q else q (.d (.bool false)) M1)) : Ev X ex (.BoolOp .And (a :: b :: rest) pos) ρ M q := by
  refine ⟨fun W tk σ H hM hE Q kv kx => ?_⟩
  refine wE_of (pe_and pe_w pe_w) ?_
  refine h.run W tk σ H hM hE _ (fun x da M1 H1 ⟨k, e1, h1⟩ s1 r1 => ?_) kx
  subst e1
  cases r1
  refine ⟨k, rfl, ?_⟩
  cases k with
  | true => exact iteT (by rw [if_pos rfl] at h1; exact h1.run W tk σ H1 s1.hold (hE.step s1) Q (kv.step s1) (kx.step s1))
  | false => exact iteF (by rw [if_neg Bool.false_ne_true] at h1; exact kv _ _ M1 H1 h1 s1 (.bl false))
theorem ev_or (h : Ev X ex a ρ M (Bq fun k M1 => if k = true then q (.d (.bool true)) M1 else Ev X ex (.BoolOp .Or (b :: rest) pos) ρ M1 q)) : Ev X ex (.BoolOp .Or (a :: b :: rest) pos) ρ M q := by
  refine ⟨fun W tk σ H hM hE Q kv kx => ?_⟩
  refine wE_of (pe_or pe_w pe_w) ?_
  refine h.run W tk σ H hM hE _ (fun x da M1 H1 ⟨k, e1, h1⟩ s1 r1 => ?_) kx
  subst e1
  cases r1
  refine ⟨k, rfl, ?_⟩
  cases k with
  | true => exact iteT (by rw [if_pos rfl] at h1; exact kv _ _ M1 H1 h1 s1 (.bl true))
  | false => exact iteF (by rw [if_neg Bool.false_ne_true] at h1; exact h1.run W tk σ H1 s1.hold (hE.step s1) Q (kv.step s1) (kx.step s1))
theorem ev_not (h : Ev X ex a ρ M (Bq fun k M1 => q (.d (.bool (!k))) M1)) : Ev X ex (.UnaryOp .Not a pos) ρ M q := by
  refine ⟨fun W tk σ H hM hE Q kv kx => ?_⟩
  refine wE_of (pe_not pe_w) ?_
  refine h.run W tk σ H hM hE _ (fun x da M1 H1 ⟨k, e1, h1⟩ s1 r1 => ?_) kx
  subst e1
  cases r1
  exact ⟨k, rfl, kv _ _ M1 H1 h1 s1 (.bl _)⟩
theorem ev_if (h : Et X ex c ρ M fun k M1 => if k = true then Ev X ex a ρ M1 q else Ev X ex b ρ M1 q) : Ev X ex (.IfExp c a b pos) ρ M q := by
  refine ⟨fun W tk σ H hM hE Q kv kx => ?_⟩
  refine wE_of (pe_ifExp pt_w pe_w pe_w) ?_
  refine h.run W tk σ H hM hE _ (fun k M1 H1 h1 s1 => ?_) kx
  cases k with
  | true => exact iteT (by rw [if_pos rfl] at h1; exact h1.run W tk σ H1 s1.hold (hE.step s1) Q (kv.step s1) (kx.step s1))
  | false => exact iteF (by rw [if_neg Bool.false_ne_true] at h1; exact h1.run W tk σ H1 s1.hold (hE.step s1) Q (kv.step s1) (kx.step s1))
/-! as tests -/
theorem et_w (h : Ew X ex e ρ M qt) : Et X ex e ρ M qt := ⟨fun W tk σ H hM hE Q kt kx => wT_of (PW.pt pw_w) (h.run W tk σ H hM hE Q kt kx)⟩
theorem ew_and1 (h : Et X ex a ρ M qt) : Ew X ex (.BoolOp .And [a] pos) ρ M qt := ⟨fun W tk σ H hM hE Q kt kx => wW_of (pw_and1 pt_w) (h.run W tk σ H hM hE Q kt kx)⟩
theorem ew_or1 (h : Et X ex a ρ M qt) : Ew X ex (.BoolOp .Or [a] pos) ρ M qt := ⟨fun W tk σ H hM hE Q kt kx => wW_of (pw_or1 pt_w) (h.run W tk σ H hM hE Q kt kx)⟩
theorem ew_and (h : Et X ex a ρ M fun k M1 => if k = true then Ew X ex (.BoolOp .And (b :: rest) pos) ρ M1 qt else qt false M1) : Ew X ex (.BoolOp .And (a :: b :: rest) pos) ρ M qt := by
  refine ⟨fun W tk σ H hM hE Q kt kx => ?_⟩
  refine wW_of (pw_and pt_w pw_w) ?_
  refine h.run W tk σ H hM hE _ (fun k M1 H1 h1 s1 => ?_) kx
  cases k with
  | true => exact iteT (by rw [if_pos rfl] at h1; exact h1.run W tk σ H1 s1.hold (hE.step s1) Q (kt.step s1) (kx.step s1))
  | false => exact iteF (by rw [if_neg Bool.false_ne_true] at h1; exact kt _ M1 H1 h1 s1)
theorem ew_or (h : Et X ex a ρ M fun k M1 => if k = true then qt true M1 else Ew X ex (.BoolOp .Or (b :: rest) pos) ρ M1 qt) : Ew X ex (.BoolOp .Or (a :: b :: rest) pos) ρ M qt := by
  refine ⟨fun W tk σ H hM hE Q kt kx => ?_⟩
  refine wW_of (pw_or pt_w pw_w) ?_
  refine h.run W tk σ H hM hE _ (fun k M1 H1 h1 s1 => ?_) kx
  cases k with
  | true => exact iteT (by rw [if_pos rfl] at h1; exact kt _ M1 H1 h1 s1)
  | false => exact iteF (by rw [if_neg Bool.false_ne_true] at h1; exact h1.run W tk σ H1 s1.hold (hE.step s1) Q (kt.step s1) (kx.step s1))
theorem et_and (h : Et X ex a ρ M fun k M1 => if k = true then Ew X ex (.BoolOp .And (b :: rest) pos) ρ M1 qt else qt false M1) : Et X ex (.BoolOp .And (a :: b :: rest) pos) ρ M qt := et_w (ew_and h)
theorem et_or (h : Et X ex a ρ M fun k M1 => if k = true then qt true M1 else Ew X ex (.BoolOp .Or (b :: rest) pos) ρ M1 qt) : Et X ex (.BoolOp .Or (a :: b :: rest) pos) ρ M qt := et_w (ew_or h)
theorem et_not (h : Et X ex a ρ M fun k M1 => qt (!k) M1) : Et X ex (.UnaryOp .Not a pos) ρ M qt := ⟨fun W tk σ H hM hE Q kt kx =>
  wT_of (pt_not pt_w) (h.run W tk σ H hM hE _ (fun k M1 H1 h1 s1 => kt _ M1 H1 h1 s1) kx)⟩
/-! ### arguments, displays -/
theorem ea_nil (h : qa [] M) : Ea X ex [] ρ M qa := ⟨fun W tk σ H hM hE Q ka kx => wA_of pa_nil (ka [] [] M H h (Step.refl hM) .nil)⟩
theorem ea_cons (h : Ev X ex e ρ M fun dv M1 => Ea X ex es ρ M1 fun ds M2 => qa (dv :: ds) M2) (hs : isStar e = false) : Ea X ex (e :: es) ρ M qa := by
  refine ⟨fun W tk σ H hM hE Q ka kx => ?_⟩
  refine wA_of (pa_cons pe_w pa_w (star_ok hs)) ?_
  refine h.run W tk σ H hM hE _ (fun x da M1 H1 h1 s1 r1 => ?_) kx
  refine h1.run W tk σ H1 s1.hold (hE.step s1) _ (fun ys ds M2 H2 h2 s2 r2 => ?_) (kx.step s1)
  exact ka _ _ M2 H2 h2 (s1.trans s2) (.cons (r1.step s2) r2)
def undv : List DV → Option (List PyData)
  | [] => some []
  | .d x :: r => (undv r).map (x :: ·)
  | _ :: _ => none
theorem undv_all {K : PySem.W.Frag} {M H : Hp} : ∀ {ds : List DV} {xs : List PyData} {vs : List V}, undv ds = some xs → RpAll K M H vs ds → DqAll K (off M H) vs xs
  | [], xs, _, h, .nil => by cases h; exact .nil
  | .d x :: r, xs, _, h, .cons a t => by
    unfold undv at h
    cases e : undv r with
    | none => rw [e] at h; cases h
    | some ys =>
      rw [e] at h
      cases h
      exact .cons a (undv_all e t)
  | .v _ :: _, _, _, h, _ => by cases h
  | .e _ :: _, _, _, h, _ => by cases h
  | .r _ :: _, _, _, h, _ => by cases h
theorem RpAll.len {K : PySem.W.Frag} {M H : Hp} {vs : List V} {ds : List DV} (r : RpAll K M H vs ds) : vs.length = ds.length := Paired.length r
theorem ev_tup {x1} (h : Ea X ex es ρ M fun ds M1 => ∃ xs, undv ds = some xs ∧ xs.length ≤ 100000 ∧ q (.d (.tuple xs)) M1) : Ev X ex (.Tuple es x1 pos) ρ M q := by
  refine ⟨fun W tk σ H hM hE Q kv kx => ?_⟩
  refine wE_of (pe_tup pa_w) ?_
  refine h.run W tk σ H hM hE _ (fun vs ds M1 H1 ⟨xs, e1, hl, h1⟩ s1 r1 => ?_) kx
  have ra := undv_all e1 r1
  refine ⟨by rw [ra.length]; exact Nat.le_trans hl (by decide), fun p hp => ?_⟩
  have s2 := Step.alloc (o := .tup vs) s1.hold hp
  exact kv _ _ M1 _ h1 (s1.trans s2) (.tup (SqT.of (Step.alloc_at s1.hold hp)) (DqAll.mono s2.ext _ _ ra))
theorem ev_lst (h : Ea X ex es ρ M fun ds M1 => ∃ xs, undv ds = some xs ∧ xs.length ≤ 100000 ∧ q (.d (.list xs)) M1) : Ev X ex (.List es pos) ρ M q := by
  refine ⟨fun W tk σ H hM hE Q kv kx => ?_⟩
  refine wE_of (pe_lst pa_w) ?_
  refine h.run W tk σ H hM hE _ (fun vs ds M1 H1 ⟨xs, e1, hl, h1⟩ s1 r1 => ?_) kx
  have ra := undv_all e1 r1
  refine ⟨by rw [ra.length]; exact Nat.le_trans hl (by decide), fun p hp => ?_⟩
  have s2 := Step.alloc (o := .lst vs) s1.hold hp
  exact kv _ _ M1 _ h1 (s1.trans s2) (.lst (Step.alloc_at s1.hold hp) (DqAll.mono s2.ext _ _ ra))
/-! ### calls -/
structure BltOk (X : Cx) (x : Str) : Prop where
  gl : Gl X x
  mg : X.mg x = none
theorem ev_blt {id : String} {r : List V → Hp → VK → Prop} {x : Str} {p : Pos} (hc : CallR X (.builtin id) r) (hg : BltOk X x) (hv : bootBuiltins x = some (.builtin id)) (h : Ea X ex (e :: es) ρ M fun ds M1 => RC ex.T X.K r ds M1 q)
    (hn : x ≠ "__name__" := by decide) (hdb : (x == ("__debug__" : Str)) = false := by decide) (he : ((e :: es).all fun e => !isStar e) = true) : Ev X ex (.Call (.Name x p) (e :: es) [] pos) ρ M q := by
  refine ⟨fun W tk σ H hM hE Q kv kx => ?_⟩
  refine wE_of (pe_callB hc hg.gl hg.mg hv pa_w hn hdb (star_ok (star_hd he)) (star_any (star_tl he))) ?_
  exact h.run W tk σ H hM hE _ (fun vs ds M1 H1 h1 s1 r1 => h1.run vs H1 Q s1.hold r1 (kv.step s1)) kx
theorem ev_ty {T : String} {r : List V → Hp → VK → Prop} {x : Str} {p : Pos} (hc : CallR X (.type T) r) (hg : BltOk X x) (hv : bootBuiltins x = some (.type T)) (h : Ea X ex (e :: es) ρ M fun ds M1 => RC ex.T X.K r ds M1 q)
    (hn : x ≠ "__name__" := by decide) (hdb : (x == ("__debug__" : Str)) = false := by decide) (he : ((e :: es).all fun e => !isStar e) = true) : Ev X ex (.Call (.Name x p) (e :: es) [] pos) ρ M q := by
  refine ⟨fun W tk σ H hM hE Q kv kx => ?_⟩
  refine wE_of (pe_callTy hc hg.gl hg.mg hv pa_w hn hdb (star_ok (star_hd he)) (star_any (star_tl he))) ?_
  exact h.run W tk σ H hM hE _ (fun vs ds M1 H1 h1 s1 r1 => h1.run vs H1 Q s1.hold r1 (kv.step s1)) kx
end
/-- what a def does, by data: from arguments and M, it returns or raises -/
abbrev RT := List DV → MM → (DV → MM → Prop) → XP → Prop
def spG (K : PySem.W.Frag) (R : RT) : Sp := fun vs H Q E => ∃ dvs M q ex, Hold ex.T M H ∧ RpAll K M H vs dvs ∧ R dvs M q ex ∧ Kv ex.T K M H q Q ∧ ∀ c M' H', ex.e c M' → Step ex.T M H M' H' → E (.ref c) none H'
structure Fd (P : Program) (w : World) (K : PySem.W.Frag) (mg : Str → Option Value) (base : Heap) (x : Str) (n : Nat) (R : RT) : Prop where
  ok : ∃ f fd ps, FnOk P w K mg base (L2.CX P w) n f fd ps (spG K R) ∧ mg x = some (.ref f) ∧ PySem.W.keepIn K (.ref f) = true ∧ Binds K fd ps []
section
variable {X : Cx} {ex : XP} {ρ : Env'} {M : MM} {q : DV → MM → Prop} {qt : Bool → MM → Prop} {qa : List DV → MM → Prop} {a b c e : Expr} {es rest : List Expr} {pos : Pos}
theorem ev_call {x : Str} {n : Nat} {R : RT} {p : Pos} (F : Fd X.prog X.w X.K X.mg X.base x n R) (hr : Room n X.A) (hg : Gl X x) (h : Ea X ex (e :: es) ρ M fun ds M1 => R ds M1 q ex)
    (hdb : (x == ("__debug__" : Str)) = false := by decide) (he : ((e :: es).all fun e => !isStar e) = true) : Ev X ex (.Call (.Name x p) (e :: es) [] pos) ρ M q := by
  refine ⟨fun W tk σ H hM hE Q kv kx => ?_⟩
  obtain ⟨f, fd, ps, F, hm, hk, hb⟩ := F.ok
  refine wE_of (pe_callS F hr hg hm hk hb (fun σ => passAt tk σ) pa_w hdb (star_ok (star_hd he)) (star_any (star_tl he))) ?_
  exact h.run W tk σ H hM hE _ (fun vs ds M1 H1 h1 s1 r1 => ⟨ds, M1, q, ex, s1.hold, r1, h1, kv.step s1, fun c M' H' hx s2 => kx.step s1 c M' H' σ hx s2⟩) kx
end

/-! ### statements -/
structure LocOk (X : Cx) (i : Nat) (x : Str) : Prop where
  ix : X.N[i]? = some x
  loc : Loc X.env.scope x
  fn : X.fn x = true ∨ X.env.scope.names.lookup x = some .local
section
variable {X : Cx} {ex : XP} {ρ : Env'} {M : MM} {q : DV → MM → Prop} {qt : Bool → MM → Prop} {qa : List DV → MM → Prop} {a b c e : Expr} {es rest : List Expr} {pos : Pos} {ss body els : List Stmt} {P : Post}
theorem run_nil (h : P.nx ρ M) : Run X ex [] ρ M P := ⟨fun W tk σ H hM hE D kr kx => wS_of pss_nil (kr.nx ρ M σ H h (Step.refl hM) hE)⟩
theorem run_pass (h : Run X ex ss ρ M P) : Run X ex (.Pass pos :: ss) ρ M P := ⟨fun W tk σ H hM hE D kr kx => wS_of (pss_cons ps_pass pss_w) (h.run W tk σ H hM hE D kr kx)⟩
theorem run_set {i : Nat} {x : Str} {p : Pos} (hN : X.N.Nodup) (hl : LocOk X i x) (h : Ev X ex e ρ M fun dv M1 => Run X ex ss (ρ.set i (some dv)) M1 P) (hs : isCompr e = false) : Run X ex (.Assign [.Name x p] e pos :: ss) ρ M P := by
  refine ⟨fun W tk σ H hM hE D kr kx => ?_⟩
  refine wS_of (pss_cons (ps_set hN hl.ix hl.loc pe_w (swaps_ok hs) hl.fn) pss_w) ?_
  exact h.run W tk σ H hM hE _ (fun v dv M1 H1 h1 s1 r1 => h1.run W tk _ H1 s1.hold ((hE.step s1).set r1) D (kr.step s1) (kx.step s1)) kx
theorem run_par {i j : Nat} {x y : Str} {px py pt : Pos} {kt k2 pt2} (hc : X.calm = true) (hN : X.N.Nodup) (hi : LocOk X i x) (hj : LocOk X j y) (hij : i ≠ j) (hx : X.env.scope.names.lookup x = some .local) (hy : X.env.scope.names.lookup y = some .local)
    (h : Ea X ex [a, b] ρ M fun ds M1 => ∃ d1 d2, ds = [d1, d2] ∧ Run X ex ss ((ρ.set i (some d1)).set j (some d2)) M1 P)
    (hw : swappedStores [.Tuple [.Name x px, .Name y py] kt pt] (.Tuple [a, b] k2 pt2) X.env = pure (some [x, y]) := by rfl)
    (hs : swapsWithSole [.Tuple [.Name x px, .Name y py] kt pt] (.Tuple [a, b] k2 pt2) pos.line X.env = pure false := by rfl) :
    Run X ex (.Assign [.Tuple [.Name x px, .Name y py] kt pt] (.Tuple [a, b] k2 pt2) pos :: ss) ρ M P := by
  refine ⟨fun W tk σ H hM hE D kr kx => ?_⟩
  refine wS_of (pss_cons (ps_par hc hN hi.ix hj.ix hij hx hy pa_w hw hs) pss_w) ?_
  refine h.run W tk σ H hM hE _ (fun vs ds M1 H1 ⟨d1, d2, e1, h1⟩ s1 r1 => ?_) kx
  subst e1
  cases r1 with
  | cons ra rt =>
    cases rt with
    | cons rb rn =>
      cases rn
      exact ⟨_, _, rfl, h1.run W tk _ H1 s1.hold (((hE.step s1).set ra).set rb) D (kr.step s1) (kx.step s1)⟩
theorem run_ret (h : Ev X ex e ρ M P.rt) : Run X ex (.Return (some e) pos :: ss) ρ M P := by
  refine ⟨fun W tk σ H hM hE D kr kx => ?_⟩
  refine wS_of (pss_cons (ps_ret pe_w) pss_w) ?_
  exact h.run W tk σ H hM hE _ (fun v dv M1 H1 h1 s1 r1 => kr.rt v dv M1 H1 h1 s1 r1) kx
theorem run_retN (h : P.rt (.d .none) M) : Run X ex (.Return none pos :: ss) ρ M P := by
  refine ⟨fun W tk σ H hM hE D kr kx => ?_⟩
  refine wS_of (pss_cons ps_retN pss_w) ?_
  exact kr.rt _ _ M H h (Step.refl hM) .non
theorem run_expr (h : Ev X ex e ρ M fun dv M1 => Run X ex ss ρ M1 P) (hs : isCompr e = false) : Run X ex (.Expr e pos :: ss) ρ M P := by
  refine ⟨fun W tk σ H hM hE D kr kx => ?_⟩
  refine wS_of (pss_cons (ps_expr pe_w (swaps_ok hs)) pss_w) ?_
  exact h.run W tk σ H hM hE _ (fun v dv M1 H1 h1 s1 r1 => h1.run W tk _ H1 s1.hold (hE.step s1) D (kr.step s1) (kx.step s1)) kx
theorem run_if (h : Et X ex c ρ M fun k M1 => if k = true then Run X ex body ρ M1 { P with nx := fun ρ' M' => Run X ex ss ρ' M' P } else Run X ex els ρ M1 { P with nx := fun ρ' M' => Run X ex ss ρ' M' P }) : Run X ex (.If c body els pos :: ss) ρ M P := by
  refine ⟨fun W tk σ H hM hE D kr kx => ?_⟩
  refine wS_of (pss_cons (ps_if pt_w pss_w pss_w) pss_w) ?_
  refine h.run W tk σ H hM hE _ (fun k M1 H1 h1 s1 => ?_) kx
  have kr' : Kr ex.T X.K M1 H1 { P with nx := fun ρ' M' => Run X ex ss ρ' M' P } { D with nx := wS X ss D } :=
    ⟨fun ρ' M' σ' H' r s2 e2 => r.run W tk σ' H' s2.hold e2 D (kr.step (s1.trans s2)) (kx.step (s1.trans s2)), (kr.step s1).rt, (kr.step s1).bk, (kr.step s1).ct⟩
  cases k with
  | true => exact iteT (by rw [if_pos rfl] at h1; exact h1.run W tk σ H1 s1.hold (hE.step s1) _ kr' (kx.step s1))
  | false => exact iteF (by rw [if_neg Bool.false_ne_true] at h1; exact h1.run W tk σ H1 s1.hold (hE.step s1) _ kr' (kx.step s1))
theorem run_break (h : P.bk ρ M) : Run X ex (.Break pos :: ss) ρ M P := ⟨fun W tk σ H hM hE D kr kx => wS_of (pss_cons ps_break pss_w) (kr.bk ρ M σ H h (Step.refl hM) hE)⟩
theorem run_cont (h : P.ct ρ M) : Run X ex (.Continue pos :: ss) ρ M P := ⟨fun W tk σ H hM hE D kr kx => wS_of (pss_cons ps_continue pss_w) (kr.ct ρ M σ H h (Step.refl hM) hE)⟩
theorem run_while (I : Nat → Env' → MM → Prop) (m0 : Nat) (hp : PassesOwn (model X.prog X.w) X.A X.env X.xe) (h0 : I m0 ρ M)
    (hs : ∀ m ρ' M', I m ρ' M' → Et X ex c ρ' M' fun k M1 => if k = true then Run X ex body ρ' M1 { nx := fun ρ2 M2 => ∃ m', m' < m ∧ I m' ρ2 M2, ct := fun ρ2 M2 => ∃ m', m' < m ∧ I m' ρ2 M2, rt := P.rt, bk := fun ρ2 M2 => Run X ex ss ρ2 M2 P } else Run X ex ss ρ' M1 P) :
    Run X ex (.While c body [] pos :: ss) ρ M P := by
  refine ⟨fun W tk σ H hM hE D kr kx => ?_⟩
  refine wS_of (pss_cons (ps_while hp pt_w pss_w) pss_w) ?_
  refine ⟨fun m σ' H' => ∃ ρ' M', I m ρ' M' ∧ Step ex.T M H M' H' ∧ EnvOk X.K M' H' σ' ρ', ⟨m0, ρ, M, h0, Step.refl hM, hE⟩, ?_⟩
  rintro m σ' H' ⟨ρ', M', hI, s0, hE'⟩
  refine (hs m ρ' M' hI).run W tk σ' H' s0.hold hE' _ (fun k M1 H1 h1 s1 => ?_) (kx.step s0)
  have s01 := s0.trans s1
  cases k with
  | true =>
    refine iteT ?_
    rw [if_pos rfl] at h1
    refine ⟨fun σ2 H2 => ∃ m', m' < m ∧ ∃ ρ2 M2, I m' ρ2 M2 ∧ Step ex.T M H M2 H2 ∧ EnvOk X.K M2 H2 σ2 ρ2, fun σ2 H2 ⟨m', hm, r⟩ => ⟨m', hm, r⟩, ?_⟩
    refine h1.run W tk σ' H1 s01.hold (hE'.step s1) _ ⟨?_, ?_, ?_, ?_⟩ (kx.step s01)
    · rintro ρ2 M2 σ2 H2 ⟨m', hm, i2⟩ s2 e2
      exact ⟨m', hm, ρ2, M2, i2, s01.trans s2, e2⟩
    · exact (kr.step s01).rt
    · intro ρ2 M2 σ2 H2 r s2 e2
      exact r.run W tk σ2 H2 s2.hold e2 D (kr.step (s01.trans s2)) (kx.step (s01.trans s2))
    · rintro ρ2 M2 σ2 H2 ⟨m', hm, i2⟩ s2 e2
      exact ⟨m', hm, ρ2, M2, i2, s01.trans s2, e2⟩
  | false =>
    refine iteF ?_
    rw [if_neg Bool.false_ne_true] at h1
    exact h1.run W tk σ' H1 s01.hold (hE'.step s1) D (kr.step s01) (kx.step s01)
/-- raise X('..') -/
structure ExcOk (X : Cx) (x : Str) (C : Addr) : Prop where
  gl : Gl X x
  mg : X.mg x = some (.ref C)
  kp : PySem.W.keepIn X.K (.ref C) = true
  xc : PySem.W.excIn X.K C [.type "ValueError", .type "Exception", .type "BaseException", .type "object"] "ValueError.__new__" = true
  h1 : PySem.W.subIn X.K (.ref C) (.type "BaseException") = some true
  h2 : PySem.W.typeIn X.K (.ref C) = some (.type "type")
  db : (x == ("__debug__" : Str)) = false
theorem run_raise {x m : Str} {j : Nat} {p p2 pos' : Pos} {C : Addr} (hc : X.calm = true) (E : ExcOk X x C) (h : ex.e C M) : Run X ex (.Raise (some (.Call (.Name x p) [.Constant (.str m) j p2] [] pos')) none pos :: ss) ρ M P := by
  refine ⟨fun W tk σ H hM hE D kr kx => ?_⟩
  refine wS_of (pss_cons (ps_raise hc tk (pmk_own PySem.F.excBase_ValueError E.xc E.mg E.kp (raises_own E.h1 E.h2) E.gl E.db)) pss_w) ?_
  exact kx C M H σ h (Step.refl hM)
end

/-! ### a def by its body -/
structure Cok (X : Cx) (P : Program) (w : World) (K : PySem.W.Frag) (mg : Str → Option Value) (base : Heap) (n : Nat) (N : List Str) (sc : Scope) : Prop where
  prog : X.prog = P
  w : X.w = w
  K : X.K = K
  mg : X.mg = mg
  base : X.base = base
  N : X.N = N
  sc : X.env.scope = sc
  calm : X.calm = true
  room : Room n X.A
  nod : X.N.Nodup
  fn : ∀ x, X.fn x = true
  pass : PassesOwn (model X.prog X.w) X.A X.env X.xe
  stk : X.stack = X.env :: X.outer
  frm : X.env.frame = some X.env.locals
  exn : X.ex = []
def envStart (N : List Str) (dvs : List DV) : Env' := dvs.map some ++ List.replicate (N.length - dvs.length) none
theorem envOk_start {K : PySem.W.Frag} {M H : Hp} (N : List Str) {vs : List V} {dvs : List DV} (r : RpAll K M H vs dvs) : EnvOk K M H (L2.start N vs) (envStart N dvs) := by
  have hl := r.len
  refine ⟨?_, fun i dv e => ?_⟩
  · unfold envStart L2.start
    rw [List.length_append, List.length_append, List.length_map, List.length_map, List.length_replicate, List.length_replicate, hl]
  · unfold envStart at e
    by_cases hi : i < dvs.length
    · rw [List.getElem?_append_left (by rw [List.length_map]; exact hi), List.getElem?_map] at e
      cases z : dvs[i]? with
      | none => rw [z] at e; cases e
      | some d =>
        rw [z] at e
        cases e
        have key : ∀ {vs : List V} {dvs : List DV} {i : Nat} {d : DV}, RpAll K M H vs dvs → dvs[i]? = some d → ∃ v, vs[i]? = some v ∧ Rp K M H v d := by
          intro vs dvs i d r
          induction r generalizing i with
          | nil => intro h; simp at h
          | cons a t ih =>
            intro h
            cases i with
            | zero => simp at h; subst h; exact ⟨_, rfl, a⟩
            | succ j => exact ih (by simpa using h)
        obtain ⟨v, h1, h2⟩ := key r z
        refine ⟨v, ?_, h2⟩
        unfold L2.start
        rw [List.getElem?_append_left (by rw [List.length_map, hl]; exact hi), List.getElem?_map, h1]
        rfl
    · rw [List.getElem?_append_right (by rw [List.length_map]; omega)] at e
      rw [List.getElem?_replicate] at e
      split at e <;> cases e
theorem fn_mk {P : Program} {w : World} {K : PySem.W.Frag} {mg : Str → Option Value} {base : Heap} {x qual : Str} {st : Stmt} {f : Addr} {fd : FuncData} {N ps : List Str} {n : Nat} {R : RT} (F : Fun K x qual st f fd) (S : FnScope N ps (defScope st))
    (hl : ∀ dvs M q ex, R dvs M q ex → dvs.length = ps.length)
    (body : ∀ X, Cok X P w K mg base n N (defScope st) → ∀ dvs M q ex, R dvs M q ex → Run X ex (defBody st) (envStart N dvs) M { nx := fun _ M' => q (.d .none) M', rt := q }) :
    FnOk P w K mg base (L2.CX P w) (n + 1) f fd ps (spG K R) := by
  refine F.okX S (fun vs H Q E h => ?_) (fun cdv A outer s H vs Q E hr h => ⟨_, pss_w, ?_⟩)
  · obtain ⟨dvs, M, q, ex, _, r, hR, _⟩ := h
    rw [r.len]
    exact hl dvs M q ex hR
  · obtain ⟨dvs, M, q, ex, hM, r, hR, kv, kx⟩ := h
    have tk : Takes (cxOf (L2.CX P w) P w K mg base N qual (defScope st) f cdv A outer s H E) (fun cls d σ H => E cls d H) := takes_of rfl rfl rfl rfl
    have C : Cok (cxOf (L2.CX P w) P w K mg base N qual (defScope st) f cdv A outer s H E) P w K mg base n N (defScope st) :=
      ⟨rfl, rfl, rfl, rfl, rfl, rfl, rfl, rfl, hr, S.nd, fun _ => rfl, passes_of rfl, rfl, rfl, rfl⟩
    refine (body _ C dvs M q ex hR).run _ tk (L2.start N vs) H hM (envOk_start N r) _ ⟨?_, ?_, ?_, ?_⟩ (fun c M' H' σ' hx s' => kx c M' H' hx s')
    · intro ρ' M' σ' H' h s' e'
      exact kv _ _ M' H' h s' .non
    · intro v dv M' H' h s' r'
      exact kv v dv M' H' h s' r'
    · intro ρ' M' σ' H' h
      exact h.elim
    · intro ρ' M' σ' H' h
      exact h.elim
/-! where names stand -/
section
variable {X : Cx} {P : Program} {w : World} {K : PySem.W.Frag} {mg : Str → Option Value} {base : Heap} {n : Nat} {N : List Str} {sc : Scope}
theorem Cok.var (C : Cok X P w K mg base n N sc) (i : Nat) {x : Str} (hN : N[i]? = some x := by rfl) (hv : Vis sc x := by first | exact Or.inl rfl | exact Or.inr (Or.inl rfl) | exact Or.inr (Or.inr rfl)) (hd : (x == ("__debug__" : Str)) = false := by decide)
    (hcd : (x == ("__classdict__" : Str)) = false := by decide) : VarOk X i x := ⟨by rw [C.N]; exact hN, by rw [C.sc]; exact hv, hd, hcd⟩
theorem Cok.loc (C : Cok X P w K mg base n N sc) (i : Nat) {x : Str} (hN : N[i]? = some x := by rfl) (hv : Loc sc x := by first | exact Or.inl rfl | exact Or.inr rfl) : LocOk X i x := ⟨by rw [C.N]; exact hN, by rw [C.sc]; exact hv, .inl (C.fn x)⟩
theorem Cok.gl (C : Cok X P w K mg base n N sc) {x : Str} (h : sc.names.lookup x = some .globalImplicit := by rfl) : Gl X x := by
  show X.env.scope.names.lookup x = _
  rw [C.sc]
  exact h
theorem Cok.lookup (C : Cok X P w K mg base n N sc) {x : Str} {k : NameKind} (h : sc.names.lookup x = some k := by rfl) : X.env.scope.names.lookup x = some k := by
  rw [C.sc]
  exact h
end
end G
namespace G
open PySem PySem.Spec PyProof.Rows L2
section
variable {T : List (Addr × Str)} {K : PySem.W.Frag} {M H : Hp} {q : DV → MM → Prop}
theorem Rp.dq {v : V} {x : PyData} (r : Rp K M H v (.d x)) : Dq K H v x := Dq.mono off_same x v r
theorem Rp.dp {v : V} {x : PyData} (r : Rp K M H v (.d x)) : Dp K H v x := (Dq.dp x v r.dq)
/-! ### operators on ints -/
theorem rr_int0 {g : Int → Int → Int} {i j : Int} (k : q (.d (.int (g i j))) M) : RR T K (rI0 fun i j => .int (g i j)) (.d (.int i)) (.d (.int j)) M q := ⟨fun x y H Q hM r1 r2 kv => by
  cases r1
  cases r2
  exact ⟨i, j, rfl, rfl, kv _ _ M H k (Step.refl hM) (.int _)⟩⟩
theorem rr_int {C : Int → Int → Prop} {g : Int → Int → Int} {i j : Int} (hc : C i j) (k : q (.d (.int (g i j))) M) : RR T K (rI C fun i j => .int (g i j)) (.d (.int i)) (.d (.int j)) M q := ⟨fun x y H Q hM r1 r2 kv => by
  cases r1
  cases r2
  exact ⟨i, j, rfl, rfl, hc, kv _ _ M H k (Step.refl hM) (.int _)⟩⟩
theorem rr_cmp {p : Int → Int → Bool} {i j : Int} (k : q (.d (.bool (p i j))) M) : RR T K (rI0 fun i j => .bl (p i j)) (.d (.int i)) (.d (.int j)) M q := ⟨fun x y H Q hM r1 r2 kv => by
  cases r1
  cases r2
  exact ⟨i, j, rfl, rfl, kv _ _ M H k (Step.refl hM) (.bl _)⟩⟩
theorem ru_int {g : Int → Int} {i : Int} (k : q (.d (.int (g i))) M) : RU T K (rU fun i => .int (g i)) (.d (.int i)) M q := ⟨fun x H Q hM r1 kv => by
  cases r1
  exact ⟨i, rfl, kv _ _ M H k (Step.refl hM) (.int _)⟩⟩
/-! == and != of data; is None -/
theorem rr_eq {x y : PyData} (h1 : SeqAt.shaped x = true) (h2 : SeqAt.shaped y = true) (k : q (.d (.bool (PyData.eqv x y))) M) : RR T K (rEqD K) (.d x) (.d y) M q := ⟨fun v u H Q hM r1 r2 kv =>
  ⟨x, y, r1.dp, r2.dp, h1, h2, kv _ _ M H k (Step.refl hM) (.bl _)⟩⟩
theorem rr_ne {x y : PyData} (h1 : SeqAt.shaped x = true) (h2 : SeqAt.shaped y = true) (k : q (.d (.bool (!PyData.eqv x y))) M) : RR T K (rNeD K) (.d x) (.d y) M q := ⟨fun v u H Q hM r1 r2 kv =>
  ⟨x, y, r1.dp, r2.dp, h1, h2, kv _ _ M H k (Step.refl hM) (.bl _)⟩⟩
def isNone : PyData → Bool
  | .none => true
  | _ => false
theorem isNone_ok {v : V} {x : PyData} (r : Dq K H v x) : decide (v = .non) = isNone x := by
  cases r <;> first | rfl | exact decide_eq_false (fun z => by cases z)
def rIsN' : R2 := fun x y H Q => y = .non ∧ Q (.bl (decide (x = .non))) H
def rNotN' : R2 := fun x y H Q => y = .non ∧ Q (.bl (!decide (x = .non))) H
theorem op_isN' {X : Cx} : OpR X (compareOp .Is) rIsN' := op_isN
theorem op_notN' {X : Cx} : OpR X (compareOp .IsNot) rNotN' := op_notN
theorem rr_isN {x : PyData} (k : q (.d (.bool (isNone x))) M) : RR T K rIsN' (.d x) (.d .none) M q := ⟨fun v u H Q hM r1 r2 kv => by
  cases r2
  refine ⟨rfl, ?_⟩
  rw [isNone_ok r1.dq]
  exact kv _ _ M H k (Step.refl hM) (.bl _)⟩
theorem rr_notN {x : PyData} (k : q (.d (.bool (!isNone x))) M) : RR T K rNotN' (.d x) (.d .none) M q := ⟨fun v u H Q hM r1 r2 kv => by
  cases r2
  refine ⟨rfl, ?_⟩
  rw [isNone_ok r1.dq]
  exact kv _ _ M H k (Step.refl hM) (.bl _)⟩
/-! sequences: items, + -/
theorem DqAll.atI {F : Hp} {vs : List V} {ds : List PyData} {i : Int} {d : PyData} (r : DqAll K F vs ds) (h : L2.atI ds i = some d) : ∃ v, L2.atI vs i = some v ∧ Dq K F v d := by
  unfold L2.atI at h ⊢
  rw [r.length]
  cases e : ixN ds.length i with
  | none => rw [e] at h; cases h
  | some j =>
    rw [e] at h
    exact r.get h
theorem rr_ixT {ds : List PyData} {i : Int} {d : PyData} (h : L2.atI ds i = some d) (k : q (.d d) M) : RR T K (rIxT K) (.d (.tuple ds)) (.d (.int i)) M q := ⟨fun v u H Q hM r1 r2 kv => by
  cases r2
  cases r1 with
  | tup h1 h2 =>
    obtain ⟨w, e, r⟩ := h2.atI h
    exact ⟨_, _, i, w, rfl, rfl, same_t off_same h1, e, kv _ _ M H k (Step.refl hM) r⟩⟩
theorem rr_ixL {ds : List PyData} {i : Int} {d : PyData} (h : L2.atI ds i = some d) (k : q (.d d) M) : RR T K (rIxL K) (.d (.list ds)) (.d (.int i)) M q := ⟨fun v u H Q hM r1 r2 kv => by
  cases r2
  cases r1 with
  | lst h1 h2 =>
    obtain ⟨w, e, r⟩ := h2.atI h
    exact ⟨_, _, i, w, rfl, rfl, SqL.of (of_off h1).1, e, kv _ _ M H k (Step.refl hM) r⟩⟩
theorem rr_ixS {z : Str} {i : Int} {c : Nat} (hz : z.length ≤ 100000) (h : L2.atI z.cps.toList i = some c) (k : q (.d (.str ⟨#[c]⟩)) M) : RR T K rIxS (.d (.str z)) (.d (.int i)) M q := ⟨fun v u H Q hM r1 r2 kv => by
  cases r1
  cases r2
  exact ⟨z, i, c, rfl, rfl, Nat.le_trans hz (by decide), h, kv _ _ M H k (Step.refl hM) (.str _)⟩⟩
theorem rr_catT {xs ys : List PyData} (hl : xs.length + ys.length ≤ 100000) (k : q (.d (.tuple (xs ++ ys))) M) : RR T K (rCatA K) (.d (.tuple xs)) (.d (.tuple ys)) M q := ⟨fun v u H Q hM r1 r2 kv => by
  cases r1 with
  | tup h1 h2 =>
    cases r2 with
    | tup g1 g2 =>
      refine ⟨_, _, _, _, rfl, rfl, same_t off_same h1, same_t off_same g1, by rw [h2.length, g2.length]; exact Nat.le_trans hl (by decide), fun e => ?_, fun _ e => ?_, fun _ _ p hp => ?_⟩
      · subst e
        cases h2
        exact kv _ _ M H k (Step.refl hM) (.tup g1 g2)
      · subst e
        cases g2
        rw [List.append_nil] at k
        exact kv _ _ M H k (Step.refl hM) (.tup h1 h2)
      · exact kv _ _ M _ k (Step.alloc hM hp) (.tup (SqT.of (Step.alloc_at hM hp)) (DqAll.mono (Step.alloc hM hp).ext _ _ (h2.append g2)))⟩
theorem rr_catL {xs ys : List PyData} (hl : xs.length + ys.length ≤ 100000) (k : q (.d (.list (xs ++ ys))) M) : RR T K rCat (.d (.list xs)) (.d (.list ys)) M q := ⟨fun v u H Q hM r1 r2 kv => by
  cases r1 with
  | lst h1 h2 =>
    cases r2 with
    | lst g1 g2 =>
      refine ⟨_, _, _, _, rfl, rfl, (of_off h1).1, (of_off g1).1, by rw [h2.length, g2.length]; exact Nat.le_trans hl (by decide), fun p hp => ?_⟩
      exact kv _ _ M _ k (Step.alloc hM hp) (.lst (Step.alloc_at hM hp) (DqAll.mono (Step.alloc hM hp).ext _ _ (h2.append g2)))⟩
/-! ### built-ins -/
def tyN : PyData → String
  | .none => "NoneType"
  | .bool _ => "bool"
  | .int _ => "int"
  | .str _ => "str"
  | .list _ => "list"
  | .tuple _ => "tuple"
  | .dict _ => "dict"
theorem ty_ok {v : V} {x : PyData} (r : Dq K H v x) : TyX K H v (.type (tyN x)) := by
  cases r with
  | non => exact .base .non
  | bl b => exact .base (.bl b)
  | int i => exact .base (.int i)
  | str s => exact .base (.str s)
  | lst h _ => exact .base (.lst h)
  | tup h _ =>
    rcases h with (h | ⟨o, h⟩) | ⟨o, its, n, h1, h2, _⟩
    · exact .base (.tup h)
    · exact .fTuple h
    · exact .kTuple h1 h2
def isaS (n t : String) : Bool := n == t || (t == "int" && n == "bool")
def isa (x : PyData) (t : String) : Bool := isaS (tyN x) t
theorem isaS_ok : ∀ n ∈ ["NoneType", "bool", "int", "str", "list", "tuple", "dict"], ∀ t ∈ ["int", "bool", "str", "tuple", "list"], kitB n t = some (isaS n t) := by decide +kernel
theorem isa_ok : ∀ (x : PyData) (t : String), t = "int" ∨ t = "bool" ∨ t = "str" ∨ t = "tuple" ∨ t = "list" → kitB (tyN x) t = some (isa x t) := by
  intro x t h
  refine isaS_ok _ ?_ _ ?_
  · cases x <;> simp [tyN]
  · simpa using h
theorem rc_isi {x : PyData} {t : String} (h : t = "int" ∨ t = "bool" ∨ t = "str" ∨ t = "tuple" ∨ t = "list") (k : q (.d (.bool (isa x t))) M) : RC T K (rIsi K) [.d x, .v (.ty t)] M q := ⟨fun vs H Q hM r kv => by
  cases r with
  | cons ra rt =>
    cases rt with
    | cons rb rn =>
      cases rn
      cases rb
      exact ⟨_, _, _, _, _, rfl, .ty t, ty_ok ra.dq, kit_ty (isa_ok x t h), kv _ _ M H k (Step.refl hM) (.bl _)⟩⟩
def rLen' (K : PySem.W.Frag) : List V → Hp → VK → Prop := fun xs H Q => ∃ x n, xs = [x] ∧ LenV K x H n ∧ Q (.int n) H
theorem call_len' {X : Cx} : CallR X (.builtin "len") (rLen' X.K) := call_len
def lenD : PyData → Option Nat
  | .str s => if s.length ≤ 100000 then some s.length else none
  | .list xs => some xs.length
  | .tuple xs => some xs.length
  | _ => none
theorem rc_len {x : PyData} {n : Nat} (h : lenD x = some n) (k : q (.d (.int n)) M) : RC T K (rLen' K) [.d x] M q := ⟨fun vs H Q hM r kv => by
  cases r with
  | cons ra rn =>
    cases rn
    refine ⟨_, n, rfl, ?_, kv _ _ M H k (Step.refl hM) (.int _)⟩
    have ra := ra.dq
    cases ra with
    | str s =>
      have h : (if s.length ≤ 100000 then some s.length else none) = some n := h
      by_cases hs : s.length ≤ 100000
      · rw [if_pos hs] at h
        cases h
        exact ⟨Nat.le_trans hs (by decide), rfl⟩
      · rw [if_neg hs] at h
        cases h
    | lst h1 h2 =>
      cases h
      exact .inl ⟨_, SqL.of h1, h2.length.symm⟩
    | tup h1 h2 =>
      cases h
      exact .inr ⟨_, h1, h2.length.symm⟩
    | _ => cases h⟩
theorem rc_lenR {ds : List PyData} (k : q (.d (.int ds.length)) M) : RC T K (rLen' K) [.r ds] M q := ⟨fun vs H Q hM r kv => by
  cases r with
  | cons ra rn =>
    cases rn
    obtain ⟨a, xs, rfl, h1, h2⟩ := ra
    exact ⟨_, ds.length, rfl, .inl ⟨_, off_same.seq h1, h2.length.symm⟩, kv _ _ M H k (Step.refl hM) (.int _)⟩⟩
theorem rc_all {bs : List Bool} (k : q (.d (.bool (bs.all id))) M) : RC T K (rAll K) [.d (.list (bs.map PyData.bool))] M q := ⟨fun vs H Q hM r kv => by
  cases r with
  | cons ra rn =>
    cases rn
    cases ra with
    | lst h1 h2 =>
      have e := h2.bools
      subst e
      exact ⟨_, bs, rfl, SqL.of (of_off h1).1, kv _ _ M H k (Step.refl hM) (.bl _)⟩⟩
theorem rc_any {bs : List Bool} (k : q (.d (.bool (bs.any id))) M) : RC T K (rAny K) [.d (.list (bs.map PyData.bool))] M q := ⟨fun vs H Q hM r kv => by
  cases r with
  | cons ra rn =>
    cases rn
    cases ra with
    | lst h1 h2 =>
      have e := h2.bools
      subst e
      exact ⟨_, bs, rfl, SqL.of (of_off h1).1, kv _ _ M H k (Step.refl hM) (.bl _)⟩⟩
def rAbs' : List V → Hp → VK → Prop := fun xs H Q => ∃ i, xs = [.int i] ∧ Q (.int (if i < 0 then -i else i)) H
theorem call_abs' {X : Cx} : CallR X (.builtin "abs") rAbs' := call_abs
theorem rc_abs {i : Int} (k : q (.d (.int (if i < 0 then -i else i))) M) : RC T K rAbs' [.d (.int i)] M q := ⟨fun vs H Q hM r kv => by
  cases r with
  | cons ra rn =>
    cases rn
    cases ra
    exact ⟨i, rfl, kv _ _ M H k (Step.refl hM) (.int _)⟩⟩
def rInt1 : List V → Hp → VK → Prop := fun xs H Q => (∃ i, xs = [.int i] ∧ Q (.int i) H) ∨ ∃ k, xs = [.bl k] ∧ Q (.int (if k then 1 else 0)) H
theorem call_int1' {X : Cx} : CallR X (.type "int") rInt1 := call_int1
theorem rc_int {i : Int} (k : q (.d (.int i)) M) : RC T K rInt1 [.d (.int i)] M q := ⟨fun vs H Q hM r kv => by
  cases r with
  | cons ra rn =>
    cases rn
    cases ra
    exact .inl ⟨i, rfl, kv _ _ M H k (Step.refl hM) (.int _)⟩⟩
theorem rc_intb {b : Bool} (k : q (.d (.int (if b then 1 else 0))) M) : RC T K rInt1 [.d (.bool b)] M q := ⟨fun vs H Q hM r kv => by
  cases r with
  | cons ra rn =>
    cases rn
    cases ra
    exact .inr ⟨b, rfl, kv _ _ M H k (Step.refl hM) (.int _)⟩⟩
def rStr1 : List V → Hp → VK → Prop := fun xs H Q => ∃ i, xs = [.int i] ∧ i.natAbs.log2 < 1920 ∧ Q (.str (toString i)) H
theorem call_str1 {X : Cx} : CallR X (.type "str") rStr1 := call_str_int
theorem rc_str {i : Int} (hi : i.natAbs.log2 < 1920) (k : q (.d (.str (toString i))) M) : RC T K rStr1 [.d (.int i)] M q := ⟨fun vs H Q hM r kv => by
  cases r with
  | cons ra rn =>
    cases rn
    cases ra
    exact ⟨i, rfl, hi, kv _ _ M H k (Step.refl hM) (.str _)⟩⟩
def rList1 (K : PySem.W.Frag) : List V → Hp → VK → Prop := fun xs H Q => ∃ p ys, xs = [.ref p] ∧ (SqL K H p ys ∨ SqT K H p ys) ∧ ∀ l, H l = none → Q (.ref l) (upd H l (.lst ys))
theorem call_list1 {X : Cx} : CallR X (.type "list") (rList1 X.K) := call_list_of
def seqD : PyData → Option (List PyData)
  | .list xs => some xs
  | .tuple xs => some xs
  | _ => none
theorem rc_list {x : PyData} {ds : List PyData} (h : seqD x = some ds) (k : q (.d (.list ds)) M) : RC T K (rList1 K) [.d x] M q := ⟨fun vs H Q hM r kv => by
  cases r with
  | cons ra rn =>
    cases rn
    cases ra with
    | lst h1 h2 =>
      cases h
      refine ⟨_, _, rfl, .inl (SqL.of (of_off h1).1), fun l hl => ?_⟩
      exact kv _ _ M _ k (Step.alloc hM hl) (.lst (Step.alloc_at hM hl) (DqAll.mono (Step.alloc hM hl).ext _ _ h2))
    | tup h1 h2 =>
      cases h
      refine ⟨_, _, rfl, .inr (same_t off_same h1), fun l hl => ?_⟩
      exact kv _ _ M _ k (Step.alloc hM hl) (.lst (Step.alloc_at hM hl) (DqAll.mono (Step.alloc hM hl).ext _ _ h2))
    | _ => cases h⟩
def rTup1 (K : PySem.W.Frag) : List V → Hp → VK → Prop := fun xs H Q => ∃ p ys, xs = [.ref p] ∧ ((SqL K H p ys ∧ ∀ l, H l = none → Q (.ref l) (upd H l (.tup ys))) ∨ (SqT K H p ys ∧ Q (.ref p) H))
theorem call_tup1 {X : Cx} : CallR X (.type "tuple") (rTup1 X.K) := call_tuple_of
theorem rc_tup {x : PyData} {ds : List PyData} (h : seqD x = some ds) (k : q (.d (.tuple ds)) M) : RC T K (rTup1 K) [.d x] M q := ⟨fun vs H Q hM r kv => by
  cases r with
  | cons ra rn =>
    cases rn
    cases ra with
    | lst h1 h2 =>
      cases h
      refine ⟨_, _, rfl, .inl ⟨SqL.of (of_off h1).1, fun l hl => ?_⟩⟩
      exact kv _ _ M _ k (Step.alloc hM hl) (.tup (SqT.of (Step.alloc_at hM hl)) (DqAll.mono (Step.alloc hM hl).ext _ _ h2))
    | tup h1 h2 =>
      cases h
      exact ⟨_, _, rfl, .inr ⟨same_t off_same h1, kv _ _ M H k (Step.refl hM) (.tup h1 h2)⟩⟩
    | _ => cases h⟩
def rMax2 : List V → Hp → VK → Prop := fun xs H Q => ∃ i j, xs = [.int i, .int j] ∧ Q (.int (if j > i then j else i)) H
def rMin2 : List V → Hp → VK → Prop := fun xs H Q => ∃ i j, xs = [.int i, .int j] ∧ Q (.int (if j < i then j else i)) H
theorem call_max2' {X : Cx} (hc : X.calm = true) : CallR X (.builtin "max") rMax2 := call_max2 hc
theorem call_min2' {X : Cx} (hc : X.calm = true) : CallR X (.builtin "min") rMin2 := call_min2 hc
theorem rc_max2 {i j : Int} (k : q (.d (.int (if j > i then j else i))) M) : RC T K rMax2 [.d (.int i), .d (.int j)] M q := ⟨fun vs H Q hM r kv => by
  cases r with
  | cons ra rt =>
    cases rt with
    | cons rb rn =>
      cases rn
      cases ra
      cases rb
      exact ⟨i, j, rfl, kv _ _ M H k (Step.refl hM) (.int _)⟩⟩
theorem rc_min2 {i j : Int} (k : q (.d (.int (if j < i then j else i))) M) : RC T K rMin2 [.d (.int i), .d (.int j)] M q := ⟨fun vs H Q hM r kv => by
  cases r with
  | cons ra rt =>
    cases rt with
    | cons rb rn =>
      cases rn
      cases ra
      cases rb
      exact ⟨i, j, rfl, kv _ _ M H k (Step.refl hM) (.int _)⟩⟩
end
/-! max, min of a tuple of ints -/
def maxI : List Int → Int
  | [] => 0
  | [x] => x
  | x :: y :: r => maxI ((if y > x then y else x) :: r)
termination_by l => l.length
def minI : List Int → Int
  | [] => 0
  | [x] => x
  | x :: y :: r => minI ((if y < x then y else x) :: r)
termination_by l => l.length
theorem ev_ix {X : Cx} {ex : XP} {ρ : Env'} {M : MM} {q : DV → MM → Prop} {a b : Expr} {pos : Pos} {r : R2} (hr : IxR X r) (hs : PlainIx b) (h : Ev X ex a ρ M fun da M1 => Ev X ex b ρ M1 fun db M2 => RR ex.T X.K r da db M2 q) : Ev X ex (.Subscript a b pos) ρ M q := by
  refine ⟨fun W tk σ H hM hE Q kv kx => ?_⟩
  refine wE_of (pe_ix hr pe_w pe_w hs) ?_
  refine h.run W tk σ H hM hE _ (fun x da M1 H1 h1 s1 r1 => ?_) kx
  refine h1.run W tk σ H1 s1.hold (hE.step s1) _ (fun y db M2 H2 h2 s2 r2 => ?_) (kx.step s1)
  exact h2.run x y H2 Q s2.hold (r1.step s2) r2 (kv.step (s1.trans s2))
/-- the name of a built-in class -/
theorem ev_tyN {X : Cx} {ex : XP} {ρ : Env'} {M : MM} {q : DV → MM → Prop} {x : Str} {t : String} {pos : Pos} (hg : BltOk X x) (hv : bootBuiltins x = some (.type t)) (k : q (.v (.ty t)) M) (hn : x ≠ "__name__" := by decide) (hd : (x == ("__debug__" : Str)) = false := by decide) : Ev X ex (.Name x pos) ρ M q :=
  ev_c (dv := .v (.ty t)) (pe_bltn (v := .ty t) hg.gl hg.mg hv rfl hn hd) (fun _ _ => rfl) k
end G
namespace G
open PySem PySem.Spec PyProof.Rows L2
/-! ### rules chosen by what stands in the text -/
theorem env_of {α : Type} {f : Env → α} {v : α} {env : Env} {sc : Scope} (he : env.scope = sc) (h : ∀ e : Env, f { e with scope := sc } = v) : f env = v := by
  have z := h env
  rw [← he] at z
  exact z
theorem bb_abs : bootBuiltins "abs" = some (.builtin "abs") := by decide +kernel
theorem bb_len : bootBuiltins "len" = some (.builtin "len") := by decide +kernel
theorem bb_all : bootBuiltins "all" = some (.builtin "all") := by decide +kernel
theorem bb_any : bootBuiltins "any" = some (.builtin "any") := by decide +kernel
theorem bb_max : bootBuiltins "max" = some (.builtin "max") := by decide +kernel
theorem bb_min : bootBuiltins "min" = some (.builtin "min") := by decide +kernel
theorem bb_isi : bootBuiltins "isinstance" = some (.builtin "isinstance") := by decide +kernel
theorem bb_int : bootBuiltins "int" = some (.type "int") := by decide +kernel
theorem bb_bool : bootBuiltins "bool" = some (.type "bool") := by decide +kernel
theorem bb_str : bootBuiltins "str" = some (.type "str") := by decide +kernel
theorem bb_tuple : bootBuiltins "tuple" = some (.type "tuple") := by decide +kernel
theorem bb_list : bootBuiltins "list" = some (.type "list") := by decide +kernel
/-! isinstance, by the class -/
def isI : PyData → Bool
  | .int _ => true
  | .bool _ => true
  | _ => false
def isB : PyData → Bool
  | .bool _ => true
  | _ => false
def isS : PyData → Bool
  | .str _ => true
  | _ => false
def isT : PyData → Bool
  | .tuple _ => true
  | _ => false
def isL : PyData → Bool
  | .list _ => true
  | _ => false
theorem isI_eq (x : PyData) : isa x "int" = isI x := by cases x <;> (first | rfl | decide)
theorem isB_eq (x : PyData) : isa x "bool" = isB x := by cases x <;> (first | rfl | decide)
theorem isS_eq (x : PyData) : isa x "str" = isS x := by cases x <;> (first | rfl | decide)
theorem isT_eq (x : PyData) : isa x "tuple" = isT x := by cases x <;> (first | rfl | decide)
theorem isL_eq (x : PyData) : isa x "list" = isL x := by cases x <;> (first | rfl | decide)
section
variable {T : List (Addr × Str)} {K : PySem.W.Frag} {M : MM} {q : DV → MM → Prop} {x : PyData}
theorem rc_isI (k : q (.d (.bool (isI x))) M) : RC T K (rIsi K) [.d x, .v (.ty "int")] M q := rc_isi (.inl rfl) (by rw [isI_eq]; exact k)
theorem rc_isB (k : q (.d (.bool (isB x))) M) : RC T K (rIsi K) [.d x, .v (.ty "bool")] M q := rc_isi (.inr (.inl rfl)) (by rw [isB_eq]; exact k)
theorem rc_isS (k : q (.d (.bool (isS x))) M) : RC T K (rIsi K) [.d x, .v (.ty "str")] M q := rc_isi (.inr (.inr (.inl rfl))) (by rw [isS_eq]; exact k)
theorem rc_isT (k : q (.d (.bool (isT x))) M) : RC T K (rIsi K) [.d x, .v (.ty "tuple")] M q := rc_isi (.inr (.inr (.inr (.inl rfl)))) (by rw [isT_eq]; exact k)
theorem rc_isL (k : q (.d (.bool (isL x))) M) : RC T K (rIsi K) [.d x, .v (.ty "list")] M q := rc_isi (.inr (.inr (.inr (.inr rfl)))) (by rw [isL_eq]; exact k)
end
section
variable {X : Cx} {ex : XP} {ρ : Env'} {M : MM} {q : DV → MM → Prop} {qt : Bool → MM → Prop} {a b c e : Expr} {es : List Expr} {p pos : Pos}
def rEqU (K : PySem.W.Frag) : R2 := fun x y H Q => rEqD K x y H Q ∨ rEq x y H Q
def rNeU (K : PySem.W.Frag) : R2 := fun x y H Q => rNeD K x y H Q ∨ rNe x y H Q
theorem op_eqU (hu : X.A.units + 64 < cLine) : OpR X (compareOp .Eq) (rEqU X.K) := (op_eqD hu).or op_eq
theorem op_neU (hu : X.A.units + 64 < cLine) : OpR X (compareOp .NotEq) (rNeU X.K) := (op_neD hu).or op_ne
/-! + of ints, tuples, lists, texts -/
def rAddS' : R2 := fun x y H Q => ∃ i j, x = .str i ∧ y = .str j ∧ i.length + j.length ≤ sizeLine ∧ Q (.str (i ++ j)) H
theorem op_addS' : OpR X (binaryOp .Add) rAddS' := op_add_str
def rAddU (K : PySem.W.Frag) : R2 := fun x y H Q => rI0 (fun i j => .int (i + j)) x y H Q ∨ (rCatA K x y H Q ∨ (rCat x y H Q ∨ rAddS' x y H Q))
theorem op_addU : OpR X (binaryOp .Add) (rAddU X.K) := op_add.or (op_catA.or (op_cat.or op_addS'))
theorem rr_addI {T : List (Addr × Str)} {K : PySem.W.Frag} {i j : Int} (k : q (.d (.int (i + j))) M) : RR T K (rAddU K) (.d (.int i)) (.d (.int j)) M q := ⟨fun x y H Q hM r1 r2 kv => .inl ((rr_int0 (g := fun i j => i + j) k).run x y H Q hM r1 r2 kv)⟩
theorem rr_addT {T : List (Addr × Str)} {K : PySem.W.Frag} {xs ys : List PyData} (hl : xs.length + ys.length ≤ 100000) (k : q (.d (.tuple (xs ++ ys))) M) : RR T K (rAddU K) (.d (.tuple xs)) (.d (.tuple ys)) M q := ⟨fun x y H Q hM r1 r2 kv => .inr (.inl ((rr_catT hl k).run x y H Q hM r1 r2 kv))⟩
theorem rr_addL {T : List (Addr × Str)} {K : PySem.W.Frag} {xs ys : List PyData} (hl : xs.length + ys.length ≤ 100000) (k : q (.d (.list (xs ++ ys))) M) : RR T K (rAddU K) (.d (.list xs)) (.d (.list ys)) M q := ⟨fun x y H Q hM r1 r2 kv => .inr (.inr (.inl ((rr_catL hl k).run x y H Q hM r1 r2 kv)))⟩
theorem rr_addS {T : List (Addr × Str)} {K : PySem.W.Frag} {s t : Str} (hl : s.length + t.length ≤ 100000) (k : q (.d (.str (s ++ t))) M) : RR T K (rAddU K) (.d (.str s)) (.d (.str t)) M q := ⟨fun x y H Q hM r1 r2 kv => by
  cases r1
  cases r2
  exact .inr (.inr (.inr ⟨s, t, rfl, rfl, Nat.le_trans hl (by decide), kv _ _ M H k (Step.refl hM) (.str _)⟩))⟩
theorem ev_add (h : Ev X ex a ρ M fun da M1 => Ev X ex b ρ M1 fun db M2 => RR ex.T X.K (rAddU X.K) da db M2 q) : Ev X ex (.BinOp a .Add b pos) ρ M q := ev_bin op_addU h
theorem ev_sub (h : Ev X ex a ρ M fun da M1 => Ev X ex b ρ M1 fun db M2 => RR ex.T X.K (rI0 fun i j => .int (i - j)) da db M2 q) : Ev X ex (.BinOp a .Sub b pos) ρ M q := ev_bin op_sub h
def rMulU : R2 := rI CMulW fun i j => .int (i * j)
theorem ev_mul (h : Ev X ex a ρ M fun da M1 => Ev X ex b ρ M1 fun db M2 => RR ex.T X.K rMulU da db M2 q) : Ev X ex (.BinOp a .Mult b pos) ρ M q := ev_bin op_mulW h
theorem rr_mul {T : List (Addr × Str)} {K : PySem.W.Frag} {i j : Int} (hc : i.natAbs.log2 + j.natAbs.log2 < 1000000) (k : q (.d (.int (i * j))) M) : RR T K rMulU (.d (.int i)) (.d (.int j)) M q := rr_int (g := fun i j => i * j) hc k
theorem ev_fdiv (h : Ev X ex a ρ M fun da M1 => Ev X ex b ρ M1 fun db M2 => RR ex.T X.K (rI CDivW fun i j => .int (i / j)) da db M2 q) : Ev X ex (.BinOp a .FloorDiv b pos) ρ M q := ev_bin op_fdivW h
theorem rr_fdiv {T : List (Addr × Str)} {K : PySem.W.Frag} {i j : Int} (h0 : 0 < j) (hc : j.natAbs.log2 < 9000) (k : q (.d (.int (i / j))) M) : RR T K (rI CDivW fun i j => .int (i / j)) (.d (.int i)) (.d (.int j)) M q := rr_int (g := fun i j => i / j) ⟨h0, hc⟩ k
theorem ev_mod (h : Ev X ex a ρ M fun da M1 => Ev X ex b ρ M1 fun db M2 => RR ex.T X.K (rI (fun _ j => 0 < j) fun i j => .int (i % j)) da db M2 q) : Ev X ex (.BinOp a .Mod b pos) ρ M q := ev_bin op_mod h
theorem rr_mod {T : List (Addr × Str)} {K : PySem.W.Frag} {i j : Int} (h0 : 0 < j) (k : q (.d (.int (i % j))) M) : RR T K (rI (fun _ j => 0 < j) fun i j => .int (i % j)) (.d (.int i)) (.d (.int j)) M q := rr_int (g := fun i j => i % j) (C := fun _ j => 0 < j) h0 k
theorem ev_pow (h : Ev X ex a ρ M fun da M1 => Ev X ex b ρ M1 fun db M2 => RR ex.T X.K (rI CPow fun i j => .int (i ^ j.toNat)) da db M2 q) : Ev X ex (.BinOp a .Pow b pos) ρ M q := ev_bin op_pow h
theorem rr_pow {T : List (Addr × Str)} {K : PySem.W.Frag} {i j : Int} (h0 : 0 ≤ j ∧ j ≤ 1000000 ∧ i.natAbs < 2 ^ 64) (k : q (.d (.int (i ^ j.toNat))) M) : RR T K (rI CPow fun i j => .int (i ^ j.toNat)) (.d (.int i)) (.d (.int j)) M q := rr_int (g := fun i j => i ^ j.toNat) h0 k
theorem ev_neg (h : Ev X ex a ρ M fun da M1 => RU ex.T X.K (rU fun i => .int (-i)) da M1 q) : Ev X ex (.UnaryOp .USub a pos) ρ M q := ev_un un_neg h
theorem ru_neg {T : List (Addr × Str)} {K : PySem.W.Frag} {i : Int} (k : q (.d (.int (-i))) M) : RU T K (rU fun i => .int (-i)) (.d (.int i)) M q := ru_int (g := fun i => -i) k
/-! comparisons -/
theorem ev_lt (h : Ev X ex a ρ M fun da M1 => Ev X ex b ρ M1 fun db M2 => RR ex.T X.K (rI0 fun i j => .bl (decide (i < j))) da db M2 q) : Ev X ex (.Compare a [.Lt] [b] pos) ρ M q := ev_cmp op_lt (nomark _) h
theorem ev_le (h : Ev X ex a ρ M fun da M1 => Ev X ex b ρ M1 fun db M2 => RR ex.T X.K (rI0 fun i j => .bl (decide (i ≤ j))) da db M2 q) : Ev X ex (.Compare a [.LtE] [b] pos) ρ M q := ev_cmp op_le (nomark _) h
theorem ev_gt (h : Ev X ex a ρ M fun da M1 => Ev X ex b ρ M1 fun db M2 => RR ex.T X.K (rI0 fun i j => .bl (decide (j < i))) da db M2 q) : Ev X ex (.Compare a [.Gt] [b] pos) ρ M q := ev_cmp op_gt (nomark _) h
theorem ev_ge (h : Ev X ex a ρ M fun da M1 => Ev X ex b ρ M1 fun db M2 => RR ex.T X.K (rI0 fun i j => .bl (decide (j ≤ i))) da db M2 q) : Ev X ex (.Compare a [.GtE] [b] pos) ρ M q := ev_cmp op_ge (nomark _) h
theorem ev_eq {k : Nat} (hr : Room k X.A) (h : Ev X ex a ρ M fun da M1 => Ev X ex b ρ M1 fun db M2 => RR ex.T X.K (rEqU X.K) da db M2 q) : Ev X ex (.Compare a [.Eq] [b] pos) ρ M q := ev_cmp (op_eqU hr.units) (nomark _) h
theorem ev_ne {k : Nat} (hr : Room k X.A) (h : Ev X ex a ρ M fun da M1 => Ev X ex b ρ M1 fun db M2 => RR ex.T X.K (rNeU X.K) da db M2 q) : Ev X ex (.Compare a [.NotEq] [b] pos) ρ M q := ev_cmp (op_neU hr.units) (nomark _) h
theorem ev_isN (h : Ev X ex a ρ M fun da M1 => Ev X ex b ρ M1 fun db M2 => RR ex.T X.K rIsN' da db M2 q) : Ev X ex (.Compare a [.Is] [b] pos) ρ M q := ev_cmp op_isN' (nomark _) h
theorem ev_notN (h : Ev X ex a ρ M fun da M1 => Ev X ex b ρ M1 fun db M2 => RR ex.T X.K rNotN' da db M2 q) : Ev X ex (.Compare a [.IsNot] [b] pos) ρ M q := ev_cmp op_notN' (nomark _) h
/-! comparisons as tests -/
theorem et_lt (h : Ev X ex a ρ M fun da M1 => Ev X ex b ρ M1 fun db M2 => RR ex.T X.K (rI0 fun i j => .bl (decide (i < j))) da db M2 (Bq qt)) : Et X ex (.Compare a [.Lt] [b] pos) ρ M qt := et_cmp op_lt (nomark _) h
theorem et_le (h : Ev X ex a ρ M fun da M1 => Ev X ex b ρ M1 fun db M2 => RR ex.T X.K (rI0 fun i j => .bl (decide (i ≤ j))) da db M2 (Bq qt)) : Et X ex (.Compare a [.LtE] [b] pos) ρ M qt := et_cmp op_le (nomark _) h
theorem et_gt (h : Ev X ex a ρ M fun da M1 => Ev X ex b ρ M1 fun db M2 => RR ex.T X.K (rI0 fun i j => .bl (decide (j < i))) da db M2 (Bq qt)) : Et X ex (.Compare a [.Gt] [b] pos) ρ M qt := et_cmp op_gt (nomark _) h
theorem et_ge (h : Ev X ex a ρ M fun da M1 => Ev X ex b ρ M1 fun db M2 => RR ex.T X.K (rI0 fun i j => .bl (decide (j ≤ i))) da db M2 (Bq qt)) : Et X ex (.Compare a [.GtE] [b] pos) ρ M qt := et_cmp op_ge (nomark _) h
theorem et_eq {k : Nat} (hr : Room k X.A) (h : Ev X ex a ρ M fun da M1 => Ev X ex b ρ M1 fun db M2 => RR ex.T X.K (rEqU X.K) da db M2 (Bq qt)) : Et X ex (.Compare a [.Eq] [b] pos) ρ M qt := et_cmp (op_eqU hr.units) (nomark _) h
theorem et_ne {k : Nat} (hr : Room k X.A) (h : Ev X ex a ρ M fun da M1 => Ev X ex b ρ M1 fun db M2 => RR ex.T X.K (rNeU X.K) da db M2 (Bq qt)) : Et X ex (.Compare a [.NotEq] [b] pos) ρ M qt := et_cmp (op_neU hr.units) (nomark _) h
theorem et_isN (h : Ev X ex a ρ M fun da M1 => Ev X ex b ρ M1 fun db M2 => RR ex.T X.K (rIsN') da db M2 (Bq qt)) : Et X ex (.Compare a [.Is] [b] pos) ρ M qt := et_cmp op_isN' (nomark _) h
theorem et_notN (h : Ev X ex a ρ M fun da M1 => Ev X ex b ρ M1 fun db M2 => RR ex.T X.K (rNotN') da db M2 (Bq qt)) : Et X ex (.Compare a [.IsNot] [b] pos) ρ M qt := et_cmp op_notN' (nomark _) h
/-! items -/
theorem ev_item (hs : PlainIx b) (h : Ev X ex a ρ M fun da M1 => Ev X ex b ρ M1 fun db M2 => RR ex.T X.K (rIx X.K) da db M2 q) : Ev X ex (.Subscript a b pos) ρ M q := ev_ix ix_seq hs h
theorem rr_itemT {T : List (Addr × Str)} {K : PySem.W.Frag} {ds : List PyData} {i : Int} {d : PyData} (h : L2.atI ds i = some d) (k : q (.d d) M) : RR T K (rIx K) (.d (.tuple ds)) (.d (.int i)) M q := ⟨fun x y H Q hM r1 r2 kv => .inr (.inl ((rr_ixT h k).run x y H Q hM r1 r2 kv))⟩
theorem rr_itemL {T : List (Addr × Str)} {K : PySem.W.Frag} {ds : List PyData} {i : Int} {d : PyData} (h : L2.atI ds i = some d) (k : q (.d d) M) : RR T K (rIx K) (.d (.list ds)) (.d (.int i)) M q := ⟨fun x y H Q hM r1 r2 kv => .inl ((rr_ixL h k).run x y H Q hM r1 r2 kv)⟩
theorem rr_itemS {T : List (Addr × Str)} {K : PySem.W.Frag} {z : Str} {i : Int} {c : Nat} (hz : z.length ≤ 100000) (h : L2.atI z.cps.toList i = some c) (k : q (.d (.str ⟨#[c]⟩)) M) : RR T K (rIx K) (.d (.str z)) (.d (.int i)) M q := ⟨fun x y H Q hM r1 r2 kv => .inr (.inr ((rr_ixS hz h k).run x y H Q hM r1 r2 kv))⟩
/-! calls of built-ins -/
theorem ev_abs (hg : BltOk X "abs") (h : Ea X ex (e :: es) ρ M fun ds M1 => RC ex.T X.K rAbs' ds M1 q) (he : ((e :: es).all fun e => !isStar e) = true) : Ev X ex (.Call (.Name "abs" p) (e :: es) [] pos) ρ M q := ev_blt call_abs' hg bb_abs h (he := he)
theorem ev_len (hg : BltOk X "len") (h : Ea X ex (e :: es) ρ M fun ds M1 => RC ex.T X.K (rLen' X.K) ds M1 q) (he : ((e :: es).all fun e => !isStar e) = true) : Ev X ex (.Call (.Name "len" p) (e :: es) [] pos) ρ M q := ev_blt call_len' hg bb_len h (he := he)
theorem ev_all (hc : X.calm = true) (hg : BltOk X "all") (h : Ea X ex (e :: es) ρ M fun ds M1 => RC ex.T X.K (rAll X.K) ds M1 q) (he : ((e :: es).all fun e => !isStar e) = true) : Ev X ex (.Call (.Name "all" p) (e :: es) [] pos) ρ M q := ev_blt (cr_all hc) hg bb_all h (he := he)
theorem ev_any (hc : X.calm = true) (hg : BltOk X "any") (h : Ea X ex (e :: es) ρ M fun ds M1 => RC ex.T X.K (rAny X.K) ds M1 q) (he : ((e :: es).all fun e => !isStar e) = true) : Ev X ex (.Call (.Name "any" p) (e :: es) [] pos) ρ M q := ev_blt (cr_any hc) hg bb_any h (he := he)
theorem ev_isi (hg : BltOk X "isinstance") (h : Ea X ex (e :: es) ρ M fun ds M1 => RC ex.T X.K (rIsi X.K) ds M1 q) (he : ((e :: es).all fun e => !isStar e) = true) : Ev X ex (.Call (.Name "isinstance" p) (e :: es) [] pos) ρ M q := ev_blt call_isi hg bb_isi h (he := he)
theorem ev_intC (hg : BltOk X "int") (h : Ea X ex (e :: es) ρ M fun ds M1 => RC ex.T X.K rInt1 ds M1 q) (he : ((e :: es).all fun e => !isStar e) = true) : Ev X ex (.Call (.Name "int" p) (e :: es) [] pos) ρ M q := ev_ty call_int1' hg bb_int h (he := he)
theorem ev_strC (hg : BltOk X "str") (h : Ea X ex (e :: es) ρ M fun ds M1 => RC ex.T X.K rStr1 ds M1 q) (he : ((e :: es).all fun e => !isStar e) = true) : Ev X ex (.Call (.Name "str" p) (e :: es) [] pos) ρ M q := ev_ty call_str1 hg bb_str h (he := he)
theorem ev_listC (hg : BltOk X "list") (h : Ea X ex (e :: es) ρ M fun ds M1 => RC ex.T X.K (rList1 X.K) ds M1 q) (he : ((e :: es).all fun e => !isStar e) = true) : Ev X ex (.Call (.Name "list" p) (e :: es) [] pos) ρ M q := ev_ty call_list1 hg bb_list h (he := he)
theorem ev_tupC (hg : BltOk X "tuple") (h : Ea X ex (e :: es) ρ M fun ds M1 => RC ex.T X.K (rTup1 X.K) ds M1 q) (he : ((e :: es).all fun e => !isStar e) = true) : Ev X ex (.Call (.Name "tuple" p) (e :: es) [] pos) ρ M q := ev_ty call_tup1 hg bb_tuple h (he := he)
theorem ev_intN (hg : BltOk X "int") (k : q (.v (.ty "int")) M) : Ev X ex (.Name "int" pos) ρ M q := ev_tyN hg bb_int k
theorem ev_boolN (hg : BltOk X "bool") (k : q (.v (.ty "bool")) M) : Ev X ex (.Name "bool" pos) ρ M q := ev_tyN hg bb_bool k
theorem ev_strN (hg : BltOk X "str") (k : q (.v (.ty "str")) M) : Ev X ex (.Name "str" pos) ρ M q := ev_tyN hg bb_str k
theorem ev_tupN (hg : BltOk X "tuple") (k : q (.v (.ty "tuple")) M) : Ev X ex (.Name "tuple" pos) ρ M q := ev_tyN hg bb_tuple k
theorem ev_listN (hg : BltOk X "list") (k : q (.v (.ty "list")) M) : Ev X ex (.Name "list" pos) ρ M q := ev_tyN hg bb_list k
end
theorem eqv_int (i j : Int) : PyData.eqv (.int i) (.int j) = decide (i = j) := by
  simp only [PyData.eqv]
  by_cases h : i = j
  · simp [h]
  · simp [h]
theorem eqv_str (i j : Str) : PyData.eqv (.str i) (.str j) = decide (i = j) := by
  simp only [PyData.eqv]
  by_cases h : i = j
  · simp [h]
  · simp [h]
section
variable {T : List (Addr × Str)} {K : PySem.W.Frag} {M : MM} {q : DV → MM → Prop}
theorem rr_eqD {x y : PyData} (h1 : SeqAt.shaped x = true) (h2 : SeqAt.shaped y = true) (k : q (.d (.bool (PyData.eqv x y))) M) : RR T K (rEqU K) (.d x) (.d y) M q := ⟨fun x y H Q hM r1 r2 kv => .inl ((rr_eq h1 h2 k).run x y H Q hM r1 r2 kv)⟩
theorem rr_neD {x y : PyData} (h1 : SeqAt.shaped x = true) (h2 : SeqAt.shaped y = true) (k : q (.d (.bool (!PyData.eqv x y))) M) : RR T K (rNeU K) (.d x) (.d y) M q := ⟨fun x y H Q hM r1 r2 kv => .inl ((rr_ne h1 h2 k).run x y H Q hM r1 r2 kv)⟩
theorem rr_eqI {i j : Int} (k : q (.d (.bool (decide (i = j)))) M) : RR T K (rEqU K) (.d (.int i)) (.d (.int j)) M q := rr_eqD rfl rfl (by rw [eqv_int]; exact k)
theorem rr_neI {i j : Int} (k : q (.d (.bool (!decide (i = j)))) M) : RR T K (rNeU K) (.d (.int i)) (.d (.int j)) M q := rr_neD rfl rfl (by rw [eqv_int]; exact k)
theorem rr_eqS {i j : Str} (k : q (.d (.bool (decide (i = j)))) M) : RR T K (rEqU K) (.d (.str i)) (.d (.str j)) M q := ⟨fun x y H Q hM r1 r2 kv => by
  cases r1
  cases r2
  refine .inr ⟨rfl, ?_⟩
  have e : decide (V.str i = V.str j) = decide (i = j) := by
    by_cases h : i = j
    · simp [h]
    · simp [h]
  rw [e]
  exact kv _ _ M H k (Step.refl hM) (.bl _)⟩
theorem rr_neS {i j : Str} (k : q (.d (.bool (!decide (i = j)))) M) : RR T K (rNeU K) (.d (.str i)) (.d (.str j)) M q := ⟨fun x y H Q hM r1 r2 kv => by
  cases r1
  cases r2
  refine .inr ⟨rfl, ?_⟩
  have e : decide (V.str i = V.str j) = decide (i = j) := by
    by_cases h : i = j
    · simp [h]
    · simp [h]
  rw [e]
  exact kv _ _ M H k (Step.refl hM) (.bl _)⟩
end
theorem ite_d {p A B : Prop} [Decidable p] (h1 : p → A) (h2 : ¬ p → B) : if decide p = true then A else B := by
  by_cases h : p
  · rw [decide_eq_true h, if_pos rfl]
    exact h1 h
  · rw [decide_eq_false h, if_neg Bool.false_ne_true]
    exact h2 h
theorem ite_nd {p A B : Prop} [Decidable p] (h1 : ¬ p → A) (h2 : p → B) : if (!decide p) = true then A else B := by
  by_cases h : p
  · rw [decide_eq_true h]
    exact iteF (h2 h)
  · rw [decide_eq_false h]
    exact iteT (h1 h)
theorem ite_b {k : Bool} {A B : Prop} (h1 : k = true → A) (h2 : k = false → B) : if k = true then A else B := by
  cases k with
  | true => exact iteT (h1 rfl)
  | false => exact iteF (h2 rfl)
theorem ite_nb {k : Bool} {A B : Prop} (h1 : k = false → A) (h2 : k = true → B) : if (!k) = true then A else B := by
  cases k with
  | true => exact iteF (h2 rfl)
  | false => exact iteT (h1 rfl)
theorem log_lt {n : Int} {k m : Nat} (h : n.natAbs < 2 ^ k) (h0 : 0 < k) (hk : k ≤ m) : n.natAbs.log2 < m := Nat.lt_of_lt_of_le (PySem.Flt.log2_lt_of h0 h) hk
theorem logs_lt {n l : Int} {k j m : Nat} (h : n.natAbs < 2 ^ k) (g : l.natAbs < 2 ^ j) (h0 : 0 < k) (g0 : 0 < j) (hk : k + j ≤ m) : n.natAbs.log2 + l.natAbs.log2 < m := by
  have h1 := PySem.Flt.log2_lt_of h0 h
  have h2 := PySem.Flt.log2_lt_of g0 g
  omega
/-! ### statements, by the def's facts -/
section
variable {X : Cx} {P : Program} {w : World} {T : List (Addr × Str)} {K : PySem.W.Frag} {mg : Str → Option Value} {base : Heap} {n : Nat} {N : List Str} {sc : Scope} {ex : XP} {ρ : Env'} {M : MM} {a b c e : Expr} {ss body els : List Stmt} {Po : Post} {pos : Pos}
theorem run_set' {i : Nat} {x : Str} {p : Pos} (C : Cok X P w K mg base n N sc) (hl : LocOk X i x) (h : Ev X ex e ρ M fun dv M1 => Run X ex ss (ρ.set i (some dv)) M1 Po) (hs : isCompr e = false) : Run X ex (.Assign [.Name x p] e pos :: ss) ρ M Po := run_set C.nod hl h hs
theorem run_par' {i j : Nat} {x y : Str} {px py pt : Pos} {kt k2 pt2} (C : Cok X P w K mg base n N sc) (hi : LocOk X i x) (hj : LocOk X j y) (hij : i ≠ j)
    (h : Ea X ex [a, b] ρ M fun ds M1 => ∃ d1 d2, ds = [d1, d2] ∧ Run X ex ss ((ρ.set i (some d1)).set j (some d2)) M1 Po)
    (hx : sc.names.lookup x = some .local := by rfl) (hy : sc.names.lookup y = some .local := by rfl)
    (hw : ∀ e : Env, swappedStores [.Tuple [.Name x px, .Name y py] kt pt] (.Tuple [a, b] k2 pt2) { e with scope := sc } = pure (some [x, y]) := by intro _; rfl)
    (hs : swapsWithSole [.Tuple [.Name x px, .Name y py] kt pt] (.Tuple [a, b] k2 pt2) pos.line X.env = pure false := by rfl) :
    Run X ex (.Assign [.Tuple [.Name x px, .Name y py] kt pt] (.Tuple [a, b] k2 pt2) pos :: ss) ρ M Po :=
  run_par C.calm C.nod hi hj hij (C.lookup hx) (C.lookup hy) h (env_of (f := swappedStores _ _) C.sc hw) hs
theorem run_while' (C : Cok X P w K mg base n N sc) (I : Nat → Env' → MM → Prop) (m0 : Nat) (h0 : I m0 ρ M)
    (hs : ∀ m ρ' M', I m ρ' M' → Et X ex c ρ' M' fun k M1 => if k = true then Run X ex body ρ' M1 { nx := fun ρ2 M2 => ∃ m', m' < m ∧ I m' ρ2 M2, ct := fun ρ2 M2 => ∃ m', m' < m ∧ I m' ρ2 M2, rt := Po.rt, bk := fun ρ2 M2 => Run X ex ss ρ2 M2 Po } else Run X ex ss ρ' M1 Po) :
    Run X ex (.While c body [] pos :: ss) ρ M Po := run_while I m0 C.pass h0 hs
theorem run_raise' {x m : Str} {j : Nat} {p p2 pos' : Pos} {D : Addr} (C : Cok X P w K mg base n N sc) (E : ExcOk X x D) (h : ex.e D M) : Run X ex (.Raise (some (.Call (.Name x p) [.Constant (.str m) j p2] [] pos')) none pos :: ss) ρ M Po := run_raise C.calm E h
end
end G
/-! G5: targets, for, comprehensions, max and min of a tuple, tuples unpacked. -/
namespace G
open PySem PySem.Spec PyProof.Rows L2
/-! ### targets -/
def wG (X : Cx) (tg : Expr) : TG := fun v σ H Q => ∀ pins s u, Inv X pins σ H s → RelV v u → wpAny (model X.prog X.w) X.A (assign tg X.env u) (fun _ s' => ∃ σ' H', Inv X pins σ' H' s' ∧ Q σ' H') X.xe s
theorem pg_w {X : Cx} {tg : Expr} : PG X tg (wG X tg) := ⟨fun pins s σ H v u Q I r h => h pins s u I r⟩
theorem wG_of {X : Cx} {tg : Expr} {g : TG} {v : V} {σ : L2.St} {H : Hp} {Q : L2.St → Hp → Prop} (p : PG X tg g) (h : g v σ H Q) : wG X tg v σ H Q := fun pins s u I r => p.run pins s σ H v u Q I r h
/-- a value goes to a target: the names behind it -/
structure Ga (X : Cx) (tg : Expr) (dv : DV) (ρ : Env') (M : MM) (k : Env' → Prop) : Prop where
  run : ∀ σ H v (Q : L2.St → Hp → Prop), Same M H → EnvOk X.K M H σ ρ → Rp X.K M H v dv → (∀ ρ' σ', k ρ' → EnvOk X.K M H σ' ρ' → Q σ' H) → wG X tg v σ H Q
section
variable {X : Cx} {ρ : Env'} {M : MM} {k : Env' → Prop} {pos : Pos}
theorem ga_name {i : Nat} {x : Str} {dv : DV} (hN : X.N.Nodup) (hl : LocOk X i x) (h : k (ρ.set i (some dv))) : Ga X (.Name x pos) dv ρ M k := ⟨fun σ H v Q hM hE r kk => wG_of (pg_name hN hl.ix hl.loc hl.fn) (kk _ _ h (hE.set r))⟩
/-- names of a tuple -/
def namesOf : List Expr → Option (List Str)
  | [] => some []
  | .Name x _ :: r => (namesOf r).map (x :: ·)
  | _ :: _ => none
inductive LocAll (X : Cx) : List Nat → List Expr → Prop
  | nil : LocAll X [] []
  | cons {i : Nat} {x : Str} {p : Pos} {is : List Nat} {es : List Expr} : LocOk X i x → LocAll X is es → LocAll X (i :: is) (.Name x p :: es)
def setAll (ρ : Env') : List Nat → List PyData → Env'
  | i :: is, d :: ds => setAll (ρ.set i (some (.d d))) is ds
  | _, _ => ρ
structure Gas (X : Cx) (es : List Expr) (ds : List PyData) (ρ : Env') (M : MM) (k : Env' → Prop) : Prop where
  run : ∀ σ H vs (Q : L2.St → Hp → Prop), Same M H → EnvOk X.K M H σ ρ → DqAll X.K (off M H) vs ds → (∀ ρ' σ', k ρ' → EnvOk X.K M H σ' ρ' → Q σ' H) → ∀ pins s us, Inv X pins σ H s → Vals vs us →
    wpAny (model X.prog X.w) X.A (assignInOrder ((assignEach es X.env).map (·.2)) us) (fun _ s' => ∃ σ' H', Inv X pins σ' H' s' ∧ Q σ' H') X.xe s
theorem each_cons {x : Str} {p : Pos} {es : List Expr} {env : Env} : (assignEach (.Name x p :: es) env).map (·.2) = assign (.Name x p) env :: (assignEach es env).map (·.2) := by simp only [assignEach, List.map_cons]
theorem gas_names (hN : X.N.Nodup) : ∀ {is : List Nat} {es : List Expr} {ds : List PyData} {ρ : Env'}, LocAll X is es → is.length = ds.length → k (setAll ρ is ds) → Gas X es ds ρ M k
  | [], [], [], ρ, _, _, h => ⟨fun σ H vs Q hM hE r kk pins s us I rv => by
    cases r
    cases rv
    simp only [assignEach, List.map_nil]
    exact assignInOrder_nil ⟨σ, H, I, kk _ _ h hE⟩⟩
  | i :: is, _, d :: ds, ρ, .cons (x := x) (p := p) (es := es) hl ha, hn, h => ⟨fun σ H vs Q hM hE r kk pins s us I rv => by
    cases r with
    | cons r1 r2 =>
      cases rv with
      | cons q1 q2 =>
        rw [each_cons]
        refine assignInOrder_cons (thn ((pg_name hN hl.ix hl.loc hl.fn).run pins s σ H _ _ (fun σ' H' => σ' = σ.set i (some _) ∧ H' = H) I q1 ⟨rfl, rfl⟩) fun _ s1 ⟨σ1, H1, I1, e1, e2⟩ => ?_)
        subst e1
        subst e2
        exact (gas_names hN ha (Nat.succ.inj hn) h).run _ H1 _ Q hM (hE.set (dv := .d d) r1) r2 kk pins s1 _ I1 q2⟩
theorem ga_tup {is : List Nat} {es : List Expr} {ds : List PyData} {kk : Nat} (hc : X.calm = true) (hN : X.N.Nodup) (ha : LocAll X is es) (hn : is.length = ds.length) (h : k (setAll ρ is ds)) (h1 : (assignEach es X.env).length = ds.length) (h2 : (assignEach es X.env).findIdx? (·.1) = none) : Ga X (.Tuple es kk pos) (.d (.tuple ds)) ρ M k := by
  refine ⟨fun σ H v Q hM hE r kq => ?_⟩
  cases r with
  | tup g1 g2 =>
    rename_i a xs
    have gs : PGs X es fun vs σ' H' Q' => vs = xs ∧ σ' = σ ∧ H' = H ∧ ∀ ρ' σ'', k ρ' → EnvOk X.K M H σ'' ρ' → Q' σ'' H := ⟨fun pins s σ' H' vs us Q' I rv ⟨e1, e2, e3, kq'⟩ => by
      subst e1 e2 e3
      exact (gas_names hN ha hn h).run _ _ _ Q' hM hE g2 kq' pins s us I rv⟩
    exact wG_of (pg_tup (n := ds.length) hc gs h1 h2) ⟨_, _, rfl, same_t off_same g1, g2.length, rfl, rfl, rfl, kq⟩
end
theorem each_names {X : Cx} {env : Env} : ∀ {is : List Nat} {es : List Expr}, LocAll X is es → (assignEach es env).length = is.length ∧ (assignEach es env).findIdx? (·.1) = none
  | _, _, .nil => by simp [assignEach]
  | _, _, .cons (x := x) (p := p) (es := es) h t => by
    obtain ⟨h1, h2⟩ := each_names (env := env) t
    have e : assignEach (.Name x p :: es) env = (false, assign (.Name x p) env) :: assignEach es env := by simp only [assignEach]
    rw [e]
    refine ⟨by rw [List.length_cons, List.length_cons, h1], ?_⟩
    rw [List.findIdx?_cons]
    simp [h2]
section
variable {X : Cx} {P : Program} {w : World} {K : PySem.W.Frag} {mg : Str → Option Value} {base : Heap} {n : Nat} {N : List Str} {sc : Scope} {ex : XP} {ρ : Env'} {M : MM} {a b c e : Expr} {ss body : List Stmt} {Po : Post} {pos : Pos}
theorem ga_tup' {k : Env' → Prop} {is : List Nat} {es : List Expr} {ds : List PyData} {kk : Nat} (hc : X.calm = true) (hN : X.N.Nodup) (ha : LocAll X is es) (hn : is.length = ds.length) (h : k (setAll ρ is ds)) : Ga X (.Tuple es kk pos) (.d (.tuple ds)) ρ M k := by
  obtain ⟨h1, h2⟩ := each_names (env := X.env) ha
  exact ga_tup hc hN ha hn h (h1.trans hn) h2
/-- a, b = e -/
theorem run_unpack {is : List Nat} {es : List Expr} {kk : Nat} {tp : Pos} (C : Cok X P w K mg base n N sc) (ha : LocAll X is es) (h : Ev X ex e ρ M fun dv M1 => ∃ ds, dv = .d (.tuple ds) ∧ is.length = ds.length ∧ Run X ex ss (setAll ρ is ds) M1 Po)
    (hs : isCompr e = false) (hw : ∀ e' : Env, swappedStores [.Tuple es kk tp] e { e' with scope := sc } = pure none) : Run X ex (.Assign [.Tuple es kk tp] e pos :: ss) ρ M Po := by
  refine ⟨fun W tk σ H hM hE D kr kx => ?_⟩
  have hsw : swapsWithSole [.Tuple es kk tp] e pos.line X.env = pure false := by
    unfold swapsWithSole
    exact swaps_ok hs
  have h1 : (assignEach [.Tuple es kk tp] X.env).map (·.2) = [assign (.Tuple es kk tp) X.env] := by simp only [assignEach, List.map_cons, List.map_nil]
  refine wS_of (pss_cons (ps_asg pe_w pg_w hsw (env_of (f := swappedStores _ _) C.sc hw) h1) pss_w) ?_
  refine h.run W tk σ H hM hE _ (fun v dv M1 H1 ⟨ds, e1, hn, h2⟩ s1 r1 => ?_) kx
  subst e1
  exact (ga_tup' (k := fun ρ' => ρ' = setAll ρ is ds) C.calm C.nod ha hn rfl).run σ H1 v _ s1.hold.m (hE.step s1) r1 fun ρ' σ' e2 hE' => by
    subst e2
    exact h2.run W tk σ' H1 s1.hold hE' D (kr.step s1) (kx.step s1)
/-! ### for -/
/-- one turn: what the target and the body make of it -/
def Turn1 (X : Cx) (ex : XP) (tg : Expr) (body ss : List Stmt) (Po : Post) (I : Nat → Env' → MM → Prop) (i : Nat) (d : PyData) (ρ' : Env') (M' : MM) : Prop :=
  Ga X tg (.d d) ρ' M' fun ρ2 => Run X ex body ρ2 M' { nx := I (i + 1), ct := I (i + 1), bk := fun ρ3 M3 => Run X ex ss ρ3 M3 Po, rt := Po.rt }
theorem turn_run {tg : Expr} {I : Nat → Env' → MM → Prop} {i : Nat} {d : PyData} {ρ' : Env'} {M M' : MM} {H H' : Hp} {σ' : L2.St} {v : V} {W : WX} {D : Ends} (tk : Takes X W) (h : Turn1 X ex tg body ss Po I i d ρ' M') (s0 : Step ex.T M H M' H') (hE' : EnvOk X.K M' H' σ' ρ') (r : Dq X.K (off M' H') v d)
    (kr : Kr ex.T X.K M H Po D) (kx : Kx M H ex W) : wG X tg v σ' H' fun σ2 H2 => wS X body { nx := fun σ3 H3 => ∃ ρ3 M3, I (i + 1) ρ3 M3 ∧ Step ex.T M H M3 H3 ∧ EnvOk X.K M3 H3 σ3 ρ3, ct := fun σ3 H3 => ∃ ρ3 M3, I (i + 1) ρ3 M3 ∧ Step ex.T M H M3 H3 ∧ EnvOk X.K M3 H3 σ3 ρ3, bk := wS X ss D, rt := D.rt } σ2 H2 := by
  refine h.run σ' H' v _ s0.hold.m hE' r fun ρ2 σ2 h2 hE2 => ?_
  refine h2.run W tk σ2 H' s0.hold hE2 _ ⟨?_, (kr.step s0).rt, ?_, ?_⟩ (kx.step s0)
  · intro ρ3 M3 σ3 H3 h3 s3 e3
    exact ⟨ρ3, M3, h3, s0.trans s3, e3⟩
  · intro ρ3 M3 σ3 H3 h3 s3 e3
    exact h3.run W tk σ3 H3 s3.hold e3 D (kr.step (s0.trans s3)) (kx.step (s0.trans s3))
  · intro ρ3 M3 σ3 H3 h3 s3 e3
    exact ⟨ρ3, M3, h3, s0.trans s3, e3⟩
theorem run_forT {tg iter : Expr} (C : Cok X P w K mg base n N sc) (I : List PyData → Nat → Env' → MM → Prop) (h : Ev X ex iter ρ M fun dv M1 => ∃ ds, dv = .d (.tuple ds) ∧ I ds 0 ρ M1)
    (hs : ∀ ds i d ρ' M', ds[i]? = some d → I ds i ρ' M' → Turn1 X ex tg body ss Po (I ds) i d ρ' M') (hd : ∀ ds ρ' M', I ds ds.length ρ' M' → Run X ex ss ρ' M' Po) (hz : isSetD iter = false) : Run X ex (.For tg iter body [] pos :: ss) ρ M Po := by
  refine ⟨fun W tk σ H hM hE D kr kx => ?_⟩
  refine wS_of (pss_cons (ps_for C.pass C.calm (pi_tup pe_w) pg_w pss_w (fun _ => noset_ok hz)) pss_w) ?_
  refine h.run W tk σ H hM hE _ (fun v dv M1 H1 ⟨ds, e1, h0⟩ s1 r1 => ?_) kx
  subst e1
  cases r1 with
  | tup g1 g2 =>
    rename_i a xs
    refine ⟨a, rfl, ⟨xs, same_t off_same g1⟩, for_tup (xs := xs) (fun i σ' H' => ∃ ρ' M', I ds i ρ' M' ∧ Step ex.T M1 H1 M' H' ∧ EnvOk X.K M' H' σ' ρ') ⟨ρ, M1, h0, Step.refl s1.hold, hE.step s1⟩ ?_ ?_ ?_⟩
    · rintro i σ' H' _ ⟨ρ', M', _, s2, _⟩
      exact same_t off_same (same_t s2.ext g1)
    · rintro i x σ' H' hi ⟨ρ', M', hI, s2, hE'⟩
      obtain ⟨d, hd', rd⟩ := g2.get' hi
      exact turn_run tk (hs ds i d ρ' M' hd' hI) s2 hE' (Dq.mono s2.ext d x rd) (kr.step s1) (kx.step s1)
    · rintro σ' H' ⟨ρ', M', hI, s2, hE'⟩
      rw [g2.length] at hI
      exact (hd ds ρ' M' hI).run W tk σ' H' s2.hold hE' D (kr.step (s1.trans s2)) (kx.step (s1.trans s2))
theorem run_forL {tg iter : Expr} (C : Cok X P w K mg base n N sc) (I : List PyData → Nat → Env' → MM → Prop) (h : Ev X ex iter ρ M fun dv M1 => ∃ ds, (dv = .d (.list ds) ∨ dv = .r ds) ∧ I ds 0 ρ M1)
    (hs : ∀ ds i d ρ' M', ds[i]? = some d → I ds i ρ' M' → Turn1 X ex tg body ss Po (I ds) i d ρ' M') (hd : ∀ ds ρ' M', I ds ds.length ρ' M' → Run X ex ss ρ' M' Po) (hz : isSetD iter = false) : Run X ex (.For tg iter body [] pos :: ss) ρ M Po := by
  refine ⟨fun W tk σ H hM hE D kr kx => ?_⟩
  refine wS_of (pss_cons (ps_for C.pass C.calm (pi_list pe_w) pg_w pss_w (fun _ => noset_ok hz)) pss_w) ?_
  refine h.run W tk σ H hM hE _ (fun v dv M1 H1 ⟨ds, e1, h0⟩ s1 r1 => ?_) kx
  obtain ⟨a, xs, rfl, g1, g2⟩ : ∃ a xs, v = .ref a ∧ SqL X.K (off M1 H1) a xs ∧ DqAll X.K (off M1 H1) xs ds := by
    rcases e1 with e1 | e1
    · subst e1
      cases r1 with
      | lst g1 g2 => exact ⟨_, _, rfl, SqL.of g1, g2⟩
    · subst e1
      exact r1
  refine ⟨a, rfl, ⟨xs, off_same.seq g1⟩, for_list (xs := xs) (fun i σ' H' => ∃ ρ' M', I ds i ρ' M' ∧ Step ex.T M1 H1 M' H' ∧ EnvOk X.K M' H' σ' ρ') ⟨ρ, M1, h0, Step.refl s1.hold, hE.step s1⟩ ?_ ?_ ?_⟩
  · rintro i σ' H' _ ⟨ρ', M', _, s2, _⟩
    exact off_same.seq (s2.ext.seq g1)
  · rintro i x σ' H' hi ⟨ρ', M', hI, s2, hE'⟩
    obtain ⟨d, hd', rd⟩ := g2.get' hi
    exact turn_run tk (hs ds i d ρ' M' hd' hI) s2 hE' (Dq.mono s2.ext d x rd) (kr.step s1) (kx.step s1)
  · rintro σ' H' ⟨ρ', M', hI, s2, hE'⟩
    rw [g2.length] at hI
    exact (hd ds ρ' M' hI).run W tk σ' H' s2.hold hE' D (kr.step (s1.trans s2)) (kx.step (s1.trans s2))
/-- for i in range(a, b), range(b) -/
theorem run_forR2 {tg : Expr} {p rp : Pos} (C : Cok X P w K mg base n N sc) (hg : BltOk X "range") (I : Int → Nat → Nat → Env' → MM → Prop)
    (h : Ea X ex [a, b] ρ M fun ds M1 => ∃ lo hi : Int, ds = [.d (.int lo), .d (.int hi)] ∧ -(2 ^ 62) ≤ lo ∧ lo < 2 ^ 62 ∧ -(2 ^ 62) ≤ hi ∧ hi < 2 ^ 62 ∧ I lo (hi - lo).toNat 0 ρ M1)
    (hs : ∀ lo m i ρ' M', i < m → I lo m i ρ' M' → Turn1 X ex tg body ss Po (I lo m) i (.int (lo + i)) ρ' M') (hd : ∀ lo m ρ' M', I lo m m ρ' M' → Run X ex ss ρ' M' Po) (he : ([a, b].all fun e => !isStar e) = true) :
    Run X ex (.For tg (.Call (.Name "range" rp) [a, b] [] p) body [] pos :: ss) ρ M Po := by
  refine ⟨fun W tk σ H hM hE D kr kx => ?_⟩
  have e2 : starEach [b] X.env = [(false, eval b X.env)] := by rw [star_ok (star_hd (star_tl he))]; simp only [starEach]
  have e1 : starEach [a, b] X.env = [(false, eval a X.env), (false, eval b X.env)] := by rw [star_ok (star_hd he), e2]
  refine wS_of (pss_cons (ps_for C.pass C.calm (pi_range2 hg.gl hg.mg pa_w e1 e2) pg_w pss_w (fun _ => noset_ok rfl)) pss_w) ?_
  refine h.run W tk σ H hM hE _ (fun vs dvs M1 H1 ⟨lo, hi, e3, q1, q2, q3, q4, h0⟩ s1 r1 => ?_) kx
  subst e3
  cases r1 with
  | cons ra rt =>
    cases rt with
    | cons rb rn =>
      cases rn
      cases ra
      cases rb
      refine ⟨lo, hi, rfl, ⟨q1, q2, q3, q4⟩, for_range (lo := lo) (n := (hi - lo).toNat) (fun i σ' H' => ∃ ρ' M', I lo (hi - lo).toNat i ρ' M' ∧ Step ex.T M1 H1 M' H' ∧ EnvOk X.K M' H' σ' ρ') ⟨ρ, M1, h0, Step.refl s1.hold, hE.step s1⟩ ?_ ?_⟩
      · rintro i σ' H' hi ⟨ρ', M', hI, s2, hE'⟩
        exact turn_run tk (hs lo _ i ρ' M' hi hI) s2 hE' (.int _) (kr.step s1) (kx.step s1)
      · rintro σ' H' ⟨ρ', M', hI, s2, hE'⟩
        exact (hd lo _ ρ' M' hI).run W tk σ' H' s2.hold hE' D (kr.step (s1.trans s2)) (kx.step (s1.trans s2))
theorem run_forR1 {tg : Expr} {p rp : Pos} (C : Cok X P w K mg base n N sc) (hg : BltOk X "range") (I : Nat → Nat → Env' → MM → Prop)
    (h : Ea X ex [b] ρ M fun ds M1 => ∃ hi : Int, ds = [.d (.int hi)] ∧ -(2 ^ 62) ≤ hi ∧ hi < 2 ^ 62 ∧ I hi.toNat 0 ρ M1)
    (hs : ∀ m i ρ' M', i < m → I m i ρ' M' → Turn1 X ex tg body ss Po (I m) i (.int i) ρ' M') (hd : ∀ m ρ' M', I m m ρ' M' → Run X ex ss ρ' M' Po) (he : isStar b = false) :
    Run X ex (.For tg (.Call (.Name "range" rp) [b] [] p) body [] pos :: ss) ρ M Po := by
  refine ⟨fun W tk σ H hM hE D kr kx => ?_⟩
  have e2 : starEach [b] X.env = [(false, eval b X.env)] := by rw [star_ok he]; simp only [starEach]
  refine wS_of (pss_cons (ps_for C.pass C.calm (pi_range1 hg.gl hg.mg pa_w e2) pg_w pss_w (fun _ => noset_ok rfl)) pss_w) ?_
  refine h.run W tk σ H hM hE _ (fun vs dvs M1 H1 ⟨hi, e3, q3, q4, h0⟩ s1 r1 => ?_) kx
  subst e3
  cases r1 with
  | cons rb rn =>
    cases rn
    cases rb
    refine ⟨hi, rfl, q3, q4, for_range (lo := 0) (n := hi.toNat) (fun i σ' H' => ∃ ρ' M', I hi.toNat i ρ' M' ∧ Step ex.T M1 H1 M' H' ∧ EnvOk X.K M' H' σ' ρ') ⟨ρ, M1, h0, Step.refl s1.hold, hE.step s1⟩ ?_ ?_⟩
    · rintro i σ' H' hi ⟨ρ', M', hI, s2, hE'⟩
      exact turn_run tk (hs _ i ρ' M' hi hI) s2 hE' (by rw [Int.zero_add]; exact .int _) (kr.step s1) (kx.step s1)
    · rintro σ' H' ⟨ρ', M', hI, s2, hE'⟩
      exact (hd _ ρ' M' hI).run W tk σ' H' s2.hold hE' D (kr.step (s1.trans s2)) (kx.step (s1.trans s2))
end
end G
/-! G6: list comprehensions of one clause whose parts write nothing. -/
namespace G
open PySem PySem.Spec PyProof.Rows L2
abbrev ex0 (T : List (Addr × Str)) : XP := ⟨fun _ _ => False, T⟩
/-- the context of a comprehension's block -/
abbrev bX (X : Cx) (scope : Scope) (s : Shared) (H : Hp) (C : Addr) (cl : List (Str × Addr)) (fp : List Addr) : Cx := X.blk s H scope (compEnvC scope cl C X.env) fp
def wTs (X : Cx) (ifs : List Expr) : TT := fun σ H Q => ∀ pins s, Inv X pins σ H s →
  wpAny (model X.prog X.w) X.A (forIn ifs true fun c r => if r = true then do let ok ← isTrue c X.env (eval c X.env); pure (ForInStep.yield ok) else pure (ForInStep.yield r)) (TP X pins σ Q) X.xe s
theorem pts_w {X : Cx} {ifs : List Expr} : PTs X ifs (wTs X ifs) := ⟨fun pins s _ _ _ I h => h pins s I⟩
theorem wTs_of {X : Cx} {ifs : List Expr} {t : TT} {σ : L2.St} {H : Hp} {Q : Bool → Hp → Prop} (p : PTs X ifs t) (h : t σ H Q) : wTs X ifs σ H Q := fun pins s I => p.run pins s σ H Q I h
structure Ets (X : Cx) (ex : XP) (ifs : List Expr) (ρ : Env') (M : MM) (q : Bool → MM → Prop) : Prop where
  run : ∀ (W : WX), Takes X W → ∀ σ H, Hold ex.T M H → EnvOk X.K M H σ ρ → ∀ Q : Bool → Hp → Prop, Kt ex.T M H q Q → Kx M H ex W → wTs X ifs σ H Q
section
variable {X : Cx} {ex : XP} {ρ : Env'} {M : MM} {qt : Bool → MM → Prop} {c : Expr}
theorem ets_nil (h : qt true M) : Ets X ex [] ρ M qt := ⟨fun W tk σ H hM hE Q kt kx => wTs_of pts_nil (kt true M H h (Step.refl hM))⟩
theorem ets_one (h : Et X ex c ρ M qt) : Ets X ex [c] ρ M qt := ⟨fun W tk σ H hM hE Q kt kx => wTs_of (pts_one pt_w) (h.run W tk σ H hM hE Q kt kx)⟩
end
theorem takes_none {X : Cx} : Takes X (fun _ _ _ _ => False) := fun _ _ x => by
  obtain ⟨_, _, _, _, _, _, _, _, _, _, _, _, _, _, _, _, z⟩ := x
  exact z.elim
/-- one item of a comprehension: f tells what it gives, none if a test bars it -/
structure LcTurn (T : List (Addr × Str)) (X : Cx) (scope : Scope) (elt : Expr) (ifs : List Expr) (f : PyData → Option PyData) (ρ : Env') (j : Nat) (d : PyData) : Prop where
  test : ∀ (s : Shared) (H : Hp) (C : Addr) (cl : List (Str × Addr)) (fp : List Addr) (M : MM), Ets (bX X scope s H C cl fp) (ex0 T) ifs (ρ.set j (some (.d d))) M fun b M2 => M2 = M ∧ b = (f d).isSome
  elt : ∀ (s : Shared) (H : Hp) (C : Addr) (cl : List (Str × Addr)) (fp : List Addr) (M : MM) (y : PyData), f d = some y → Ev (bX X scope s H C cl fp) (ex0 T) elt (ρ.set j (some (.d d))) M fun dv M3 => M3 = M ∧ dv = .d y
theorem off_upd {M H : Hp} {D : Addr} {o o' : HO} : off (upd M D o) H = off (upd M D o') H := by
  funext a
  unfold off
  by_cases h : a = D
  · subst h; rw [upd_same, upd_same]; rfl
  · rw [upd_ne h, upd_ne h]
theorem off_upd2 {M H : Hp} {D : Addr} {o o' : HO} : off (upd M D o) (upd H D o') = off (upd M D o) H := by
  funext a
  unfold off
  by_cases h : a = D
  · subst h; rw [upd_same]; rfl
  · rw [upd_ne h, upd_ne h]
/-- what a comprehension holds between two items -/
def LcInv (T : List (Addr × Str)) (K : PySem.W.Frag) (M1 H1 : Hp) (D : Addr) (ys : List PyData) (H : Hp) : Prop := ∃ vs, Step T (upd M1 D (.lst [])) (upd H1 D (.lst [])) (upd M1 D (.lst vs)) H ∧ DqAll K (off (upd M1 D (.lst vs)) H) vs ys
section
variable {T : List (Addr × Str)} {X : Cx} {scope : Scope} {elt : Expr} {ifs : List Expr} {f : PyData → Option PyData} {ρ : Env'} {j : Nat} {M1 H1 : Hp} {σ : L2.St} {D : Addr}
theorem upd_self {M : Hp} {D : Addr} {o : HO} (h : M D = some o) : upd M D o = M := by
  funext a
  by_cases z : a = D
  · subst z; rw [upd_same, h]
  · rw [upd_ne z]
theorem lc_turn {d : PyData} {v : V} {ys : List PyData} {H : Hp} (hM : Hold T M1 H1) (hD : H1 D = none) (hE : EnvOk X.K M1 H1 σ ρ) (ht : LcTurn T X scope elt ifs f ρ j d) (p : LcInv T X.K M1 H1 D ys H) (hl : ys.length < 100000) (rd : Dq X.K (off M1 H1) v d) :
    ∀ s H0 C cl fp, wTs (bX X scope s H0 C cl fp) ifs (σ.set j (some v)) H fun b H3 => if b = true then (∀ s H0 C cl fp, wE (bX X scope s H0 C cl fp) elt (σ.set j (some v)) H3 fun y H4 => ∃ acc, H4 D = some (.lst acc) ∧ acc.length < sizeLine ∧ LcInv T X.K M1 H1 D (ys ++ (f d).toList) (upd H4 D (.lst (acc ++ [y]))))
      else LcInv T X.K M1 H1 D (ys ++ (f d).toList) H3 := by
  intro s H0 C cl fp
  obtain ⟨vs, s1, ra⟩ := p
  have sa : Step T M1 H1 (upd M1 D (.lst [])) (upd H1 D (.lst [])) := Step.newmut hM hD
  have s01 := sa.trans s1
  have hE1 : EnvOk X.K (upd M1 D (.lst vs)) H (σ.set j (some v)) (ρ.set j (some (.d d))) := (hE.step s01).set (dv := .d d) (Rp.step (dv := .d d) s01 rd)
  refine (ht.test s H0 C cl fp (upd M1 D (.lst vs))).run _ takes_none _ _ s1.hold hE1 _ (fun b M2 H2 ⟨e1, h2⟩ s2 => ?_) (fun _ _ _ _ z _ => z.elim)
  subst e1
  cases e : f d with
  | none =>
    rw [e] at h2
    subst h2
    refine iteF ?_
    refine ⟨vs, s1.trans s2, ?_⟩
    show DqAll X.K _ vs (ys ++ [])
    rw [List.append_nil]
    exact DqAll.mono s2.ext ys vs ra
  | some y =>
    rw [e] at h2
    subst h2
    refine iteT ?_
    intro s' H0' C' cl' fp'
    refine (ht.elt s' H0' C' cl' fp' (upd M1 D (.lst vs)) y e).run _ takes_none _ _ s2.hold (hE1.step s2) _ (fun v' dv M3 H3 ⟨e2, e4⟩ s3 r3 => ?_) (fun _ _ _ _ z _ => z.elim)
    subst e2
    subst e4
    have hDm : H3 D = some (.lst vs) := s3.hold.m _ _ upd_same
    refine ⟨vs, hDm, ?_, vs ++ [v'], ?_, ?_⟩
    · rw [ra.length]; exact Nat.lt_of_lt_of_le hl (by decide)
    · have w := Step.write (o' := .lst (vs ++ [v'])) s3.hold (upd_same (H := M1) (a := D) (o := .lst vs)) rfl
      rw [upd_upd] at w
      exact ((s1.trans s2).trans s3).trans w
    · have e5 : off (upd M1 D (.lst (vs ++ [v']))) (upd H3 D (.lst (vs ++ [v']))) = off (upd M1 D (.lst vs)) H3 := by
        rw [off_upd2, off_upd]
      rw [e5]
      exact DqAll.append (DqAll.mono (s2.ext.trans s3.ext) ys vs ra) (.cons r3 .nil)
/-- at the end the list is one that stands -/
theorem lc_end {ys : List PyData} {H : Hp} (hM : Hold T M1 H1) (hD : H1 D = none) (p : LcInv T X.K M1 H1 D ys H) : Step T M1 H1 M1 H ∧ Dq X.K (off M1 H) (.ref D) (.list ys) := by
  obtain ⟨vs, s1, ra⟩ := p
  have hm : M1 D = none := hM.none hD
  have sa : Step T M1 H1 (upd M1 D (.lst [])) (upd H1 D (.lst [])) := Step.newmut hM hD
  have s2 := (sa.trans s1).freeze (p := D)
  have e' : G.rem (upd M1 D (.lst vs)) D = M1 := by
    funext a
    unfold G.rem
    by_cases z : a = D
    · subst z; rw [if_pos rfl, hm]
    · rw [if_neg z, upd_ne z]
  rw [e'] at s2
  refine ⟨s2, .lst (xs := vs) ?_ ?_⟩
  · exact off_of (s1.hold.m _ _ upd_same) hm
  · refine DqAll.mono (Same.n fun a o h => ?_) ys vs ra
    obtain ⟨h1, h2⟩ := of_off h
    refine off_of h1 ?_
    by_cases z : a = D
    · subst z; rw [upd_same] at h2; cases h2
    · rw [upd_ne z] at h2; exact h2
end
section
variable {T : List (Addr × Str)} {X : Cx} {ex : XP} {scope : Scope} {elt iter a b : Expr} {ifs : List Expr} {f : PyData → Option PyData} {ρ : Env'} {M : MM} {q : DV → MM → Prop} {j : Nat} {x : Str} {px pos rp p : Pos}
def tIfs (X : Cx) (scope : Scope) (ifs : List Expr) : TT := fun σ H Q => ∀ s H0 C cl fp, wTs (bX X scope s H0 C cl fp) ifs σ H Q
def tElt (X : Cx) (scope : Scope) (elt : Expr) : TE := fun σ H Q => ∀ s H0 C cl fp, wE (bX X scope s H0 C cl fp) elt σ H Q
theorem pe_lcw {wi : TI} (hc : X.calm = true) (hN : X.N.Nodup) (hi : PI X (.Name x px) iter wi) (hB : BlkOk X.N X.env.scope scope [(x, j)]) (hl : ∀ s H C cl fp, LocOk (bX X scope s H C cl fp) j x) (hz : isSetD iter = false) :
    PE X (.ListComp elt [⟨.Name x px, iter, ifs, 0⟩] scope pos) (tLc wi (gName j) (tIfs X scope ifs) (tElt X scope elt) [j]) :=
  pe_lc (own := [(x, j)]) hc hN hi hB (fun s H C cl fp => pg_name hN (hl s H C cl fp).ix (hl s H C cl fp).loc (hl s H C cl fp).fn) (fun s H C cl fp => ⟨fun pins s' σ H' Q I h => h s H C cl fp pins s' I⟩) (fun s H C cl fp => ⟨fun pins s' σ H' Q I h => h s H C cl fp pins s' I⟩) (fun _ => noset_ok hz)
theorem lc_step {M1 H1 : Hp} {σ : L2.St} {D : Addr} {ds : List PyData} {i : Nat} {d : PyData} {v : V} {H : Hp} (hM : Hold T M1 H1) (hD : H1 D = none) (hE : EnvOk X.K M1 H1 σ ρ) (hlen : ds.length ≤ 100000) (hi : ds[i]? = some d) (ht : LcTurn T X scope elt ifs f ρ j d) (p : LcInv T X.K M1 H1 D ((ds.take i).filterMap f) H) (rd : Dq X.K (off M1 H1) v d) :
    gName j v (wipe σ [j]) H fun σ2 H2 => wipe σ2 [j] = wipe σ [j] ∧ tIfs X scope ifs σ2 H2 fun b H3 => if b = true then tElt X scope elt σ2 H3 fun y H4 => ∃ acc, H4 D = some (.lst acc) ∧ acc.length < sizeLine ∧ LcInv T X.K M1 H1 D ((ds.take (i + 1)).filterMap f) (upd H4 D (.lst (acc ++ [y]))) else LcInv T X.K M1 H1 D ((ds.take (i + 1)).filterMap f) H3 := by
  have e0 : (wipe σ [j]).set j (some v) = σ.set j (some v) := by
    show (σ.set j none).set j (some v) = _
    rw [List.set_set]
  have e1 : (ds.take (i + 1)).filterMap f = (ds.take i).filterMap f ++ (f d).toList := by
    rw [List.take_add_one, hi, List.filterMap_append]
    cases h : f d <;> simp [h]
  show (wipe ((wipe σ [j]).set j (some v)) [j] = wipe σ [j]) ∧ _
  rw [e0]
  refine ⟨?_, ?_⟩
  · show (σ.set j (some v)).set j none = σ.set j none
    rw [List.set_set]
  · rw [e1]
    have hl : ((ds.take i).filterMap f).length < 100000 := by
      have h1 := List.length_filterMap_le f (ds.take i)
      have h2 : i < ds.length := (List.getElem?_eq_some_iff.mp hi).1
      rw [List.length_take] at h1
      omega
    exact lc_turn hM hD hE ht p hl rd
theorem lc_zero {M1 H1 : Hp} {D : Addr} {ds : List PyData} (hM : Hold T M1 H1) (hD : H1 D = none) : LcInv T X.K M1 H1 D ((ds.take 0).filterMap f) (upd H1 D (.lst [])) := ⟨[], Step.refl (Step.newmut hM hD).hold, .nil⟩
theorem LcInv.sub {M1 H1 H : Hp} {D : Addr} {ys : List PyData} (hM : Hold T M1 H1) (hD : H1 D = none) (p : LcInv T X.K M1 H1 D ys H) : SameN (off M1 H1) H := (lc_end hM hD p).1.ext.trans off_same
/-- over a list, a tuple, range(a, b), range(b) -/
theorem ev_lcL (hc : X.calm = true) (hN : X.N.Nodup) (hB : BlkOk X.N X.env.scope scope [(x, j)]) (hl : ∀ s H C cl fp, LocOk (bX X scope s H C cl fp) j x) (hz : isSetD iter = false) (f : PyData → Option PyData)
    (h : Ev X ex iter ρ M fun dv M1 => ∃ ds, (dv = .d (.list ds) ∨ dv = .r ds) ∧ ds.length ≤ 100000 ∧ (∀ d ∈ ds, LcTurn ex.T X scope elt ifs f ρ j d) ∧ q (.d (.list (ds.filterMap f))) M1) : Ev X ex (.ListComp elt [⟨.Name x px, iter, ifs, 0⟩] scope pos) ρ M q := by
  refine ⟨fun W tk σ H hM hE Q kv kx => ?_⟩
  refine wE_of (pe_lcw hc hN (pi_list pe_w) hB hl hz) ?_
  refine h.run W tk σ H hM hE _ (fun v dv M1 H1 ⟨ds, e1, hlen, ht, hq⟩ s1 r1 => ?_) kx
  obtain ⟨a, xs, rfl, g1, g2⟩ : ∃ a xs, v = .ref a ∧ SqL X.K (off M1 H1) a xs ∧ DqAll X.K (off M1 H1) xs ds := by
    rcases e1 with e1 | e1
    · subst e1
      cases r1 with
      | lst g1 g2 => exact ⟨_, _, rfl, SqL.of g1, g2⟩
    · subst e1
      exact r1
  refine ⟨a, rfl, ⟨xs, off_same.seq g1⟩, fun D hD => lc_list (xs := xs) (fun i H' => LcInv ex.T X.K M1 H1 D ((ds.take i).filterMap f) H') (lc_zero s1.hold hD) (fun i H' _ p => (p.sub s1.hold hD).seq g1) (fun i v H' hi p => ?_) (fun H' p => ?_)⟩
  · obtain ⟨d, hd, rd⟩ := g2.get' hi
    exact lc_step s1.hold hD (hE.step s1) hlen hd (ht d (List.mem_of_getElem? hd)) p rd
  · rw [g2.length, List.take_length] at p
    obtain ⟨s2, r2⟩ := lc_end s1.hold hD p
    exact kv _ _ M1 H' hq (s1.trans s2) r2
theorem ev_lcT (hc : X.calm = true) (hN : X.N.Nodup) (hB : BlkOk X.N X.env.scope scope [(x, j)]) (hl : ∀ s H C cl fp, LocOk (bX X scope s H C cl fp) j x) (hz : isSetD iter = false) (f : PyData → Option PyData)
    (h : Ev X ex iter ρ M fun dv M1 => ∃ ds, dv = .d (.tuple ds) ∧ ds.length ≤ 100000 ∧ (∀ d ∈ ds, LcTurn ex.T X scope elt ifs f ρ j d) ∧ q (.d (.list (ds.filterMap f))) M1) : Ev X ex (.ListComp elt [⟨.Name x px, iter, ifs, 0⟩] scope pos) ρ M q := by
  refine ⟨fun W tk σ H hM hE Q kv kx => ?_⟩
  refine wE_of (pe_lcw hc hN (pi_tup pe_w) hB hl hz) ?_
  refine h.run W tk σ H hM hE _ (fun v dv M1 H1 ⟨ds, e1, hlen, ht, hq⟩ s1 r1 => ?_) kx
  subst e1
  cases r1 with
  | tup g1 g2 =>
    rename_i a xs
    refine ⟨a, rfl, ⟨xs, same_t off_same g1⟩, fun D hD => lc_tup (xs := xs) (fun i H' => LcInv ex.T X.K M1 H1 D ((ds.take i).filterMap f) H') (lc_zero s1.hold hD) (fun i H' _ p => same_t (p.sub s1.hold hD) g1) (fun i v H' hi p => ?_) (fun H' p => ?_)⟩
    · obtain ⟨d, hd, rd⟩ := g2.get' hi
      exact lc_step s1.hold hD (hE.step s1) hlen hd (ht d (List.mem_of_getElem? hd)) p rd
    · rw [g2.length, List.take_length] at p
      obtain ⟨s2, r2⟩ := lc_end s1.hold hD p
      exact kv _ _ M1 H' hq (s1.trans s2) r2
/-- lo, lo + 1, .. (m of them) -/
def rng (lo : Int) (m : Nat) : List PyData := (List.range m).map fun i : Nat => PyData.int (lo + i)
theorem rng_len {lo : Int} {m : Nat} : (rng lo m).length = m := by
  unfold rng
  rw [List.length_map, List.length_range]
theorem rng_at {lo : Int} {m i : Nat} (h : i < m) : (rng lo m)[i]? = some (.int (lo + i)) := by
  unfold rng
  rw [List.getElem?_map, List.getElem?_range h]
  rfl
theorem ev_lcR2 (hc : X.calm = true) (hN : X.N.Nodup) (hg : BltOk X "range") (hB : BlkOk X.N X.env.scope scope [(x, j)]) (hl : ∀ s H C cl fp, LocOk (bX X scope s H C cl fp) j x) (he : ([a, b].all fun e => !isStar e) = true) (f : PyData → Option PyData)
    (h : Ea X ex [a, b] ρ M fun ds M1 => ∃ lo hi : Int, ds = [.d (.int lo), .d (.int hi)] ∧ (-(2 ^ 62) ≤ lo ∧ lo < 2 ^ 62 ∧ -(2 ^ 62) ≤ hi ∧ hi < 2 ^ 62 ∧ (hi - lo).toNat ≤ 100000) ∧ (∀ d ∈ rng lo (hi - lo).toNat, LcTurn ex.T X scope elt ifs f ρ j d) ∧ q (.d (.list ((rng lo (hi - lo).toNat).filterMap f))) M1) :
    Ev X ex (.ListComp elt [⟨.Name x px, .Call (.Name "range" rp) [a, b] [] p, ifs, 0⟩] scope pos) ρ M q := by
  refine ⟨fun W tk σ H hM hE Q kv kx => ?_⟩
  have e2 : starEach [b] X.env = [(false, eval b X.env)] := by rw [star_ok (star_hd (star_tl he))]; simp only [starEach]
  have e1 : starEach [a, b] X.env = [(false, eval a X.env), (false, eval b X.env)] := by rw [star_ok (star_hd he), e2]
  refine wE_of (pe_lcw hc hN (pi_range2 hg.gl hg.mg pa_w e1 e2) hB hl rfl) ?_
  refine h.run W tk σ H hM hE _ (fun vs dvs M1 H1 ⟨lo, hi, e3, ⟨q1, q2, q3, q4, q5⟩, ht, hq⟩ s1 r1 => ?_) kx
  subst e3
  cases r1 with
  | cons ra rt =>
    cases rt with
    | cons rb rn =>
      cases rn
      cases ra
      cases rb
      refine ⟨lo, hi, rfl, ⟨q1, q2, q3, q4⟩, fun D hD => lc_range (lo := lo) (n := (hi - lo).toNat) (fun i H' => LcInv ex.T X.K M1 H1 D (((rng lo (hi - lo).toNat).take i).filterMap f) H') (lc_zero s1.hold hD) (fun i H' hi p => ?_) (fun H' p => ?_)⟩
      · have hd := rng_at (lo := lo) hi
        exact lc_step s1.hold hD (hE.step s1) (by rw [rng_len]; exact q5) hd (ht _ (List.mem_of_getElem? hd)) p (.int _)
      · have p' : LcInv ex.T X.K M1 H1 D (((rng lo (hi - lo).toNat).take (rng lo (hi - lo).toNat).length).filterMap f) H' := by rw [rng_len]; exact p
        rw [List.take_length] at p'
        obtain ⟨s2, r2⟩ := lc_end s1.hold hD p'
        exact kv _ _ M1 H' hq (s1.trans s2) r2
theorem ev_lcR1 (hc : X.calm = true) (hN : X.N.Nodup) (hg : BltOk X "range") (hB : BlkOk X.N X.env.scope scope [(x, j)]) (hl : ∀ s H C cl fp, LocOk (bX X scope s H C cl fp) j x) (he : isStar b = false) (f : PyData → Option PyData)
    (h : Ea X ex [b] ρ M fun ds M1 => ∃ hi : Int, ds = [.d (.int hi)] ∧ (-(2 ^ 62) ≤ hi ∧ hi < 2 ^ 62 ∧ hi.toNat ≤ 100000) ∧ (∀ d ∈ rng 0 hi.toNat, LcTurn ex.T X scope elt ifs f ρ j d) ∧ q (.d (.list ((rng 0 hi.toNat).filterMap f))) M1) :
    Ev X ex (.ListComp elt [⟨.Name x px, .Call (.Name "range" rp) [b] [] p, ifs, 0⟩] scope pos) ρ M q := by
  refine ⟨fun W tk σ H hM hE Q kv kx => ?_⟩
  have e2 : starEach [b] X.env = [(false, eval b X.env)] := by rw [star_ok he]; simp only [starEach]
  refine wE_of (pe_lcw hc hN (pi_range1 hg.gl hg.mg pa_w e2) hB hl rfl) ?_
  refine h.run W tk σ H hM hE _ (fun vs dvs M1 H1 ⟨hi, e3, ⟨q3, q4, q5⟩, ht, hq⟩ s1 r1 => ?_) kx
  subst e3
  cases r1 with
  | cons rb rn =>
    cases rn
    cases rb
    refine ⟨hi, rfl, q3, q4, fun D hD => lc_range (lo := 0) (n := hi.toNat) (fun i H' => LcInv ex.T X.K M1 H1 D (((rng 0 hi.toNat).take i).filterMap f) H') (lc_zero s1.hold hD) (fun i H' hi p => ?_) (fun H' p => ?_)⟩
    · have hd := rng_at (lo := 0) hi
      exact lc_step s1.hold hD (hE.step s1) (by rw [rng_len]; exact q5) hd (ht _ (List.mem_of_getElem? hd)) p (.int _)
    · have p' : LcInv ex.T X.K M1 H1 D (((rng 0 hi.toNat).take (rng 0 hi.toNat).length).filterMap f) H' := by rw [rng_len]; exact p
      rw [List.take_length] at p'
      obtain ⟨s2, r2⟩ := lc_end s1.hold hD p'
      exact kv _ _ M1 H' hq (s1.trans s2) r2
end
/-! the block's names, by the def's facts -/
section
variable {X : Cx} {P : Program} {w : World} {K : PySem.W.Frag} {mg : Str → Option Value} {base : Heap} {n : Nat} {N : List Str} {sc scope : Scope} {s : Shared} {H : Hp} {C0 : Addr} {cl : List (Str × Addr)} {fp : List Addr}
theorem Cok.bscope (C : Cok X P w K mg base n N sc) : (bX X scope s H C0 cl fp).env.scope = relS scope sc := by
  show relS scope X.env.scope = _
  rw [C.sc]
theorem Cok.bvar (C : Cok X P w K mg base n N sc) (i : Nat) {x : Str} (hN : N[i]? = some x := by rfl) (hv : Vis (relS scope sc) x := by first | exact Or.inl rfl | exact Or.inr (Or.inl rfl) | exact Or.inr (Or.inr rfl)) (hd : (x == ("__debug__" : Str)) = false := by decide)
    (hcd : (x == ("__classdict__" : Str)) = false := by decide) : VarOk (bX X scope s H C0 cl fp) i x := ⟨by show X.N[i]? = _; rw [C.N]; exact hN, by rw [C.bscope]; exact hv, hd, hcd⟩
theorem Cok.bloc (C : Cok X P w K mg base n N sc) (i : Nat) {x : Str} (hN : N[i]? = some x := by rfl) (hv : (relS scope sc).names.lookup x = some .local := by rfl) : LocOk (bX X scope s H C0 cl fp) i x := ⟨by show X.N[i]? = _; rw [C.N]; exact hN, by rw [C.bscope]; exact .inl hv, .inr (by rw [C.bscope]; exact hv)⟩
theorem Cok.bgl (C : Cok X P w K mg base n N sc) {x : Str} (h : (relS scope sc).names.lookup x = some .globalImplicit := by rfl) : Gl (bX X scope s H C0 cl fp) x := by
  show (bX X scope s H C0 cl fp).env.scope.names.lookup x = _
  rw [C.bscope]
  exact h
theorem Cok.blk (C : Cok X P w K mg base n N sc) {own : List (Str × Nat)} (h : blkC N sc scope own = true := by decide +kernel) : BlkOk X.N X.env.scope scope own := by
  rw [C.N, C.sc]
  exact blkOk_by h
end
end G
/-! G7: what may be written: dicts and lists that stand in M. -/
namespace G
open PySem PySem.Spec PyProof.Rows L2
/-- a value as it stands -/
def dvV : V → DV
  | .non => .d .none
  | .bl b => .d (.bool b)
  | .int i => .d (.int i)
  | .str s => .d (.str s)
  | u => .v u
theorem dvV_rp {K : PySem.W.Frag} {M H : Hp} (v : V) : Rp K M H v (dvV v) := by
  cases v <;> first | exact Dq.non | exact Dq.bl _ | exact Dq.int _ | exact Dq.str _ | rfl
theorem dvV_inj {K : PySem.W.Frag} {M H : Hp} {v u : V} (h : Rp K M H u (dvV v)) : u = v := by
  cases v <;> first | (cases h; rfl) | exact h
def keyD : Key → PyData
  | .inl i => .int i
  | .inr s => .str s
theorem keyD_kV {K : PySem.W.Frag} {M H : Hp} {v : V} {k : Key} (h : Rp K M H v (.d (keyD k))) : v = kV k := by
  cases k <;> (cases h; rfl)
section
variable {X : Cx} {ex : XP} {ρ : Env'} {M : MM} {q : DV → MM → Prop} {a b e v1 v2 v3 v4 : Expr} {ss : List Stmt} {Po : Post} {pos apos : Pos} {n : Nat}
theorem ev_dget (hr : Room n X.A) (hs : NoSl b) (h : Ev X ex a ρ M fun da M1 => ∃ p, da = .v (.ref p) ∧ Ev X ex b ρ M1 fun db M2 => ∃ kvs k v, M2 p = some (.dK kvs) ∧ db = .d (keyD k) ∧ valV kvs k = some v ∧ q (dvV v) M2) : Ev X ex (.Subscript a b pos) ρ M q := by
  refine ⟨fun W tk σ H hM hE Q kv kx => ?_⟩
  refine wE_of (pe_dget (hu_of hr) pe_w pe_w hs) ?_
  refine h.run W tk σ H hM hE _ (fun x da M1 H1 ⟨p, e1, h1⟩ s1 r1 => ?_) kx
  subst e1
  cases r1
  refine h1.run W tk σ H1 s1.hold (hE.step s1) _ (fun y db M2 H2 ⟨kvs, k, v, e2, e3, e4, hq⟩ s2 r2 => ?_) (kx.step s1)
  subst e3
  have ey := keyD_kV r2
  subst ey
  refine ⟨p, v, rfl, ?_, kv _ _ M2 H2 hq (s1.trans s2) (dvV_rp v)⟩
  rw [← e4]
  exact DGet.k (s2.hold.m _ _ e2)
theorem run_dput (hr : Room n X.A) {spos : Pos} (h : Ev X ex e ρ M fun dv M1 => Ev X ex a ρ M1 fun da M2 => ∃ p, da = .v (.ref p) ∧ Ev X ex b ρ M2 fun db M3 => ∃ kvs k v, M3 p = some (.dK kvs) ∧ db = .d (keyD k) ∧ dv = dvV v ∧ kvs.length < 1000 ∧ Run X ex ss ρ (upd M3 p (.dK (putK kvs k v))) Po)
    (hs : isCompr e = false) : Run X ex (.Assign [.Subscript a b spos] e pos :: ss) ρ M Po := by
  refine ⟨fun W tk σ H hM hE D kr kx => ?_⟩
  refine wS_of (pss_cons (ps_dput (hu_of hr) pe_w pe_w pe_w (swaps_ok hs)) pss_w) ?_
  refine h.run W tk σ H hM hE _ (fun u dv M1 H1 h1 s1 r1 => ?_) kx
  refine h1.run W tk σ H1 s1.hold (hE.step s1) _ (fun x da M2 H2 ⟨p, e1, h2⟩ s2 r2 => ?_) (kx.step s1)
  subst e1
  cases r2
  have s12 := s1.trans s2
  refine h2.run W tk σ H2 s2.hold (hE.step s12) _ (fun y db M3 H3 ⟨kvs, k, v, e2, e3, e4, hl, hq⟩ s3 r3 => ?_) (kx.step s12)
  subst e3
  have ey := keyD_kV r3
  subst ey
  subst e4
  have eu := dvV_inj r1
  subst eu
  have s13 := s12.trans s3
  have w := Step.write (o' := .dK (putK kvs k u)) s3.hold e2 rfl
  refine ⟨p, _, rfl, DPut.k (s3.hold.m _ _ e2) (small1000 (by omega)), ?_⟩
  exact hq.run W tk σ _ w.hold (hE.step (s13.trans w)) D (kr.step (s13.trans w)) (kx.step (s13.trans w))
theorem ev_popAt (h : Ev X ex a ρ M fun da M1 => ∃ l xs, da = .v (.ref l) ∧ M1 l = some (.lst xs) ∧ Ev X ex b ρ M1 fun db M2 => ∃ ys i k y, M2 l = some (.lst ys) ∧ db = .d (.int i) ∧ -(2 ^ 63) ≤ i ∧ i < 2 ^ 63 ∧ seqIndex? i ys.length = some k ∧ ys[k]? = some y ∧ q (dvV y) (upd M2 l (.lst (ys.eraseIdx k))))
    (he : isStar b = false) (hbase : attributeBase a "pop" X.env (eval a X.env) = eval a X.env) (hline : (apos.endLine == pos.line) = true) : Ev X ex (.Call (.Attribute a "pop" apos) [b] [] pos) ρ M q := by
  refine ⟨fun W tk σ H hM hE Q kv kx => ?_⟩
  have hs : starEach [b] X.env = (false, eval b X.env) :: starEach [] X.env := star_ok he
  refine wE_of (pe_bm PySem.F.plainAttrs_list PySem.F.slot_list_pop PySem.F.type_list_pop mt_popAt pe_w pa_w hbase ?_ hline hs (by simp only [starEach, backTo, List.map_nil, List.any_nil])) ?_
  · rw [hs]
    simp [starEach, keywordEach, backTo, backToKw]
  refine h.run W tk σ H hM hE _ (fun x da M1 H1 ⟨l, xs, e1, e0, h1⟩ s1 r1 => ?_) kx
  subst e1
  cases r1
  refine ⟨.inl ⟨rfl, _, SqL.of (s1.hold.m _ _ e0)⟩, ?_⟩
  have ha : Ea X ex [b] ρ M1 fun ds M2 => ∃ db, ds = [db] ∧ ∃ ys i k y, M2 l = some (.lst ys) ∧ db = .d (.int i) ∧ -(2 ^ 63) ≤ i ∧ i < 2 ^ 63 ∧ seqIndex? i ys.length = some k ∧ ys[k]? = some y ∧ q (dvV y) (upd M2 l (.lst (ys.eraseIdx k))) :=
    ea_cons ⟨fun W tk σ H hM hE Q kv kx => h1.run W tk σ H hM hE Q (fun v dv M' H' hh s r => kv v dv M' H' (ea_nil ⟨dv, rfl, hh⟩) s r) kx⟩ he
  refine ha.run W tk σ H1 s1.hold (hE.step s1) _ (fun ys ds M2 H2 ⟨db, e2, zs, i, k, y, g1, g2, g3, g4, g5, g6, hq⟩ s2 r2 => ?_) (kx.step s1)
  subst e2
  subst g2
  cases r2 with
  | cons ra rn =>
    cases rn
    cases ra
    have w := Step.write (o' := .lst (zs.eraseIdx k)) s2.hold g1 rfl
    exact ⟨l, zs, i, k, y, rfl, rfl, s2.hold.m _ _ g1, g3, g4, g5, g6, kv _ _ _ _ hq ((s1.trans s2).trans w) (dvV_rp y)⟩
theorem ints_dp {K : PySem.W.Frag} {H : Hp} : ∀ ns : List Int, DpAll K H (ns.map V.int) (ns.map PyData.int)
  | [] => .nil
  | n :: ns => .cons (.int n) (ints_dp ns)
theorem ints_depth : ∀ ns : List Int, PyData.depthAll (ns.map PyData.int) = 0
  | [] => by simp [PyData.depthAll]
  | n :: ns => by simp [PyData.depthAll, PyData.depth, ints_depth ns]
theorem ints_lay : ∀ ns : List Int, PyData.canLayAll0 (ns.map PyData.int) = true
  | [] => by simp [PyData.canLayAll0]
  | n :: ns => by simp [PyData.canLayAll0, PyData.canLay0, ints_lay ns]
theorem ints_shaped (ns : List Int) : SeqAt.shaped (.list (ns.map PyData.int)) = true := by
  show (PyData.canLay0 (.list (ns.map PyData.int)) && decide (PyData.depth (.list (ns.map PyData.int)) ≤ 64)) = true
  rw [Bool.and_eq_true]
  refine ⟨by simp only [PyData.canLay0]; exact ints_lay ns, decide_eq_true ?_⟩
  simp only [PyData.depth]
  rw [ints_depth]
  decide
theorem rr_neML {T : List (Addr × Str)} {K : PySem.W.Frag} {l : Addr} {ns : List Int} (hl : M l = some (.lst (ns.map V.int))) (k : q (.d (.bool (!ns.isEmpty))) M) : RR T K (rNeU K) (.v (.ref l)) (.d (.list [])) M q := ⟨fun x y H Q hM r1 r2 kv => by
  cases r1
  refine .inl ⟨.list (ns.map PyData.int), .list [], .lst (SqL.of (hM.m _ _ hl)) (ints_dp ns), r2.dp, ints_shaped ns, rfl, ?_⟩
  have e : PyData.eqv (.list (ns.map PyData.int)) (.list []) = ns.isEmpty := by
    cases ns <;> simp [PyData.eqv, PyData.eqvAll]
  rw [e]
  exact kv _ _ M H k (Step.refl hM) (.bl _)⟩
/-- four texts as keys -/
theorem ev_disp4 {k1 k2 k3 k4 : Str} {j1 j2 j3 j4 : Nat} {p1 p2 p3 p4 : Pos} (hk : ∀ x1 x2 x3 x4 : V, mergeK [] [(Sum.inr k1, x1), (Sum.inr k2, x2), (Sum.inr k3, x3), (Sum.inr k4, x4)] = [(Sum.inr k1, x1), (Sum.inr k2, x2), (Sum.inr k3, x3), (Sum.inr k4, x4)])
    (h : ∀ p, M p = none → Ev X ex v1 ρ (upd M p (.dK [])) fun d1 M1 => Ev X ex v2 ρ M1 fun d2 M2 => Ev X ex v3 ρ M2 fun d3 M3 => Ev X ex v4 ρ M3 fun d4 M4 => M4 p = some (.dK []) ∧ ∃ x1 x2 x3 x4, d1 = dvV x1 ∧ d2 = dvV x2 ∧ d3 = dvV x3 ∧ d4 = dvV x4 ∧ q (.v (.ref p)) (upd M4 p (.dK [(Sum.inr k1, x1), (Sum.inr k2, x2), (Sum.inr k3, x3), (Sum.inr k4, x4)]))) :
    Ev X ex (.Dict [some (.Constant (.str k1) j1 p1), some (.Constant (.str k2) j2 p2), some (.Constant (.str k3) j3 p3), some (.Constant (.str k4) j4 p4)] [v1, v2, v3, v4] pos) ρ M q := by
  refine ⟨fun W tk σ H hM hE Q kv kx => ?_⟩
  refine wE_of (pe_disp (pps_cons pe_str pe_w (pps_cons pe_str pe_w (pps_cons pe_str pe_w (pps_cons pe_str pe_w pps_nil)))) rfl rfl (fun z => by cases z) (Nat.le_of_ble_eq_true rfl)) ?_
  intro p hp
  have hm : M p = none := hM.none hp
  have s0 : Step ex.T M H (upd M p (.dK [])) (upd H p (.dK [])) := Step.newmut hM hp
  refine (h p hm).run W tk σ _ s0.hold (hE.step s0) _ (fun u1 d1 M1 H1 h1 s1 r1 => ?_) (kx.step s0)
  refine h1.run W tk σ _ s1.hold (hE.step (s0.trans s1)) _ (fun u2 d2 M2 H2 h2 s2 r2 => ?_) (kx.step (s0.trans s1))
  have s02 := (s0.trans s1).trans s2
  refine h2.run W tk σ _ s2.hold (hE.step s02) _ (fun u3 d3 M3 H3 h3 s3 r3 => ?_) (kx.step s02)
  have s03 := s02.trans s3
  refine h3.run W tk σ _ s3.hold (hE.step s03) _ (fun u4 d4 M4 H4 ⟨e0, x1, x2, x3, x4, e1, e2, e3, e4, hq⟩ s4 r4 => ?_) (kx.step s03)
  subst e1 e2 e3 e4
  have z1 := dvV_inj r1
  have z2 := dvV_inj r2
  have z3 := dvV_inj r3
  have z4 := dvV_inj r4
  subst z1 z2 z3 z4
  refine ⟨s4.hold.m _ _ e0, [(Sum.inr k1, u1), (Sum.inr k2, u2), (Sum.inr k3, u3), (Sum.inr k4, u4)], rfl, Nat.le_of_ble_eq_true rfl, ?_⟩
  rw [hk]
  exact kv _ _ _ _ hq ((s03.trans s4).trans (Step.write s4.hold e0 rfl)) rfl
end
/-! a list comprehension whose list may be written afterwards -/
section
variable {X : Cx} {ex : XP} {scope : Scope} {elt iter a b : Expr} {ifs : List Expr} {f : PyData → Option PyData} {ρ : Env'} {M : MM} {q : DV → MM → Prop} {j : Nat} {x y : Str} {px py pos rp p spos : Pos} {ss : List Stmt} {Po : Post}
theorem lcL_read {W : WX} (tk : Takes X W) {σ : L2.St} {H : Hp} (hM : Hold ex.T M H) (hE : EnvOk X.K M H σ ρ) {Q : VK} (kx : Kx M H ex W) {R : List PyData → MM → Prop}
    (h : Ev X ex iter ρ M fun dv M1 => ∃ ds, (dv = .d (.list ds) ∨ dv = .r ds) ∧ ds.length ≤ 100000 ∧ (∀ d ∈ ds, LcTurn ex.T X scope elt ifs f ρ j d) ∧ R ds M1)
    (kQ : ∀ ds M1 H1 D H', R ds M1 → Step ex.T M H M1 H1 → H1 D = none → LcInv ex.T X.K M1 H1 D (ds.filterMap f) H' → Q (.ref D) H') : tLc (iList X.K (wE X iter)) (gName j) (tIfs X scope ifs) (tElt X scope elt) [j] σ H Q := by
  refine h.run W tk σ H hM hE _ (fun v dv M1 H1 ⟨ds, e1, hlen, ht, hq⟩ s1 r1 => ?_) kx
  obtain ⟨a, xs, rfl, g1, g2⟩ : ∃ a xs, v = .ref a ∧ SqL X.K (off M1 H1) a xs ∧ DqAll X.K (off M1 H1) xs ds := by
    rcases e1 with e1 | e1
    · subst e1
      cases r1 with
      | lst g1 g2 => exact ⟨_, _, rfl, SqL.of g1, g2⟩
    · subst e1
      exact r1
  refine ⟨a, rfl, ⟨xs, off_same.seq g1⟩, fun D hD => lc_list (xs := xs) (fun i H' => LcInv ex.T X.K M1 H1 D ((ds.take i).filterMap f) H') (lc_zero s1.hold hD) (fun i H' _ p => (p.sub s1.hold hD).seq g1) (fun i v H' hi p => ?_) (fun H' p => ?_)⟩
  · obtain ⟨d, hd, rd⟩ := g2.get' hi
    exact lc_step s1.hold hD (hE.step s1) hlen hd (ht d (List.mem_of_getElem? hd)) p rd
  · rw [g2.length, List.take_length] at p
    exact kQ ds M1 H1 D H' hq s1 hD p
theorem lc_endM {T : List (Addr × Str)} {K : PySem.W.Frag} {M1 H1 H : Hp} {D : Addr} {ns : List Int} (hM : Hold T M1 H1) (hD : H1 D = none) (p : LcInv T K M1 H1 D (ns.map PyData.int) H) : M1 D = none ∧ Step T M1 H1 (upd M1 D (.lst (ns.map V.int))) H := by
  obtain ⟨vs, s1, ra⟩ := p
  have e := ra.ints
  subst e
  exact ⟨hM.none hD, (Step.newmut hM hD).trans s1⟩
theorem ev_lcLM (hc : X.calm = true) (hN : X.N.Nodup) (hB : BlkOk X.N X.env.scope scope [(x, j)]) (hl : ∀ s H C cl fp, LocOk (bX X scope s H C cl fp) j x) (hz : isSetD iter = false) (f : PyData → Option PyData)
    (h : Ev X ex iter ρ M fun dv M1 => ∃ ds, (dv = .d (.list ds) ∨ dv = .r ds) ∧ ds.length ≤ 100000 ∧ (∀ d ∈ ds, LcTurn ex.T X scope elt ifs f ρ j d) ∧ ∃ ns : List Int, ds.filterMap f = ns.map PyData.int ∧ ∀ D, M1 D = none → q (.v (.ref D)) (upd M1 D (.lst (ns.map V.int)))) : Ev X ex (.ListComp elt [⟨.Name x px, iter, ifs, 0⟩] scope pos) ρ M q := by
  refine ⟨fun W tk σ H hM hE Q kv kx => ?_⟩
  refine wE_of (pe_lcw hc hN (pi_list pe_w) hB hl hz) ?_
  refine lcL_read tk hM hE kx h fun ds M1 H1 D H' ⟨ns, e1, hq⟩ s1 hD p => ?_
  rw [e1] at p
  obtain ⟨hm, s2⟩ := lc_endM s1.hold hD p
  exact kv _ _ _ _ (hq D hm) (s1.trans s2) rfl
/-- y = [..] on one line -/
theorem ps_lcw {wi : TI} {i : Nat} (hc : X.calm = true) (hN : X.N.Nodup) (hy : LocOk X i y) (hyl : X.env.scope.names.lookup y = some .local) (hsw : swapsWith (.ListComp elt [⟨.Name x px, iter, ifs, 0⟩] scope pos) (some (.Name y py)) spos.line X.env = pure true)
    (hi : PI X (.Name x px) iter wi) (hB : BlkOk X.N X.env.scope scope [(x, j)]) (hl : ∀ s H C cl fp, LocOk (bX X scope s H C cl fp) j x) (hz : isSetD iter = false) :
    PS X (.Assign [.Name y py] (.ListComp elt [⟨.Name x px, iter, ifs, 0⟩] scope pos) spos) (tAsg (tLc wi (gName j) (tIfs X scope ifs) (tElt X scope elt) [j]) (gName i)) :=
  ps_setLc (own := [(x, j)]) hc hN hy.ix hyl hsw hi hB (fun s H C cl fp => pg_name hN (hl s H C cl fp).ix (hl s H C cl fp).loc (hl s H C cl fp).fn) (fun s H C cl fp => ⟨fun pins s' σ H' Q I h => h s H C cl fp pins s' I⟩) (fun s H C cl fp => ⟨fun pins s' σ H' Q I h => h s H C cl fp pins s' I⟩) (fun _ => noset_ok hz)
end
section
variable {X : Cx} {P : Program} {w : World} {K : PySem.W.Frag} {mg : Str → Option Value} {base : Heap} {n : Nat} {N : List Str} {sc scope : Scope} {ex : XP} {elt iter a b : Expr} {ifs : List Expr} {f : PyData → Option PyData} {ρ : Env'} {M : MM} {j i : Nat} {x y : Str} {px py pos rp p spos : Pos} {ss body : List Stmt} {Po : Post}
theorem Cok.sw (C : Cok X P w K mg base n N sc) (hk : sc.kind = .function := by rfl) (hy : sc.names.lookup y = some .local := by rfl) (hl : (py.line == pos.line) = true := by rfl) (ha : (scope.names.any fun (n, k) => n == y && (k == .local || k == .cell)) = false := by decide +kernel) :
    swapsWith (.ListComp elt [⟨.Name x px, iter, ifs, 0⟩] scope pos) (some (.Name y py)) spos.line X.env = pure true := sw_true (by rw [C.sc]; exact hk) (by rw [C.sc]; exact hy) hl ha
theorem run_lcLM (C : Cok X P w K mg base n N sc) (hy : LocOk X i y) (hyl : sc.names.lookup y = some .local) (hsw : swapsWith (.ListComp elt [⟨.Name x px, iter, ifs, 0⟩] scope pos) (some (.Name y py)) spos.line X.env = pure true)
    (hB : BlkOk X.N X.env.scope scope [(x, j)]) (hl : ∀ s H C cl fp, LocOk (bX X scope s H C cl fp) j x) (hz : isSetD iter = false) (f : PyData → Option PyData)
    (h : Ev X ex iter ρ M fun dv M1 => ∃ ds, (dv = .d (.list ds) ∨ dv = .r ds) ∧ ds.length ≤ 100000 ∧ (∀ d ∈ ds, LcTurn ex.T X scope elt ifs f ρ j d) ∧ ∃ ns : List Int, ds.filterMap f = ns.map PyData.int ∧ ∀ D, M1 D = none → Run X ex ss (ρ.set i (some (.v (.ref D)))) (upd M1 D (.lst (ns.map V.int))) Po) :
    Run X ex (.Assign [.Name y py] (.ListComp elt [⟨.Name x px, iter, ifs, 0⟩] scope pos) spos :: ss) ρ M Po := by
  refine ⟨fun W tk σ H hM hE D kr kx => ?_⟩
  refine wS_of (pss_cons (ps_lcw C.calm C.nod hy (C.lookup hyl) hsw (pi_list pe_w) hB hl hz) pss_w) ?_
  show tLc _ _ _ _ _ σ H fun v H' => wS X ss D (σ.set i (some v)) H'
  refine lcL_read tk hM hE kx h fun ds M1 H1 A H' ⟨ns, e1, hq⟩ s1 hD p => ?_
  rw [e1] at p
  obtain ⟨hm, s2⟩ := lc_endM s1.hold hD p
  have s12 := s1.trans s2
  exact (hq A hm).run W tk _ H' s12.hold ((hE.step s12).set (dv := .v (.ref A)) rfl) D (kr.step s12) (kx.step s12)
theorem run_lcL (C : Cok X P w K mg base n N sc) (hy : LocOk X i y) (hyl : sc.names.lookup y = some .local) (hsw : swapsWith (.ListComp elt [⟨.Name x px, iter, ifs, 0⟩] scope pos) (some (.Name y py)) spos.line X.env = pure true)
    (hB : BlkOk X.N X.env.scope scope [(x, j)]) (hl : ∀ s H C cl fp, LocOk (bX X scope s H C cl fp) j x) (hz : isSetD iter = false) (f : PyData → Option PyData)
    (h : Ev X ex iter ρ M fun dv M1 => ∃ ds, (dv = .d (.list ds) ∨ dv = .r ds) ∧ ds.length ≤ 100000 ∧ (∀ d ∈ ds, LcTurn ex.T X scope elt ifs f ρ j d) ∧ Run X ex ss (ρ.set i (some (.d (.list (ds.filterMap f))))) M1 Po) :
    Run X ex (.Assign [.Name y py] (.ListComp elt [⟨.Name x px, iter, ifs, 0⟩] scope pos) spos :: ss) ρ M Po := by
  refine ⟨fun W tk σ H hM hE D kr kx => ?_⟩
  refine wS_of (pss_cons (ps_lcw C.calm C.nod hy (C.lookup hyl) hsw (pi_list pe_w) hB hl hz) pss_w) ?_
  show tLc _ _ _ _ _ σ H fun v H' => wS X ss D (σ.set i (some v)) H'
  refine lcL_read tk hM hE kx h fun ds M1 H1 A H' hq s1 hD p => ?_
  obtain ⟨s2, r2⟩ := lc_end s1.hold hD p
  have s12 := s1.trans s2
  exact hq.run W tk _ H' s12.hold ((hE.step s12).set (dv := .d _) r2) D (kr.step s12) (kx.step s12)
/-- for over a list of ints that stands in M -/
theorem run_forM {tg : Expr} {ns : List Int} {l : Addr} (C : Cok X P w K mg base n N sc) (I : Nat → Env' → MM → Prop) (h : Ev X ex iter ρ M fun dv M1 => dv = .v (.ref l) ∧ I 0 ρ M1) (hl : ∀ i ρ' M', I i ρ' M' → M' l = some (.lst (ns.map V.int)))
    (hs : ∀ i d ρ' M', ns[i]? = some d → I i ρ' M' → Turn1 X ex tg body ss Po I i (.int d) ρ' M') (hd : ∀ ρ' M', I ns.length ρ' M' → Run X ex ss ρ' M' Po) (hz : isSetD iter = false) : Run X ex (.For tg iter body [] pos :: ss) ρ M Po := by
  refine ⟨fun W tk σ H hM hE D kr kx => ?_⟩
  refine wS_of (pss_cons (ps_for C.pass C.calm (pi_list pe_w) pg_w pss_w (fun _ => noset_ok hz)) pss_w) ?_
  refine h.run W tk σ H hM hE _ (fun v dv M1 H1 ⟨e1, h0⟩ s1 r1 => ?_) kx
  subst e1
  cases r1
  refine ⟨l, rfl, ⟨_, SqL.of (s1.hold.m _ _ (hl 0 ρ M1 h0))⟩, for_list (xs := ns.map V.int) (fun i σ' H' => ∃ ρ' M', I i ρ' M' ∧ Step ex.T M1 H1 M' H' ∧ EnvOk X.K M' H' σ' ρ') ⟨ρ, M1, h0, Step.refl s1.hold, hE.step s1⟩ ?_ ?_ ?_⟩
  · rintro i σ' H' _ ⟨ρ', M', hI, s2, _⟩
    exact SqL.of (s2.hold.m _ _ (hl i ρ' M' hI))
  · rintro i x σ' H' hi ⟨ρ', M', hI, s2, hE'⟩
    rw [List.getElem?_map] at hi
    obtain ⟨d, hd', e⟩ := Option.map_eq_some_iff.mp hi
    subst e
    exact turn_run tk (hs i d ρ' M' hd' hI) s2 hE' (.int d) (kr.step s1) (kx.step s1)
  · rintro σ' H' ⟨ρ', M', hI, s2, hE'⟩
    rw [List.length_map] at hI
    exact (hd ρ' M' hI).run W tk σ' H' s2.hold hE' D (kr.step (s1.trans s2)) (kx.step (s1.trans s2))
end
end G
/-! G8: an error caught and handed back (try: f() / except E as n: return n); isinstance of it; lambdas; max, min of a tuple. -/
namespace G
open PySem PySem.Spec PyProof.Rows L2
section
variable {X : Cx} {pins : List (Addr × Obj)} {σ : L2.St} {H : Hp} {s : Shared}
/-- an object younger than the entry that nobody tracks is tracked -/
theorem track_exc {a : Addr} {oe : Obj} {vs : Array Value} {cls : Value} (I : Inv X pins σ H s) (ha : s.heap.get? a = some oe) (hz : Zc cls none oe) (hd : oe.data = .fields vs) (na : H a = none) (n0 : X.s_0.heap.get? a = none)
    (nL : a ≠ X.env.locals) (hp : ∀ p ∈ X.pn ++ pins, p.1 ≠ a) : Inv X pins σ (upd H a (ExV cls a)) s := by
  have ne0 : ∀ b o, X.s_0.heap.get? b = some o → b ≠ a := fun b o e z => by rw [z, n0] at e; cases e
  have neH : ∀ b o, H b = some o → b ≠ a := fun b o e => ne_of_none e na
  have old : ∀ b o, H b = some o → upd H a (ExV cls a) b = some o := fun b o e => by rw [upd_ne (neH b o e)]; exact e
  have neC : ∀ x c, X.env.cells.lookup x = some c → c ≠ a := fun x c e z => by
    obtain ⟨v, o, ho, hv⟩ := I.cell x c e
    rw [z, ha] at ho
    cases ho
    rw [hd] at hv
    cases hv
  refine { ok := I.ok, os := I.os, bare := I.bare, base := ?_, loc := I.loc, cell := I.cell, free := ?_, freeC := ?_, pin := ?_, hok := ?_, len := I.len }
  · exact { keep := I.base.keep, slot := I.base.slot, there := I.base.there,
            free := fun b o e n hx => by rw [upd_ne (ne0 b o e)]; exact I.base.free b o e n hx,
            tups := fun b xs e => old _ _ (I.base.tups b xs e), frzs := fun b o u e => old _ _ (I.base.frzs b o u e),
            tbls := fun b ps e => by obtain ⟨m, q⟩ := I.base.tbls b ps e; exact ⟨m, old _ _ q⟩ }
  · rw [upd_ne (Ne.symm nL)]
    exact I.free
  · intro x c e
    rw [upd_ne (neC x c e)]
    exact I.freeC x c e
  · intro p h
    obtain ⟨p1, p2, p3, p4, p5⟩ := I.pin p h
    exact ⟨p1, by rw [upd_ne (hp p h)]; exact p2, p3, p4, p5⟩
  · intro b o e
    by_cases hb : b = a
    · subst hb
      rw [upd_same] at e
      cases e
      exact ⟨⟨oe, vs, ha, hz, hd⟩, ⟨oe, ha⟩, fun _ _ ⟨o1, v1, q1, q2, q3⟩ k => ⟨o1, v1, k _ q1, q2, q3⟩⟩
    · rw [upd_ne hb] at e
      exact (I.hok b o e).stay (fun _ _ _ q => q) (fun c q => old _ _ q) fun c xs q => old _ _ q
end
/-- what is wished of an error that such a try catches -/
def wGive (K : PySem.W.Frag) (c : Value) (D : Ends) : WX := fun cls d _ H => PySem.W.exmOne K cls c = some true ∧ d = none ∧ ∀ a, H a = none → D.rt (.ref a) (upd H a (ExV cls a))
section
variable {X : Cx} {x n : Str} {c : Value} {i : Nat} {body : List Stmt} {np rp sp hp pos : Pos} {tb : WX → TS}
theorem ps_give (hs : X.stack = X.env :: X.outer) (hf : X.env.frame = some X.env.locals) (hN : X.N.Nodup) (hi : X.N[i]? = some n) (hln : X.env.kindOf n = some .local) (hc : Names X x c) (hx : X.ex = []) (hnd : (n == ("__debug__" : Str)) = false) (hnc : (n == ("__classdict__" : Str)) = false)
    (hb : ∀ (W : WX) (pn : List (Addr × Obj)) (xe : Value → Shared → Prop), Takes (X.tr pn xe) W → PassesOwn (model X.prog X.w) X.A X.env xe → PSs (X.tr pn xe) body (tb W)) :
    PS X (.Try body [.ExceptHandler (some (.Name x np)) (some n) [.Return (some (.Name n rp)) sp] hp] [] [] pos) (fun D σ H => tb (wGive X.K c D) D σ H) := by
  constructor
  intro pins s σ H D I h
  have ok := I.ok
  have fr : X.A.frames = some (X.env :: X.outer) := ok.frames.trans (congrArg some hs)
  apply wpAny_Try_except
  refine wpAny_mono ((hb (wGive X.K c D) (X.pn ++ pins) _ ?_ PassesOwn.looking).run [] s σ H D (I.toTry _) h) ?_ fun e s1 he => he
  · -- it is raised: landed, asked, stored, given back
    rintro u s2 ⟨a, B, sI, pn', σ2, H2, cls, d, rfl, J', nb, up, sky, na, os, ag, hyes, rfl, give⟩
    have J := J'.ofTry ok
    rw [show (X.tr (X.pn ++ pins) _).stack = X.env :: X.outer from hs] at sky
    show wpAny (model X.prog X.w) X.A (noteFrame (.ref a) X.env) _ _ _
    refine Sky.land Zc.steady fr hf sky fun h3 f3 u3 => ?_
    have back : ∀ h', B.StaysIn h' → sI.heap.UpToSlots h' → Inv X pins σ2 H2 { s2 with heap := h' } := fun h' k1 k2 => J.landed nb k1 k2 os ag
    obtain ⟨o3, v3, q1, q2, q3⟩ := f3.there
    have out : a ∉ frs (X.env :: X.outer) := fun hm => by
      obtain ⟨_, o', e', hno⟩ := f3.2.2.1.mem hm
      rw [q1] at e'
      cases e'
      exact hno _ q3
    have nL : a ≠ X.env.locals := fun z => out (List.mem_filterMap.mpr ⟨X.env, List.mem_cons_self, by rw [hf, z]⟩)
    have nF : a ∉ X.fs := fun hm => by
      obtain ⟨e, he, q⟩ := List.mem_filterMap.mp hm
      exact out (List.mem_filterMap.mpr ⟨e, List.mem_cons_of_mem _ he, q⟩)
    -- it is younger than the entry and than all that is pinned
    have young : sI.heap.get? a = none := by
      cases e : sI.heap.get? a with
      | none => rfl
      | some o =>
        have z := nb a o e (by rw [show (X.tr (X.pn ++ pins) _).stack = X.env :: X.outer from hs]; exact out)
        rw [f3.2.1] at z
        cases z
    have n0 : X.s_0.heap.get? a = none := by
      cases e : X.s_0.heap.get? a with
      | none => rfl
      | some o =>
        obtain ⟨o', z⟩ := J.base.there a o e (by rw [hx]; exact fun z => nomatch z)
        rw [young] at z
        cases z
    have npin : ∀ p ∈ X.pn ++ pins, p.1 ≠ a := fun p hp' z => by
      have w := (J.pin p hp').1
      rw [z, young] at w
      cases w
    have I3 := back h3 f3.1 (up.trans u3)
    have S3 := I3.suite q1 q3 na nL nF
    refine wpAny_handleBy_cons (codeAny_handlers_test ?_) (by intro q; cases q)
    have lk : PySem.W.Looks (model X.prog X.w) h3 (typeOf (.ref a)) cls := fun A Q E s k q => wpAny_typeOf_ref (k _ _ q1) (by rw [q2.1]; exact q)
    have em := PySem.W.exm_one (M := model X.prog X.w) I3.kIn lk hyes
    obtain ⟨hg, hdb, hm⟩ := hc
    have ask : ∀ {Q : Value → Shared → Prop} {E : Value → Shared → Prop}, Q c { s2 with heap := h3 } → wpAny (model X.prog X.w) (X.A.mark (some (.ref a))) (eval (.Name x np) X.env) Q E { s2 with heap := h3 } := fun q => by
      rcases hm with hm | ⟨hm, hv, hnn⟩
      · exact ld_glob (X := X.suite a ((a, o3) :: (X.pn ++ pins))) S3 hg hm q hdb
      · exact ld_blt (X := X.suite a ((a, o3) :: (X.pn ++ pins))) S3 hg hm hv q hnn hdb
    refine ask (em.here ?_)
    refine codeAny_handlers_suite_as (HandSPX.lands_againZ f3 fun h4 f4 u4 => ?_)
    have I4 := back h4 f4.1 ((up.trans u3).trans u4)
    obtain ⟨o4, v4, r1, r2, r3⟩ := f4.there
    have S4 := I4.suite r1 r3 na nL nF
    refine store_ok (X := X.suite a ((a, o4) :: (X.pn ++ pins))) (v := .ref a) S4 hN hi (.inl hln) rfl (fun s5 S5 => ?_) (.inr hln)
    have vis : Vis X.env.scope n := .inl hln
    have hi' : i < σ2.length := by rw [J.len]; exact (List.getElem?_eq_some_iff.mp hi).1
    have rd : PSs (X.suite a ((a, o4) :: (X.pn ++ pins))) [.Return (some (.Name n rp)) sp] (tRet (tVar i)) := pss_one (ps_ret (pe_var hi vis hnd hnc))
    refine wpAny_mono (rd.run [] s5 _ H2 { nx := fun _ _ => False, rt := fun v H' => v = .ref a ∧ H' = H2 } S5 ⟨.ref a, List.getElem?_set_self hi', rfl, rfl⟩) ?_ fun _ _ z => z.elim
    intro f s6 hsp
    cases f with
    | next => obtain ⟨_, _, _, q⟩ := hsp; exact q.elim
    | brk => obtain ⟨_, _, _, q⟩ := hsp; exact q.elim
    | cont => obtain ⟨_, _, _, q⟩ := hsp; exact q.elim
    | ret u =>
      obtain ⟨v6, σ6, H6, S6, r6, e1, e2⟩ := hsp
      subst e1
      subst e2
      have pa := S6.pin (a, o4) (List.mem_append_left _ List.mem_cons_self)
      have J6 : Inv X ((a, o4) :: pins) σ6 H6 s6 := (S6.unsuite ok).pins_of fun p hp' => by
        rcases List.mem_cons.mp hp' with e | e
        · rw [e]; exact pa
        · exact (S6.unsuite ok).pin p (List.mem_append_right _ e)
      refine gone_ok J6 hN hi hln fun s7 J7 => ?_
      have p7 := J7.pin (a, o4) (List.mem_append_right _ List.mem_cons_self)
      have J8 : Inv X pins (σ6.set i none) H6 s7 := J7.pins_of fun p hp' => J7.pin p (List.mem_append_right _ (List.mem_cons_of_mem _ hp'))
      exact ⟨.ref a, _, _, track_exc J8 p7.1 r2 r3 na n0 nL npin, r6, give a na⟩
  · intro f s1 hsp
    cases f with
    | next => obtain ⟨σ', H', J', q⟩ := hsp; exact wpAny_execs_nil ⟨σ', H', J'.ofTry ok, q⟩
    | brk => obtain ⟨σ', H', J', q⟩ := hsp; exact ⟨σ', H', J'.ofTry ok, q⟩
    | cont => obtain ⟨σ', H', J', q⟩ := hsp; exact ⟨σ', H', J'.ofTry ok, q⟩
    | ret u => obtain ⟨v, σ', H', J', r, q⟩ := hsp; exact ⟨v, σ', H', J'.ofTry ok, r, q⟩
end
end G
/-! ### a def that calls what it gets and hands back the error caught -/
namespace G
open PySem PySem.Spec PyProof.Rows L2 LamX
def TCau (K : PySem.W.Frag) (CS : Addr) : (XK → Hp → VK → Prop) → Hp → VK → Prop := fun tl H Q =>
  tl (fun cls d H' => PySem.W.exmOne K cls (.ref CS) = some true ∧ d = none ∧ ∀ a, H' a = none → Q (.ref a) (upd H' a (ExV cls a))) H (fun _ H' => Q .non H')
theorem caught_gives {X : Cx} {Ng : List Str} {x a e n q : Str} {sg : Scope} {g CS : Addr} {cdg : Value} {i j : Nat} {p1 p2 p3 p4 p5 p6 p7 p8 p9 p10 : Pos} (hNn : Ng.Nodup) (hi : Ng[i]? = some n) (hln : sg.names.lookup n = some .local) (hge : sg.names.lookup e = some .globalImplicit) (hme : X.mg e = some (.ref CS))
    (hde : (e == ("__debug__" : Str)) = false) (hnd : (n == ("__debug__" : Str)) = false) (hnc : (n == ("__classdict__" : Str)) = false) (h0 : ∀ f : Addr, (L2.start Ng [V.ref f])[0]? = some (some (V.ref f))) :
    GivesTo X Ng x sg g cdg [.Try [.Expr (.Call (.Name a p1) [] [] p2) p3] [.ExceptHandler (some (.Name e p4)) (some n) [.Return (some (.Name n p5)) p6] p7] [] [] p8, .Return (some (.Constant .none j p9)) p10] a q (TCau X.K CS) := by
  intro f c' s H Q tl act hc h
  have hgl : Gl (cxOf C8.CX0 X.prog X.w X.K X.mg X.base Ng x sg g cdg X.A X.stack s H C8.E0).nox e := hge
  have hkl : (cxOf C8.CX0 X.prog X.w X.K X.mg X.base Ng x sg g cdg X.A X.stack s H C8.E0).nox.env.kindOf n = some .local := hln
  refine ⟨_, pss_cons (ps_give (X := (cxOf C8.CX0 X.prog X.w X.K X.mg X.base Ng x sg g cdg X.A X.stack s H C8.E0).nox) (c := .ref CS)
      (tb := fun W D σ H => ∃ Ech : XK, (∀ cls d σ' H', Ech cls d H' → W cls d σ' H') ∧ σ[0]? = some (some (.ref f)) ∧ H c' = some (CodeO c' q) ∧ tl Ech H fun _ H' => D.nx σ H')
      rfl rfl hNn hi hkl ⟨hgl, hde, .inl hme⟩ rfl hnd hnc (fun W pn xe tk _ => ?_)) (pss_one (ps_ret pe_non)), ?_⟩
  · refine ⟨fun pins s' σ H' D I h' => ?_⟩
    obtain ⟨Ech, hW, h1, h2, h3⟩ := h'
    have hp := act W pn xe Ech p1 p2 tk hW
    have hq := pss_one (ps_expr (pos := p3) hp (swaps_ok rfl))
    exact hq.run pins s' σ H' D I ⟨h1, h2, h3⟩
  · exact ⟨fun cls d H' => PySem.W.exmOne X.K cls (.ref CS) = some true ∧ d = none ∧ ∀ a, H' a = none → Q (.ref a) (upd H' a (ExV cls a)), fun cls d σ' H' h => h, h0 f, hc, h⟩
end G
/-! ### x(lambda: body): what is caught is handed back -/
namespace G
open PySem PySem.Spec PyProof.Rows L2 LamX
/-- the def x hands back the errors of CS that its work raises -/
structure CauOk (X : Cx) (x : Str) (CS : Addr) : Prop where
  ok : ∃ (g : Addr) (pg : Arguments) (bg : List Stmt) (sg : Scope) (dV kV doc pm cdv ct oc : Value) (an od : Option Addr) (osl : Array (Option Value)) (Ng : List Str) (a : Str),
    X.mg x = some (.ref g) ∧ PySem.W.keepIn X.K (.ref g) = true ∧ X.K.lookup g = some ⟨oc, od, .func (PySem.W.fnOf x x pg bg sg dV kV doc pm an cdv ct), osl⟩ ∧ PySem.W.codeIn X.K cdv x = true ∧ L2.Binds X.K (PySem.W.fnOf x x pg bg sg dV kV doc pm an cdv ct) [a] [] ∧ FnScope Ng [a] sg ∧ Ng[0]? = some a ∧ Vis sg a ∧
    (∀ q : Str, GivesTo X Ng x sg g cdv bg a q (TCau X.K CS)) ∧ (a == ("__debug__" : Str)) = false ∧ (a == ("__classdict__" : Str)) = false
theorem takes_lam {X : Cx} {A : Around} {outer : List Env} {s : Shared} {H : Hp} {E : XK} {scope : Scope} {f c' : Addr} : Takes (lamCx X A outer s H E scope f c') (fun cls d _ H => E cls d H) := takes_of (X := lamCx X A outer s H E scope f c') rfl rfl rfl rfl
def tLamB (X : Cx) (scope : Scope) (body : Expr) (k : Nat) : XK → TE := fun E σ H Q => ∀ (A : Around) (outer : List Env) (s : Shared) (H0 : Hp) (f c' : Addr), Room k (A.deeper (lamEnv X scope s.heap.objs.size f c')) → wE (lamCx X A outer s H0 E scope f c') body σ H Q
theorem ev_caught {X : Cx} {ex : XP} {ρ : Env'} {M : MM} {q : DV → MM → Prop} {x : Str} {CS c Pt : Addr} {k : Nat} {params : Arguments} {body : Expr} {scope : Scope} {p lpos pos : Pos} (F : CauOk X x CS) (hg : Gl X x) (TB : TabB X.base X.mg c Pt) (hcode : X.env.code = .ref c)
    (hmT : (Pt, X.env.qual ++ "<lambda>") ∈ ex.T) (hu : ∀ p ∈ ex.T, p.1 = Pt → p.2 = X.env.qual ++ "<lambda>") (hr : Room (k + 2) X.A) (L : LamS X.env.scope scope) (hn : ∀ a ps, M a ≠ some (.tbl ps))
    (h : ∀ (A : Around) (outer : List Env) (s : Shared) (H : Hp) (E : XK) (f c' : Addr), Room k (A.deeper (lamEnv X scope s.heap.objs.size f c')) → Ev (lamCx X A outer s H E scope f c') ⟨fun C M' => PySem.W.exmOne X.K (.ref C) (.ref CS) = some true ∧ q (.e C) M', ex.T⟩ body ρ M fun _ M' => q (.d .none) M')
    (hdef : ∀ env, defaultsOf params env = ([], [])) (hbind : ∀ (q : Str) (cl : List (Str × Addr)) (pm cv ctv : Value), bindArgs (PySem.W.kla_fn "<lambda>" q params body scope cl pm cv ctv) ⟨[], []⟩ = pure []) (hdb : (x == ("__debug__" : Str)) = false) :
    Ev X ex (.Call (.Name x p) [.Lambda params body scope lpos] [] pos) ρ M q := by
  obtain ⟨g, pg, bg, sg, dV, kV, doc, pm, cdv, ct, oc, an, od, osl, Ng, a, h1, h2, h3, h4, h5, h6, h7, h8, h9, h10, h11⟩ := F.ok
  refine ⟨fun W tk σ H hM hE Q kv kx => ?_⟩
  refine wE_of (pe_lamcall (T := ex.T) (TT := TCau X.K CS) (t := tLamB X scope body k) hg h1 h2 h3 h4 h5 h6 h7 h8 (h9 _) TB hcode hmT hu hr L (hdef _) hbind (fun A outer s H E f c' hr' => ⟨fun pins s' σ' H' Q' I hh => hh A outer s H f c' hr' pins s' I⟩) hdb h10 h11) ?_
  refine ⟨hM.t, fun H1 eN hT1 => ?_⟩
  have s1 : Step ex.T M H M H1 := by
    refine ⟨⟨fun b o e => eN b o (hM.m b o e) (fun ps z => hn b ps (by rw [e, z])), hT1⟩, fun b o e nt => ?_⟩
    obtain ⟨e1, e2⟩ := of_off e
    exact off_of (eN b o e1 nt) e2
  intro A outer s H0 f c' hr'
  refine (h A outer s H0 _ f c' hr').run _ takes_lam σ H1 s1.hold (hE.step s1) _ (fun v dv M2 H2 hq s2 r2 => ?_) (fun C M2 H2 σ' hq s2 => ?_)
  · exact kv .non (.d .none) M2 H2 hq (s1.trans s2) .non
  · refine ⟨hq.1, rfl, fun a ha => ?_⟩
    have s3 := Step.alloc (o := ExV (.ref C) a) s2.hold ha
    exact kv (.ref a) (.e C) M2 _ hq.2 ((s1.trans s2).trans s3) ⟨a, rfl, Step.alloc_at s2.hold ha⟩
end G
/-! ### isinstance, errors held too; max and min of a tuple -/
namespace G
open PySem PySem.Spec PyProof.Rows L2
def rIsX (K : PySem.W.Frag) : List V → Hp → VK → Prop := fun xs H Q => rIsi K xs H Q ∨ ∃ (D a C : Addr) (b : Bool), xs = [.ref a, .ref C] ∧ H a = some (ExV (.ref D) a) ∧ ExcC K D ∧ PySem.W.kitOne K (.ref D) (.ref C) = some b ∧ Q (.bl b) H
theorem call_isX {X : Cx} : CallR X (.builtin "isinstance") (rIsX X.K) := by
  intro pins s σ H xs us Q I r h
  rcases h with h | ⟨D, a, C0, b, rfl, ha, C, e, q⟩
  · exact call_isi pins s σ H xs us Q I r h
  · cases r with
    | cons rx rr =>
      cases rr with
      | cons rt rr =>
        cases rr
        cases rx
        cases rt
        obtain ⟨⟨oe, vs, hget, hz, hv⟩, _, _⟩ := I.hok a _ ha
        have J : PySem.W.InstAt s.heap a oe D none := by
          obtain ⟨oc, od, oda, osl⟩ := oe
          obtain ⟨h1, h2⟩ := hz
          dsimp only at h1 h2 hv
          subst h1 h2 hv
          exact ⟨hget, rfl, rfl, trivial⟩
        exact PySem.W.kia_one (PySem.W.handS_kitx_exc C.hg C.hk C.hs C.hd C.ha C.hn C.ht C.hm) I.kIn J e (fun z => nomatch z) fun tk => ⟨.bl b, H, I.kept (t' := tk) fun _ _ z => z, rfl, q⟩
section
variable {T : List (Addr × Str)} {K : PySem.W.Frag} {M : MM} {q : DV → MM → Prop} {ds : List DV}
theorem rx_of (h : RC T K (rIsi K) ds M q) : RC T K (rIsX K) ds M q := ⟨fun vs H Q hM r kv => .inl (h.run vs H Q hM r kv)⟩
theorem rx_exc {D C : Addr} {b : Bool} (hc : ExcC K D) (he : PySem.W.kitOne K (.ref D) (.ref C) = some b) (k : q (.d (.bool b)) M) : RC T K (rIsX K) [.e D, .v (.ref C)] M q := ⟨fun vs H Q hM r kv => by
  cases r with
  | cons ra rt =>
    cases rt with
    | cons rb rn =>
      cases rn
      cases rb
      obtain ⟨a, rfl, h⟩ := ra
      exact .inr ⟨D, a, C, b, rfl, (of_off h).1, hc, he, kv _ _ M H k (Step.refl hM) (.bl b)⟩⟩
end
theorem ev_isx {X : Cx} {ex : XP} {ρ : Env'} {M : MM} {q : DV → MM → Prop} {e : Expr} {es : List Expr} {p pos : Pos} (hg : BltOk X "isinstance") (h : Ea X ex (e :: es) ρ M fun ds M1 => RC ex.T X.K (rIsX X.K) ds M1 q) (he : ((e :: es).all fun e => !isStar e) = true) : Ev X ex (.Call (.Name "isinstance" p) (e :: es) [] pos) ρ M q := ev_blt call_isX hg bb_isi h (he := he)
/-! max and min of a tuple of ints -/
def mxI (i : Int) (ns : List Int) : Int := PySem.W.maxOf i ns
def mnI (i : Int) (ns : List Int) : Int := PySem.W.minOf i ns
theorem mxI2 (i j : Int) : mxI i [j] = max i j := by
  show (if decide (i < j) = true then j else i) = max i j
  by_cases h : i < j
  · rw [if_pos (decide_eq_true h)]; omega
  · rw [if_neg (fun z => h (of_decide_eq_true z))]; omega
theorem mnI2 (i j : Int) : mnI i [j] = min i j := by
  show (if decide (j < i) = true then j else i) = min i j
  by_cases h : j < i
  · rw [if_pos (decide_eq_true h)]; omega
  · rw [if_neg (fun z => h (of_decide_eq_true z))]; omega
theorem mxI_cons (i j : Int) (ns : List Int) : mxI i (j :: ns) = mxI (max i j) ns := by
  have h := mxI2 i j
  show PySem.W.maxOf i (j :: ns) = PySem.W.maxOf (max i j) ns
  rw [← h]
  rfl
def rMaxT (K : PySem.W.Frag) : List V → Hp → VK → Prop := fun xs H Q => ∃ p i ns, xs = [.ref p] ∧ SqT K H p ((i :: ns).map V.int) ∧ Q (.int (mxI i ns)) H
def rMinT (K : PySem.W.Frag) : List V → Hp → VK → Prop := fun xs H Q => ∃ p i ns, xs = [.ref p] ∧ SqT K H p ((i :: ns).map V.int) ∧ Q (.int (mnI i ns)) H
theorem call_maxT {X : Cx} {k : Nat} (hr : Room k X.A) : CallR X (.builtin "max") (rMaxT X.K) := by
  intro pins s σ H xs us Q I r h
  obtain ⟨p, i, ns, rfl, hs, q⟩ := h
  obtain ⟨u, rfl, r1⟩ := vals1 r
  cases r1
  obtain ⟨its, rv, pt, hz⟩ := I.tuple hs
  refine PySem.W.max_tuple_datum (α := Int) (x := i) (xs := ns) hr.hd (show s.heap.IsTuple p its.toArray from pt) (PySem.W.HoldAll.of_ints (intsAre_of rv)) (by have := hr.un; show X.A.units + 1 + 0 < _; omega) fun j v h' tk hj hv k => ?_
  obtain ⟨t, rfl⟩ := PySem.W.int_of_holds hv
  exact ⟨.int (mxI i ns), H, I.kept k, ⟨t, rfl⟩, q⟩
theorem call_minT {X : Cx} {k : Nat} (hr : Room k X.A) : CallR X (.builtin "min") (rMinT X.K) := by
  intro pins s σ H xs us Q I r h
  obtain ⟨p, i, ns, rfl, hs, q⟩ := h
  obtain ⟨u, rfl, r1⟩ := vals1 r
  cases r1
  obtain ⟨its, rv, pt, hz⟩ := I.tuple hs
  refine PySem.W.min_tuple_datum (α := Int) (x := i) (xs := ns) hr.hd (show s.heap.IsTuple p its.toArray from pt) (PySem.W.HoldAll.of_ints (intsAre_of rv)) (by have := hr.un; show X.A.units + 1 + 0 < _; omega) fun j v h' tk hj hv k => ?_
  obtain ⟨t, rfl⟩ := PySem.W.int_of_holds hv
  exact ⟨.int (mnI i ns), H, I.kept k, ⟨t, rfl⟩, q⟩
section
variable {T : List (Addr × Str)} {K : PySem.W.Frag} {M : MM} {q : DV → MM → Prop}
theorem rc_maxT {ds : List PyData} {i : Int} {ns : List Int} (hd : ds = (i :: ns).map PyData.int) (k : q (.d (.int (mxI i ns))) M) : RC T K (rMaxT K) [.d (.tuple ds)] M q := ⟨fun vs H Q hM r kv => by
  cases r with
  | cons ra rn =>
    cases rn
    cases ra with
    | tup g1 g2 =>
      subst hd
      have e := g2.ints
      subst e
      exact ⟨_, i, ns, rfl, same_t off_same g1, kv _ _ M H k (Step.refl hM) (.int _)⟩⟩
theorem rc_minT {ds : List PyData} {i : Int} {ns : List Int} (hd : ds = (i :: ns).map PyData.int) (k : q (.d (.int (mnI i ns))) M) : RC T K (rMinT K) [.d (.tuple ds)] M q := ⟨fun vs H Q hM r kv => by
  cases r with
  | cons ra rn =>
    cases rn
    cases ra with
    | tup g1 g2 =>
      subst hd
      have e := g2.ints
      subst e
      exact ⟨_, i, ns, rfl, same_t off_same g1, kv _ _ M H k (Step.refl hM) (.int _)⟩⟩
theorem rc_maxT2 {i j : Int} (k : q (.d (.int (max i j))) M) : RC T K (rMaxT K) [.d (.tuple [.int i, .int j])] M q := rc_maxT (i := i) (ns := [j]) rfl (by rw [mxI2]; exact k)
theorem rc_minT2 {i j : Int} (k : q (.d (.int (min i j))) M) : RC T K (rMinT K) [.d (.tuple [.int i, .int j])] M q := rc_minT (i := i) (ns := [j]) rfl (by rw [mnI2]; exact k)
theorem rc_maxT4 {i j l m : Int} (k : q (.d (.int (max (max (max i j) l) m))) M) : RC T K (rMaxT K) [.d (.tuple ([.int i, .int j] ++ [.int l, .int m]))] M q := rc_maxT (i := i) (ns := [j, l, m]) rfl (by rw [mxI_cons, mxI_cons, mxI2]; exact k)
end
section
variable {X : Cx} {ex : XP} {ρ : Env'} {M : MM} {q : DV → MM → Prop} {e : Expr} {p pos : Pos} {k : Nat}
theorem ev_maxT (hr : Room k X.A) (hg : BltOk X "max") (h : Ea X ex [e] ρ M fun ds M1 => RC ex.T X.K (rMaxT X.K) ds M1 q) (he : ([e].all fun e => !isStar e) = true) : Ev X ex (.Call (.Name "max" p) [e] [] pos) ρ M q := ev_blt (call_maxT hr) hg bb_max h (he := he)
theorem ev_minT (hr : Room k X.A) (hg : BltOk X "min") (h : Ea X ex [e] ρ M fun ds M1 => RC ex.T X.K (rMinT X.K) ds M1 q) (he : ([e].all fun e => !isStar e) = true) : Ev X ex (.Call (.Name "min" p) [e] [] pos) ρ M q := ev_blt (call_minT hr) hg bb_min h (he := he)
theorem ev_max2 {e2 : Expr} (hc : X.calm = true) (hg : BltOk X "max") (h : Ea X ex [e, e2] ρ M fun ds M1 => RC ex.T X.K rMax2 ds M1 q) (he : ([e, e2].all fun e => !isStar e) = true) : Ev X ex (.Call (.Name "max" p) [e, e2] [] pos) ρ M q := ev_blt (call_max2' hc) hg bb_max h (he := he)
theorem ev_min2 {e2 : Expr} (hc : X.calm = true) (hg : BltOk X "min") (h : Ea X ex [e, e2] ρ M fun ds M1 => RC ex.T X.K rMin2 ds M1 q) (he : ([e, e2].all fun e => !isStar e) = true) : Ev X ex (.Call (.Name "min" p) [e, e2] [] pos) ρ M q := ev_blt (call_min2' hc) hg bb_min h (he := he)
end
end G
/-! ### calls by keywords alone, in the parameters' order -/
namespace G
open PySem PySem.Spec PyProof.Rows L2
structure FdK (P : Program) (w : World) (K : PySem.W.Frag) (mg : Str → Option Value) (base : Heap) (x : Str) (n : Nat) (R : RT) (ks : List Str) : Prop where
  ok : ∃ f fd, FnOk P w K mg base (L2.CX P w) n f fd ks (spG K R) ∧ mg x = some (.ref f) ∧ PySem.W.keepIn K (.ref f) = true ∧ ∀ (s : Shared) (ws : List Value), ws.length = ks.length → BindsTo s fd ⟨[], ks.zip ws⟩ (ks.zip ws)
theorem ev_callK2 {X : Cx} {ex : XP} {ρ : Env'} {M : MM} {q : DV → MM → Prop} {x k1 k2 : Str} {e1 e2 : Expr} {n : Nat} {R : RT} {p p1 p2 pos : Pos} (F : FdK X.prog X.w X.K X.mg X.base x n R [k1, k2]) (hr : Room n X.A) (hg : Gl X x) (h : Ev X ex e1 ρ M fun d1 M1 => Ev X ex e2 ρ M1 fun d2 M2 => R [d1, d2] M2 q ex)
    (hdb : (x == ("__debug__" : Str)) = false) : Ev X ex (.Call (.Name x p) [] [⟨some k1, e1, p1⟩, ⟨some k2, e2, p2⟩] pos) ρ M q := by
  refine ⟨fun W tk σ H hM hE Q kv kx => ?_⟩
  obtain ⟨f, fd, F, hm, hk, hb⟩ := F.ok
  intro pins s I
  refine wpAny_Call_Name_kw (ld_glob I hg hm ?_ hdb)
  refine PySem.W.callWith_KW0 (h₀ := X.base) I.ok.mod.kin hk rfl (thn ((pk_cons (nm := some k1) (kpos := p1) (pe_w (e := e1)) (pk_cons (nm := some k2) (kpos := p2) (pe_w (e := e2)) pk_nil)).run pos pins s σ H (fun zs H2 => spG X.K R zs H2 Q (WE W σ)) I ?_) fun ws s2 ⟨zs, H2, I2, rz, q2⟩ => ⟨I2.kIn, ?_⟩) rfl
  · refine h.run W tk σ H hM hE _ (fun v1 d1 M1 H1 h1 s1 r1 => ?_) kx
    refine h1.run W tk σ H1 s1.hold (hE.step s1) _ (fun v2 d2 M2 H2 h2 s2 r2 => ?_) (kx.step s1)
    exact ⟨[d1, d2], M2, q, ex, s2.hold, .cons (r1.step s2) (.cons r2 .nil), h2, kv.step (s1.trans s2), fun c M' H' hx s3 => (kx.step (s1.trans s2)) c M' H' σ hx s3⟩
  · have hl : ws.length = [k1, k2].length := by rw [← rz.length]; exact F.len _ _ _ _ q2
    refine wpAny_call (codeAny_mono (F.run X.A X.stack s2 H2 ⟨[], [k1, k2].zip ws⟩ ws zs Q (WE W σ) hr I2.env0 (hb s2 ws hl) rz q2) fun r s' hq => ?_)
    cases r with
    | error e => exact passAt tk σ pins H2 s2 e s' I2 hq
    | ok fl =>
      cases fl with
      | ret u => exact I2.after hq
      | next => exact False.elim hq
      | brk => exact False.elim hq
      | cont => exact False.elim hq
end G
/-! ### what kind of goal it is (for the walk) -/
namespace G
open PySem PySem.Spec PyProof.Rows L2
section
variable {X : Cx} {T : List (Addr × Str)} {K : PySem.W.Frag} {ex : XP} {e a b : Expr} {es : List Expr} {ss : List Stmt} {ρ : Env'} {M : MM} {q : DV → MM → Prop} {qt : Bool → MM → Prop} {qa : List DV → MM → Prop} {Po : Post} {r : R2} {u : V → Hp → VK → Prop} {l : List V → Hp → VK → Prop} {da db : DV} {ds : List DV} {x : Str} {pos p : Pos} {c : Const} {j : Nat} {op : Operator} {cop : CmpOp} {ops : List CmpOp} {kws : List Keyword}
theorem is_ev (h : Ev X ex e ρ M q) : Ev X ex e ρ M q := h
theorem is_et (h : Et X ex e ρ M qt) : Et X ex e ρ M qt := h
theorem is_ew (h : Ew X ex e ρ M qt) : Ew X ex e ρ M qt := h
theorem is_ea (h : Ea X ex es ρ M qa) : Ea X ex es ρ M qa := h
theorem is_run (h : Run X ex ss ρ M Po) : Run X ex ss ρ M Po := h
theorem is_rr (h : RR T K r da db M q) : RR T K r da db M q := h
theorem is_ru (h : RU T K u da M q) : RU T K u da M q := h
theorem is_rc (h : RC T K l ds M q) : RC T K l ds M q := h
theorem is_nm (h : Ev X ex (.Name x pos) ρ M q) : Ev X ex (.Name x pos) ρ M q := h
theorem is_ct (h : Ev X ex (.Constant c j pos) ρ M q) : Ev X ex (.Constant c j pos) ρ M q := h
theorem is_cp (h : Ev X ex (.Compare a ops es pos) ρ M q) : Ev X ex (.Compare a ops es pos) ρ M q := h
theorem is_bn (h : Ev X ex (.BinOp a op b pos) ρ M q) : Ev X ex (.BinOp a op b pos) ρ M q := h
theorem is_cl (h : Ev X ex (.Call (.Name x p) es kws pos) ρ M q) : Ev X ex (.Call (.Name x p) es kws pos) ρ M q := h
end
end G
/-! G9: names in blocks and lambdas; plain facts that the laws share. -/
namespace G
open PySem PySem.Spec PyProof.Rows L2
theorem Cok.fd {X : Cx} {P : Program} {w : World} {K : PySem.W.Frag} {mg : Str → Option Value} {base : Heap} {n k : Nat} {N : List Str} {sc : Scope} {x : Str} {R : RT} (C : Cok X P w K mg base n N sc) (F : Fd P w K mg base x k R) : Fd X.prog X.w X.K X.mg X.base x k R := by
  rw [C.prog, C.w, C.K, C.mg, C.base]
  exact F
/-- built-ins that the program's top leaves alone -/
structure Bt (mg : Str → Option Value) : Prop where
  abs_ : mg "abs" = none
  len_ : mg "len" = none
  isinstance_ : mg "isinstance" = none
  int_ : mg "int" = none
  bool_ : mg "bool" = none
  str_ : mg "str" = none
  tuple_ : mg "tuple" = none
  list_ : mg "list" = none
  all_ : mg "all" = none
  max_ : mg "max" = none
  min_ : mg "min" = none
  range_ : mg "range" = none
/-- a number, no truth -/
def itD : PyData → Bool
  | .int _ => true
  | _ => false
theorem itD_ok (x : PyData) : (isI x && !isB x) = itD x := by cases x <;> rfl
theorem gcd_step {h l : Int} (h0 : 0 ≤ h) (l0 : 0 ≤ l) : Int.gcd l (h % l) = Int.gcd h l := by
  obtain ⟨m, rfl⟩ := Int.eq_ofNat_of_zero_le h0
  obtain ⟨n, rfl⟩ := Int.eq_ofNat_of_zero_le l0
  show Nat.gcd n (m % n) = Nat.gcd m n
  rw [Nat.gcd_comm m n, Nat.gcd_rec n m, Nat.gcd_comm n (m % n)]
theorem sub_div {h l : Int} : h - h / l * l = h % l := by rw [Int.emod_def, Int.mul_comm]
theorem abs_nat (a : Int) : (if a < 0 then -a else a).natAbs = a.natAbs := by split <;> omega
theorem gcd_abs (a b : Int) : Int.gcd (if a < 0 then -a else a) (if b < 0 then -b else b) = Int.gcd a b := by
  unfold Int.gcd
  rw [abs_nat, abs_nat]

/-- what a block (a comprehension, a lambda) shares with its def -/
structure BCok (Y : Cx) (P : Program) (w : World) (K : PySem.W.Frag) (mg : Str → Option Value) (base : Heap) (n : Nat) (N : List Str) (sc : Scope) : Prop where
  prog : Y.prog = P
  w : Y.w = w
  K : Y.K = K
  mg : Y.mg = mg
  base : Y.base = base
  N : Y.N = N
  sc : Y.env.scope = sc
  calm : Y.calm = true
  room : Room n Y.A
section
variable {X Y : Cx} {P : Program} {w : World} {K : PySem.W.Frag} {mg : Str → Option Value} {base : Heap} {n k : Nat} {N : List Str} {sc scope : Scope}
theorem BCok.var (C : BCok Y P w K mg base n N sc) (i : Nat) {x : Str} (hN : N[i]? = some x := by rfl) (hv : Vis sc x := by first | exact Or.inl rfl | exact Or.inr (Or.inl rfl) | exact Or.inr (Or.inr rfl)) (hd : (x == ("__debug__" : Str)) = false := by decide)
    (hcd : (x == ("__classdict__" : Str)) = false := by decide) : VarOk Y i x := ⟨by rw [C.N]; exact hN, by rw [C.sc]; exact hv, hd, hcd⟩
theorem BCok.gl (C : BCok Y P w K mg base n N sc) {x : Str} (h : sc.names.lookup x = some .globalImplicit := by rfl) : Gl Y x := by
  show Y.env.scope.names.lookup x = _
  rw [C.sc]
  exact h
theorem BCok.fd {x : Str} {R : RT} (C : BCok Y P w K mg base n N sc) (F : Fd P w K mg base x k R) : Fd Y.prog Y.w Y.K Y.mg Y.base x k R := by
  rw [C.prog, C.w, C.K, C.mg, C.base]
  exact F
theorem Cok.blkc {s : Shared} {H : Hp} {C0 : Addr} {cl : List (Str × Addr)} {fp : List Addr} (C : Cok X P w K mg base n N sc) : BCok (bX X scope s H C0 cl fp) P w K mg base n N (relS scope sc) :=
  ⟨C.prog, C.w, C.K, C.mg, C.base, C.N, C.bscope, C.calm, C.room⟩
theorem lc_of {T : List (Addr × Str)} {elt : Expr} {ifs : List Expr} {f : PyData → Option PyData} {ρ : Env'} {j : Nat} {d : PyData} (C : Cok X P w K mg base n N sc)
    (test : ∀ Y : Cx, BCok Y P w K mg base n N (relS scope sc) → ∀ M : MM, Ets Y (ex0 T) ifs (ρ.set j (some (.d d))) M fun b M2 => M2 = M ∧ b = (f d).isSome)
    (elt' : ∀ Y : Cx, BCok Y P w K mg base n N (relS scope sc) → ∀ (M : MM) (y : PyData), f d = some y → Ev Y (ex0 T) elt (ρ.set j (some (.d d))) M fun dv M3 => M3 = M ∧ dv = .d y) : LcTurn T X scope elt ifs f ρ j d :=
  ⟨fun s H C0 cl fp M => test _ C.blkc M, fun s H C0 cl fp M y hy => elt' _ C.blkc M y hy⟩
end
theorem qb {q : DV → MM → Prop} {b b' : Bool} {M : MM} (h : q (.d (.bool b)) M) (e : b = b') : q (.d (.bool b')) M := e ▸ h
/-- an own error class -/
structure ExcG (K : PySem.W.Frag) (mg : Str → Option Value) (x : Str) (C : Addr) : Prop where
  mg : mg x = some (.ref C)
  kp : PySem.W.keepIn K (.ref C) = true
  xc : PySem.W.excIn K C [.type "ValueError", .type "Exception", .type "BaseException", .type "object"] "ValueError.__new__" = true
  h1 : PySem.W.subIn K (.ref C) (.type "BaseException") = some true
  h2 : PySem.W.typeIn K (.ref C) = some (.type "type")
/-- module constants: a number, a pair of numbers -/
structure GInt (mg : Str → Option Value) (x : Str) (i : Int) : Prop where
  mg : ∃ t, mg x = some (.int i t)
structure GPair (K : PySem.W.Frag) (mg : Str → Option Value) (x : Str) (i j : Int) : Prop where
  mg : ∃ (a : Addr) (dd : Option Addr) (n : Nat) (sl : Array (Option Value)) (t u : Tok), mg x = some (.ref a) ∧ K.lookup a = some ⟨.type "tuple", dd, .seq #[.int i t, .int j u] n, sl⟩
section
variable {X : Cx} {P : Program} {w : World} {K : PySem.W.Frag} {mg : Str → Option Value} {base : Heap} {n k : Nat} {N : List Str} {sc : Scope} {x : Str}
theorem Cok.exc {D : Addr} (C : Cok X P w K mg base n N sc) (E : ExcG K mg x D) (h : sc.names.lookup x = some .globalImplicit := by rfl) (hd : (x == ("__debug__" : Str)) = false := by decide) : ExcOk X x D :=
  ⟨C.gl h, by rw [C.mg]; exact E.mg, by rw [C.K]; exact E.kp, by rw [C.K]; exact E.xc, by rw [C.K]; exact E.h1, by rw [C.K]; exact E.h2, hd⟩
theorem Cok.gint {i : Int} (C : Cok X P w K mg base n N sc) (E : GInt mg x i) (h : sc.names.lookup x = some .globalImplicit := by rfl) (hd : (x == ("__debug__" : Str)) = false := by decide) : GlobOk X x (.d (.int i)) := by
  obtain ⟨t, e⟩ := E.mg
  exact ⟨C.gl h, ⟨.int i t, .int i, by rw [C.mg]; exact e, ⟨t, rfl⟩, fun _ _ => .int i⟩, hd⟩
theorem Cok.gpair {i j : Int} (C : Cok X P w K mg base n N sc) (E : GPair K mg x i j) (h : sc.names.lookup x = some .globalImplicit := by rfl) (hd : (x == ("__debug__" : Str)) = false := by decide) : GlobOk X x (.d (.tuple [.int i, .int j])) := by
  obtain ⟨a, dd, m, sl, t, u, e, lk⟩ := E.mg
  exact ⟨C.gl h, ⟨.ref a, .ref a, by rw [C.mg]; exact e, rfl, fun _ _ => .tup (xs := [.int i, .int j]) (.inr ⟨_, _, _, by rw [C.K]; exact lk, rfl, rfl, Nat.le_of_ble_eq_true rfl, .cons ⟨t, rfl⟩ (.cons ⟨u, rfl⟩ .nil)⟩) (.cons (.int i) (.cons (.int j) .nil))⟩, hd⟩
end
/-- all of a list's data, each told by g -/
theorem fmap_some {α : Type} (g : PyData → α) : ∀ ds : List PyData, ds.filterMap (fun d => some (g d)) = ds.map g
  | [] => rfl
  | d :: ds => congrArg (g d :: ·) (fmap_some g ds)
end G
/-! GD: the source of draws that all laws share: a dict of two lists and two numbers. -/
namespace G
open PySem PySem.Spec PyProof.Rows L2
section
variable {X : Cx} {ex : XP} {ρ : Env'} {M : MM} {q : DV → MM → Prop} {e : Expr} {ss : List Stmt} {Po : Post} {pos np cp sp apos : Pos} {n i j : Nat} {x s : Str} {p : Addr} {kvs : List (Key × V)}
theorem ev_dgetI {m : Int} (hr : Room n X.A) (hv : VarOk X i x) (he : ρ[i]? = some (some (.v (.ref p)))) (hm : M p = some (.dK kvs)) (hg : valV kvs (Sum.inr s) = some (.int m)) (k : q (.d (.int m)) M) : Ev X ex (.Subscript (.Name x np) (.Constant (.str s) j cp) pos) ρ M q :=
  ev_dget hr (fun _ _ => rfl) (ev_var hv he ⟨p, rfl, ev_str ⟨kvs, .inr s, .int m, hm, rfl, hg, k⟩⟩)
theorem ev_dgetR {a : Addr} (hr : Room n X.A) (hv : VarOk X i x) (he : ρ[i]? = some (some (.v (.ref p)))) (hm : M p = some (.dK kvs)) (hg : valV kvs (Sum.inr s) = some (.ref a)) (k : q (.v (.ref a)) M) : Ev X ex (.Subscript (.Name x np) (.Constant (.str s) j cp) pos) ρ M q :=
  ev_dget hr (fun _ _ => rfl) (ev_var hv he ⟨p, rfl, ev_str ⟨kvs, .inr s, .ref a, hm, rfl, hg, k⟩⟩)
theorem run_dputI (hr : Room n X.A) (hv : VarOk X i x) (he : ρ[i]? = some (some (.v (.ref p)))) (h : Ev X ex e ρ M fun dv M1 => ∃ m, dv = .d (.int m) ∧ ∃ kvs, M1 p = some (.dK kvs) ∧ kvs.length < 1000 ∧ Run X ex ss ρ (upd M1 p (.dK (putK kvs (Sum.inr s) (.int m)))) Po)
    (hs : isCompr e = false) : Run X ex (.Assign [.Subscript (.Name x np) (.Constant (.str s) j cp) sp] e pos :: ss) ρ M Po := by
  refine run_dput hr ⟨fun W tk σ H hM hE Q kv kx => h.run W tk σ H hM hE Q (fun v dv M1 H1 ⟨m, e1, kvs, h1, h2, h3⟩ s1 r1 => kv v dv M1 H1 ?_ s1 r1) kx⟩ hs
  subst e1
  exact ev_var hv he ⟨p, rfl, ev_str ⟨kvs, .inr s, .int m, h1, rfl, rfl, h2, h3⟩⟩
end
/-- what is behind may be told weaker -/
theorem Run.nx {X : Cx} {ex : XP} {ss : List Stmt} {ρ : Env'} {M : MM} {Po : Post} {J : Env' → MM → Prop} (h : Run X ex ss ρ M { Po with nx := J }) (hJ : ∀ ρ' M', J ρ' M' → Po.nx ρ' M') : Run X ex ss ρ M Po :=
  ⟨fun W tk σ H hM hE D kr kx => h.run W tk σ H hM hE D ⟨fun ρ' M' σ' H' j s e => kr.nx ρ' M' σ' H' (hJ ρ' M' j) s e, kr.rt, kr.bk, kr.ct⟩ kx⟩
/-- an if, and what holds behind it -/
theorem run_ifJ {X : Cx} {ex : XP} {c : Expr} {body els ss : List Stmt} {ρ : Env'} {M : MM} {Po : Post} {pos : Pos} (J : Env' → MM → Prop) (h : Et X ex c ρ M fun k M1 => if k = true then Run X ex body ρ M1 { Po with nx := J } else Run X ex els ρ M1 { Po with nx := J }) (h2 : ∀ ρ' M', J ρ' M' → Run X ex ss ρ' M' Po) : Run X ex (.If c body els pos :: ss) ρ M Po := by
  refine run_if ⟨fun W tk σ H hM hE Q kt kx => h.run W tk σ H hM hE Q (fun b M' H' hb s => kt b M' H' ?_ s) kx⟩
  cases b with
  | true =>
    rw [if_pos rfl] at hb ⊢
    exact Run.nx (Po := { Po with nx := fun ρ' M' => Run X ex ss ρ' M' Po }) hb h2
  | false =>
    rw [if_neg Bool.false_ne_true] at hb ⊢
    exact Run.nx (Po := { Po with nx := fun ρ' M' => Run X ex ss ρ' M' Po }) hb h2
theorem atI_in {ds : List PyData} {i : Int} (h0 : 0 ≤ i) (h1 : i < ds.length) : ∃ d, d ∈ ds ∧ L2.atI ds i = some d := by
  obtain ⟨k, rfl⟩ := Int.eq_ofNat_of_zero_le h0
  have hk : k < ds.length := by omega
  refine ⟨ds[k], List.getElem_mem hk, ?_⟩
  unfold L2.atI
  have e : L2.ixN ds.length (k : Int) = some k := by
    unfold L2.ixN
    rw [if_pos (by omega), if_pos h1]
    rfl
  rw [e]
  exact List.getElem?_eq_getElem hk
theorem seq0 {n : Nat} (h : 0 < n) : seqIndex? 0 n = some 0 := by
  unfold seqIndex?
  simp [h]
/-! ### the source of draws -/
abbrev dk (a b : Addr) (rest turn : Int) : List (Key × V) := [(Sum.inr "wide", .ref a), (Sum.inr "cells", .ref b), (Sum.inr "rest", .int rest), (Sum.inr "turn", .int turn)]
structure DrA (M : MM) (p a b : Addr) (wide cells : List Int) (rest turn : Int) : Prop where
  hp : M p = some (.dK (dk a b rest turn))
  ha : M a = some (.lst (wide.map V.int))
  hb : M b = some (.lst (cells.map V.int))
  nab : a ≠ b
  nt : ∀ z ps, M z ≠ some (.tbl ps)
section
variable {M : MM} {p a b : Addr} {wide cells : List Int} {rest turn : Int}
theorem DrA.npa (D : DrA M p a b wide cells rest turn) : p ≠ a := fun z => by
  have h := D.hp
  rw [z, D.ha] at h
  cases h
theorem DrA.npb (D : DrA M p a b wide cells rest turn) : p ≠ b := fun z => by
  have h := D.hp
  rw [z, D.hb] at h
  cases h
theorem DrA.put (D : DrA M p a b wide cells rest turn) (r t : Int) : DrA (upd M p (.dK (dk a b r t))) p a b wide cells r t := by
  refine ⟨upd_same, ?_, ?_, D.nab, fun z ps e => ?_⟩
  · rw [upd_ne D.npa.symm]; exact D.ha
  · rw [upd_ne D.npb.symm]; exact D.hb
  · by_cases h : z = p
    · subst h; rw [upd_same] at e; cases e
    · rw [upd_ne h] at e; exact D.nt z ps e
theorem DrA.setw (D : DrA M p a b wide cells rest turn) (w : List Int) : DrA (upd M a (.lst (w.map V.int))) p a b w cells rest turn := by
  refine ⟨?_, upd_same, ?_, D.nab, fun z ps e => ?_⟩
  · rw [upd_ne D.npa]; exact D.hp
  · rw [upd_ne D.nab.symm]; exact D.hb
  · by_cases h : z = a
    · subst h; rw [upd_same] at e; cases e
    · rw [upd_ne h] at e; exact D.nt z ps e
end
theorem dk_len {a b : Addr} {r t : Int} : (dk a b r t).length < 1000 := Nat.lt_of_lt_of_le (show 4 < 5 by decide) (by decide)
theorem put_rest {a b : Addr} {r t r' : Int} : putK (dk a b r t) (Sum.inr "rest") (.int r') = dk a b r' t := by with_unfolding_all rfl
theorem put_turn {a b : Addr} {r t t' : Int} : putK (dk a b r t) (Sum.inr "turn") (.int t') = dk a b r t' := by with_unfolding_all rfl
theorem get_rest {a b : Addr} {r t : Int} : valV (dk a b r t) (Sum.inr "rest") = some (.int r) := by with_unfolding_all rfl
theorem get_turn {a b : Addr} {r t : Int} : valV (dk a b r t) (Sum.inr "turn") = some (.int t) := by with_unfolding_all rfl
theorem get_wide {a b : Addr} {r t : Int} : valV (dk a b r t) (Sum.inr "wide") = some (.ref a) := by with_unfolding_all rfl
theorem get_cells {a b : Addr} {r t : Int} : valV (dk a b r t) (Sum.inr "cells") = some (.ref b) := by with_unfolding_all rfl
/-- the source p, of which at most t long numbers were mixed -/
def Dr (M : MM) (p : Addr) (t : Nat) : Prop := ∃ (a b : Addr) (wide cells : List Int) (rest turn : Int), DrA M p a b wide cells rest turn ∧ 0 ≤ turn ∧ turn ≤ t ∧ (∀ c ∈ cells, 0 ≤ c ∧ c < 2147483629)
theorem Dr.mono {M : MM} {p : Addr} {t u : Nat} (h : t ≤ u) (D : Dr M p t) : Dr M p u := by
  obtain ⟨a, b, w, c, r, n, D, h0, h1, h2⟩ := D
  exact ⟨a, b, w, c, r, n, D, h0, by omega, h2⟩
end G
section
open PySem PySem.Spec PyProof.Rows L2 G
local macro_rules | `(tactic| walk_at "side") => `(tactic| first | assumption | omega | (exact Nat.le_of_ble_eq_true rfl) | (exact log_lt (by assumption) (by decide) (by decide)) | (exact logs_lt (by assumption) (by assumption) (by decide) (by decide) (by decide)))
local macro_rules | `(tactic| walk_at "nm") => `(tactic| first
  | ((with_reducible refine' ev_var ?g1 ?g2 ?_); (case g1 => with_reducible assumption); (case g2 => rfl))
  | ((with_reducible refine' ev_glob ?g1 ?_); (case g1 => with_reducible assumption))
  | ((with_reducible refine' ev_intN ?g1 ?_); (case g1 => with_reducible assumption))
  | ((with_reducible refine' ev_boolN ?g1 ?_); (case g1 => with_reducible assumption))
  | ((with_reducible refine' ev_strN ?g1 ?_); (case g1 => with_reducible assumption))
  | ((with_reducible refine' ev_tupN ?g1 ?_); (case g1 => with_reducible assumption))
  | ((with_reducible refine' ev_listN ?g1 ?_); (case g1 => with_reducible assumption)))
local macro_rules | `(tactic| walk_at "ct") => `(tactic| first
  | with_reducible refine' ev_int ?_
  | with_reducible refine' ev_str ?_
  | with_reducible refine' ev_bl ?_
  | with_reducible refine' ev_non ?_)
local macro_rules | `(tactic| walk_at "cp") => `(tactic| first
  | (with_reducible refine' ev_lt ?_)
  | (with_reducible refine' ev_le ?_)
  | (with_reducible refine' ev_gt ?_)
  | (with_reducible refine' ev_ge ?_)
  | ((with_reducible refine' ev_eq ?g1 ?_); (case g1 => with_reducible assumption))
  | ((with_reducible refine' ev_ne ?g1 ?_); (case g1 => with_reducible assumption))
  | (with_reducible refine' ev_isN ?_)
  | (with_reducible refine' ev_notN ?_)
  | ((with_reducible refine' ev_chain op_le op_le ?g1 ?_); (case g1 => with_unfolding_all rfl)))
local macro_rules | `(tactic| walk_at "bn") => `(tactic| first
  | (with_reducible refine' ev_add ?_)
  | (with_reducible refine' ev_sub ?_)
  | (with_reducible refine' ev_mul ?_)
  | (with_reducible refine' ev_fdiv ?_)
  | (with_reducible refine' ev_mod ?_)
  | (with_reducible refine' ev_pow ?_))
local macro_rules | `(tactic| walk_at "eo") => `(tactic| first
  | (with_reducible refine' ev_tup ?_)
  | (with_reducible refine' ev_lst ?_)
  | (with_reducible refine' ev_neg ?_)
  | (with_reducible refine' ev_and ?_)
  | (with_reducible refine' ev_or ?_)
  | (with_reducible refine' ev_one ?_)
  | (with_reducible refine' ev_not ?_)
  | (with_reducible refine' ev_if ?_)
  | ((with_reducible refine' ev_dgetI ?g0 ?g1 ?g2 ?g3 ?g4 ?_); (case g0 => with_reducible assumption); (case g1 => with_reducible assumption); (case g2 => rfl); (case g3 => with_reducible assumption); (case g4 => first | exact get_rest | exact get_turn))
  | ((with_reducible refine' ev_dgetR ?g0 ?g1 ?g2 ?g3 ?g4 ?_); (case g0 => with_reducible assumption); (case g1 => with_reducible assumption); (case g2 => rfl); (case g3 => with_reducible assumption); (case g4 => first | exact get_wide | exact get_cells))
  | ((with_reducible refine' ev_item ?g1 ?_); (case g1 => exact fun _ _ => rfl)))
local macro_rules | `(tactic| walk_at "e1") => `(tactic| first
  | ((with_reducible refine' ev_abs ?g1 ?_ ?g2); (case g1 => with_reducible assumption); (case g2 => rfl))
  | ((with_reducible refine' ev_len ?g1 ?_ ?g2); (case g1 => with_reducible assumption); (case g2 => rfl))
  | ((with_reducible refine' ev_all ?g0 ?g1 ?_ ?g2); (case g0 => with_reducible assumption); (case g1 => with_reducible assumption); (case g2 => rfl))
  | ((with_reducible refine' ev_any ?g0 ?g1 ?_ ?g2); (case g0 => with_reducible assumption); (case g1 => with_reducible assumption); (case g2 => rfl))
  | ((with_reducible refine' ev_isx ?g1 ?_ ?g2); (case g1 => with_reducible assumption); (case g2 => rfl))
  | ((with_reducible refine' ev_maxT ?g0 ?g1 ?_ ?g2); (case g0 => with_reducible assumption); (case g1 => with_reducible assumption); (case g2 => rfl))
  | ((with_reducible refine' ev_minT ?g0 ?g1 ?_ ?g2); (case g0 => with_reducible assumption); (case g1 => with_reducible assumption); (case g2 => rfl))
  | ((with_reducible refine' ev_max2 ?g0 ?g1 ?_ ?g2); (case g0 => with_reducible assumption); (case g1 => with_reducible assumption); (case g2 => rfl))
  | ((with_reducible refine' ev_min2 ?g0 ?g1 ?_ ?g2); (case g0 => with_reducible assumption); (case g1 => with_reducible assumption); (case g2 => rfl))
  | ((with_reducible refine' ev_intC ?g1 ?_ ?g2); (case g1 => with_reducible assumption); (case g2 => rfl))
  | ((with_reducible refine' ev_strC ?g1 ?_ ?g2); (case g1 => with_reducible assumption); (case g2 => rfl))
  | ((with_reducible refine' ev_listC ?g1 ?_ ?g2); (case g1 => with_reducible assumption); (case g2 => rfl))
  | ((with_reducible refine' ev_tupC ?g1 ?_ ?g2); (case g1 => with_reducible assumption); (case g2 => rfl))
  | ((with_reducible refine' ev_call ?g1 ?g2 ?g3 ?_ ?g4 ?g5); (case g1 => with_reducible assumption); (case g2 => first | with_reducible assumption | exact Room.mono (by with_reducible assumption) (by decide)); (case g3 => with_reducible assumption); (case g4 => decide); (case g5 => rfl)))
local macro_rules | `(tactic| walk_at "rr") => `(tactic| first
  | (with_reducible refine' rr_addI ?_)
  | ((with_reducible refine' rr_addT ?g1 ?_); (case g1 => walk_at "side"))
  | ((with_reducible refine' rr_addL ?g1 ?_); (case g1 => walk_at "side"))
  | ((with_reducible refine' rr_addS ?g1 ?_); (case g1 => walk_at "side"))
  | (with_reducible refine' rr_int0 (g := fun i j => i - j) ?_)
  | ((with_reducible refine' rr_mul ?g1 ?_); (case g1 => walk_at "side"))
  | ((with_reducible refine' rr_fdiv ?g1 ?g2 ?_); (case g1 => walk_at "side"); (case g2 => walk_at "side"))
  | ((with_reducible refine' rr_mod ?g1 ?_); (case g1 => walk_at "side"))
  | ((with_reducible refine' rr_pow ?g1 ?_); (case g1 => walk_at "side"))
  | (with_reducible refine' rr_cmp ?_)
  | (with_reducible refine' rr_eqI ?_)
  | (with_reducible refine' rr_neI ?_)
  | (with_reducible refine' rr_eqS ?_)
  | (with_reducible refine' rr_neS ?_)
  | ((with_reducible refine' rr_eqD ?g1 ?g2 ?_); (case g1 => first | rfl | assumption); (case g2 => first | rfl | assumption))
  | ((with_reducible refine' rr_neD ?g1 ?g2 ?_); (case g1 => first | rfl | assumption); (case g2 => first | rfl | assumption))
  | ((with_reducible refine' rr_neML ?g1 ?_); (case g1 => assumption))
  | (with_reducible refine' rr_isN ?_)
  | (with_reducible refine' rr_notN ?_)
  | ((with_reducible refine' rr_itemT ?g1 ?_); (case g1 => first | assumption | rfl))
  | ((with_reducible refine' rr_itemL ?g1 ?_); (case g1 => first | assumption | rfl)))
local macro_rules | `(tactic| walk_at "ru") => `(tactic| first
  | (with_reducible refine' ru_neg ?_))
local macro_rules | `(tactic| walk_at "rc") => `(tactic| first
  | (with_reducible refine' rc_abs ?_)
  | (with_reducible refine' rx_of (rc_isI ?_))
  | (with_reducible refine' rx_of (rc_isB ?_))
  | (with_reducible refine' rx_of (rc_isS ?_))
  | (with_reducible refine' rx_of (rc_isT ?_))
  | (with_reducible refine' rx_of (rc_isL ?_))
  | ((with_reducible refine' rx_exc ?g1 ?g2 ?_); (case g1 => with_reducible assumption); (case g2 => with_reducible assumption))
  | ((with_reducible refine' rc_len ?g1 ?_); (case g1 => rfl))
  | (with_reducible refine' rc_lenR ?_)
  | (with_reducible refine' rc_maxT2 ?_)
  | (with_reducible refine' rc_minT2 ?_)
  | (with_reducible refine' rc_maxT4 ?_)
  | (with_reducible refine' rc_max2 ?_)
  | (with_reducible refine' rc_min2 ?_)
  | ((with_reducible refine' rc_str ?g1 ?_); (case g1 => walk_at "side"))
  | (with_reducible refine' rc_int ?_)
  | (with_reducible refine' rc_intb ?_)
  | ((with_reducible refine' rc_list ?g1 ?_); (case g1 => rfl))
  | ((with_reducible refine' rc_tup ?g1 ?_); (case g1 => rfl)))
local macro_rules | `(tactic| walk_at "ea") => `(tactic| first
  | ((with_reducible refine' ea_cons ?_ ?g1); (case g1 => rfl))
  | (with_reducible refine' ea_nil ?_))
local macro_rules | `(tactic| walk_at "et") => `(tactic| first
  | (with_reducible refine' et_lt ?_)
  | (with_reducible refine' et_le ?_)
  | (with_reducible refine' et_gt ?_)
  | (with_reducible refine' et_ge ?_)
  | ((with_reducible refine' et_eq ?g1 ?_); (case g1 => with_reducible assumption))
  | ((with_reducible refine' et_ne ?g1 ?_); (case g1 => with_reducible assumption))
  | (with_reducible refine' et_isN ?_)
  | (with_reducible refine' et_notN ?_)
  | (with_reducible refine' et_and ?_)
  | (with_reducible refine' et_or ?_)
  | (with_reducible refine' ew_and ?_)
  | (with_reducible refine' ew_or ?_)
  | (with_reducible refine' ew_and1 ?_)
  | (with_reducible refine' ew_or1 ?_)
  | (with_reducible refine' et_not ?_)
  | ((with_reducible refine' et_val ?_ ?g3); (case g3 => rfl)))
local macro_rules | `(tactic| walk_at "st") => `(tactic| first
  | ((with_reducible refine' run_set' ?g1 ?g2 ?_ ?g3); (case g1 => with_reducible assumption); (case g2 => with_reducible assumption); (case g3 => rfl))
  | (with_reducible refine' run_ret ?_)
  | (with_reducible refine' run_if ?_)
  | (with_reducible refine' run_nil ?_)
  | (refine' run_par' (by with_reducible assumption) (by with_reducible assumption) (by with_reducible assumption) (by decide) ?_)
  | ((with_reducible refine' run_dputI ?g0 ?g1 ?g2 ?_ ?g3); (case g0 => with_reducible assumption); (case g1 => with_reducible assumption); (case g2 => rfl); (case g3 => rfl))
  | ((with_reducible refine' run_expr ?_ ?g3); (case g3 => rfl))
  | (with_reducible refine' run_raise' (by assumption) (by assumption) ?_))
local macro_rules | `(tactic| walk_at "ev") => `(tactic| first
  | ((with_reducible refine' is_nm ?_); walk_at "nm")
  | ((with_reducible refine' is_ct ?_); walk_at "ct")
  | ((with_reducible refine' is_cp ?_); walk_at "cp")
  | ((with_reducible refine' is_bn ?_); walk_at "bn")
  | ((with_reducible refine' is_cl ?_); walk_at "e1")
  | walk_at "eo")
local macro_rules | `(tactic| walk_at "ex") => `(tactic| first
  | refine iteT ?_
  | refine iteF ?_
  | (refine ⟨_, rfl, ?g1, ?_⟩; (case g1 => exact Nat.le_of_ble_eq_true rfl))
  | refine ⟨_, rfl, ?_⟩
  | refine ⟨_, _, rfl, ?_⟩
  | refine ⟨_, _, _, rfl, ?_⟩
  | refine ⟨_, _, _, _, rfl, ?_⟩)
local macro_rules | `(tactic| walk_at "go1") => `(tactic| first
  | ((with_reducible refine' is_ev ?_); walk_at "ev")
  | ((with_reducible refine' is_rr ?_); walk_at "rr")
  | ((with_reducible refine' is_rc ?_); walk_at "rc")
  | ((with_reducible refine' is_ru ?_); walk_at "ru")
  | ((with_reducible refine' is_ea ?_); walk_at "ea")
  | ((with_reducible refine' is_et ?_); walk_at "et")
  | ((with_reducible refine' is_ew ?_); walk_at "et")
  | ((with_reducible refine' is_run ?_); walk_at "st")
  | walk_at "ex"
  | fail)
local macro_rules | `(tactic| walk_at "go") => `(tactic| repeat' walk_at "go1")
local macro_rules | `(tactic| walk_at "s0") => `(tactic| first
  | (refine' run_set' (by with_reducible assumption) (by with_reducible assumption) ?_ (by rfl))
  | (refine' run_par' (by with_reducible assumption) (by with_reducible assumption) (by with_reducible assumption) (by decide) ?_)
  | refine' run_ret ?_
  | refine' run_if ?_
  | refine' run_expr ?_ (by rfl))
/-! K56a: the program's defs. -/
namespace K56
open PySem PySem.Spec PyProof.Rows L2 G
def topS (i : Nat) : Stmt := PySem.Challenge.pw_gearsturn_k56_whole_neighbours.main.body.getD i (.Pass ⟨0, 0, 0, 0⟩)
abbrev scommon : Stmt := topS 7
theorem sccommon : FnScope ["one", "other", "high", "low"] ["one", "other"] (defScope scommon) := ⟨rfl, rfl, rfl, by decide +kernel, rfl, by decide +kernel, by decide +kernel⟩
abbrev sis_integer : Stmt := topS 6
theorem scis_integer : FnScope ["thing"] ["thing"] (defScope sis_integer) := ⟨rfl, rfl, rfl, by decide +kernel, rfl, by decide +kernel, by decide +kernel⟩
abbrev sis_number : Stmt := topS 5
theorem scis_number : FnScope ["thing", "low", "high"] ["thing", "low", "high"] (defScope sis_number) := ⟨rfl, rfl, rfl, by decide +kernel, rfl, by decide +kernel, by decide +kernel⟩
abbrev sis_fraction : Stmt := topS 8
theorem scis_fraction : FnScope ["thing", "one"] ["thing"] (defScope sis_fraction) := ⟨rfl, rfl, rfl, by decide +kernel, rfl, by decide +kernel, by decide +kernel⟩
section
variable {P : Program} {w : World} {K : PySem.W.Frag} {mg : Str → Option Value} {base : Heap}
def RCommon : RT := fun dvs M q ex => ∃ a b : Int, dvs = [.d (.int a), .d (.int b)] ∧ a.natAbs < 2 ^ 8000 ∧ b.natAbs < 2 ^ 8000 ∧ q (.d (.int (Int.gcd a b : Nat))) M
theorem ok_common {f : Addr} {fd : FuncData} {n : Nat} (F : Fun K "common" "common" scommon f fd) (B : Bt mg) : FnOk P w K mg base (L2.CX P w) (n + 1) f fd ["one", "other"] (spG K RCommon) := by
  refine fn_mk F sccommon (fun dvs M q ex h => ?_) (fun X C dvs M q ex h => ?_)
  · obtain ⟨a, b, rfl, _⟩ := h
    rfl
  · obtain ⟨a, b, rfl, ha, hb, hq⟩ := h
    have v0 := C.var 0 (x := "one")
    have v1 := C.var 1 (x := "other")
    have v2 := C.var 2 (x := "high")
    have l2 := C.loc 2 (x := "high")
    have v3 := C.var 3 (x := "low")
    have l3 := C.loc 3 (x := "low")
    have hcalm := C.calm
    have b_abs : BltOk _ "abs" := ⟨C.gl (x := "abs"), by rw [C.mg]; exact B.abs_⟩
    have hr := C.room
    show G.Run X ex _ [some (.d (.int a)), some (.d (.int b)), none, none] M _
    walk_at "s0"
    walk_at "go"
    refine run_while' C (fun m ρ' M' => ∃ h l : Int, ρ' = [some (.d (.int a)), some (.d (.int b)), some (.d (.int h)), some (.d (.int l))] ∧ M' = M ∧ 0 ≤ h ∧ 0 ≤ l ∧ Int.gcd h l = Int.gcd a b ∧ h.natAbs < 2 ^ 8000 ∧ l.natAbs < 2 ^ 8000 ∧ m = l.toNat) _ ⟨_, _, rfl, rfl, ?_, ?_, ?_, ?_, ?_, rfl⟩ ?_
    · split <;> omega
    · split <;> omega
    · exact gcd_abs a b
    · rw [abs_nat]; exact ha
    · rw [abs_nat]; exact hb
    · rintro m ρ' M' ⟨h, l, rfl, rfl, h0, l0, hg, hh, hl, rfl⟩
      walk_at "go"
      refine ite_nd (fun hc => ?_) (fun hc => ?_)
      · have lp : 0 < l := by omega
        have hq1 : (h / l).natAbs < 2 ^ 8000 := Nat.lt_of_le_of_lt (by rw [Int.natAbs_ediv_of_nonneg h0] <;> exact Nat.div_le_self _ _) hh
        walk_at "go"
        have e := Int.emod_lt_of_pos h lp
        have e' := Int.emod_nonneg h (Int.ne_of_gt lp)
        refine ⟨_, ?_, l, h - h / l * l, rfl, rfl, l0, ?_, ?_, hl, ?_, rfl⟩
        · rw [sub_div]; omega
        · rw [sub_div]; exact e'
        · rw [sub_div, gcd_step h0 l0]; exact hg
        · rw [sub_div]; exact Nat.lt_trans (by omega) hl
      · walk_at "go"
        show q _ M'
        subst hc
        rw [← hg, Int.gcd_zero_right, Int.natAbs_of_nonneg h0] at hq
        exact hq
def RIsInt : RT := fun dvs M q ex => ∃ x, dvs = [.d x] ∧ q (.d (.bool (itD x))) M
theorem ok_is_integer {f : Addr} {fd : FuncData} {n : Nat} (F : Fun K "is_integer" "is_integer" sis_integer f fd) (B : Bt mg) : FnOk P w K mg base (L2.CX P w) (n + 1) f fd ["thing"] (spG K RIsInt) := by
  refine fn_mk F scis_integer (fun dvs M q ex h => ?_) (fun X C dvs M q ex h => ?_)
  · obtain ⟨x, rfl, _⟩ := h
    rfl
  · obtain ⟨x, rfl, hq⟩ := h
    have v0 := C.var 0 (x := "thing")
    have hcalm := C.calm
    have b_isinstance : BltOk _ "isinstance" := ⟨C.gl (x := "isinstance"), by rw [C.mg]; exact B.isinstance_⟩
    have b_int : BltOk _ "int" := ⟨C.gl (x := "int"), by rw [C.mg]; exact B.int_⟩
    have b_bool : BltOk _ "bool" := ⟨C.gl (x := "bool"), by rw [C.mg]; exact B.bool_⟩
    have hr := C.room
    rw [← itD_ok] at hq
    show G.Run X ex _ [some (.d x)] M _
    walk_at "s0"
    walk_at "go"
    refine ite_b (fun e => ?_) (fun e => ?_)
    · walk_at "go"
      rw [e] at hq
      exact hq
    · rw [e] at hq
      exact hq
def numD (x : PyData) (lo hi : Int) : Bool := match x with
  | .int i => decide (lo ≤ i) && decide (i ≤ hi)
  | _ => false
def RIsNum : RT := fun dvs M q ex => ∃ x lo hi, dvs = [.d x, .d (.int lo), .d (.int hi)] ∧ q (.d (.bool (numD x lo hi))) M
theorem ok_is_number {f : Addr} {fd : FuncData} {n : Nat} (F : Fun K "is_number" "is_number" sis_number f fd) (B : Bt mg) : FnOk P w K mg base (L2.CX P w) (n + 1) f fd ["thing", "low", "high"] (spG K RIsNum) := by
  refine fn_mk F scis_number (fun dvs M q ex h => ?_) (fun X C dvs M q ex h => ?_)
  · obtain ⟨x, lo, hi, rfl, _⟩ := h
    rfl
  · obtain ⟨x, lo, hi, rfl, hq⟩ := h
    have v0 := C.var 0 (x := "thing")
    have v1 := C.var 1 (x := "low")
    have v2 := C.var 2 (x := "high")
    have hcalm := C.calm
    have b_isinstance : BltOk _ "isinstance" := ⟨C.gl (x := "isinstance"), by rw [C.mg]; exact B.isinstance_⟩
    have b_int : BltOk _ "int" := ⟨C.gl (x := "int"), by rw [C.mg]; exact B.int_⟩
    have b_bool : BltOk _ "bool" := ⟨C.gl (x := "bool"), by rw [C.mg]; exact B.bool_⟩
    have hr := C.room
    show G.Run X ex _ [some (.d x), some (.d (.int lo)), some (.d (.int hi))] M _
    walk_at "s0"
    cases x with
    | int i =>
      walk_at "go"
      refine ite_d (fun h1 => ?_) (fun h1 => ?_)
      · walk_at "go"
        show q _ M
        have e : numD (.int i) lo hi = decide (i ≤ hi) := by
          show (decide (lo ≤ i) && decide (i ≤ hi)) = _
          rw [decide_eq_true h1, Bool.true_and]
        rw [e] at hq
        exact hq
      · show q _ M
        have e : numD (.int i) lo hi = false := by
          show (decide (lo ≤ i) && decide (i ≤ hi)) = _
          rw [decide_eq_false h1, Bool.false_and]
        rw [e] at hq
        exact hq
    | _ =>
      walk_at "go"
      exact hq
/-- p / q in lowest terms, q above 0 -/
def frD (x : PyData) : Bool := match x with
  | .tuple [.int a, .int b] => decide (0 < b) && decide (((Int.gcd a b : Nat) : Int) = 1)
  | _ => false
theorem frD_len {ds : List PyData} (h : ds.length ≠ 2) : frD (.tuple ds) = false := by
  match ds, h with
  | [], _ => rfl
  | [a], _ => unfold frD; split <;> first | rfl | (rename_i z; cases z)
  | [_, _], h => exact absurd rfl h
  | a :: b :: c :: l, _ => unfold frD; split <;> first | rfl | (rename_i z; cases z)
theorem frD_no {x y : PyData} (h : [itD x, itD y].all id = false) : frD (.tuple [x, y]) = false := by
  unfold frD
  split
  · rename_i z
    cases z
    cases h
  · rfl
theorem ints_of {x y : PyData} (h : [itD x, itD y].all id = true) : ∃ a b, x = .int a ∧ y = .int b := by
  cases x <;> cases y <;> first | exact ⟨_, _, rfl, rfl⟩ | cases h
theorem two_of {α : Type} {l : List α} (h : l.length = 2) : ∃ x y, l = [x, y] := match l, h with
  | [x, y], _ => ⟨x, y, rfl⟩
def RFrac : RT := fun dvs M q ex => ∃ x, dvs = [.d x] ∧ (∀ a b, x = .tuple [.int a, .int b] → a.natAbs < 2 ^ 8000 ∧ b.natAbs < 2 ^ 8000) ∧ q (.d (.bool (frD x))) M
theorem ok_is_fraction {f : Addr} {fd : FuncData} (F : Fun K "is_fraction" "is_fraction" sis_fraction f fd) (B : Bt mg) (Fis_integer : Fd P w K mg base "is_integer" 1 RIsInt) (Fcommon : Fd P w K mg base "common" 1 RCommon) : FnOk P w K mg base (L2.CX P w) 2 f fd ["thing"] (spG K RFrac) := by
  refine fn_mk F scis_fraction (fun dvs M q ex h => ?_) (fun X C dvs M q ex h => ?_)
  · obtain ⟨x, rfl, _⟩ := h
    rfl
  · obtain ⟨x, rfl, hs, hq⟩ := h
    have v0 := C.var 0 (x := "thing")
    have hcalm := C.calm
    have b_isinstance : BltOk _ "isinstance" := ⟨C.gl (x := "isinstance"), by rw [C.mg]; exact B.isinstance_⟩
    have b_len : BltOk _ "len" := ⟨C.gl (x := "len"), by rw [C.mg]; exact B.len_⟩
    have b_tuple : BltOk _ "tuple" := ⟨C.gl (x := "tuple"), by rw [C.mg]; exact B.tuple_⟩
    have b_all : BltOk _ "all" := ⟨C.gl (x := "all"), by rw [C.mg]; exact B.all_⟩
    have f_is_integer := C.fd Fis_integer
    have f_common := C.fd Fcommon
    have g_common := C.gl (x := "common")
    have hr := C.room
    show G.Run X ex _ [some (.d x), none] M _
    walk_at "s0"
    cases x with
    | tuple ds =>
      walk_at "go"
      refine ite_nd (fun h1 => ?_) (fun h1 => ?_)
      · walk_at "go"
        show q _ M
        rw [frD_len (fun z => h1 (by rw [z]; rfl))] at hq
        exact hq
      · obtain ⟨x, y, rfl⟩ : ∃ x y, ds = [x, y] := two_of (by omega)
        walk_at "go"
        refine is_ev (ev_lcT C.calm C.nod C.blk (fun s H C0 cl fp => C.bloc 1) rfl (fun d => some (.bool (itD d))) ?_)
        walk_at "nm"
        refine ⟨_, rfl, by show 2 ≤ 100000; decide, fun d hd => ?_, ?_⟩
        · refine lc_of C (fun Y C M => ets_nil ⟨rfl, rfl⟩) (fun Y C M y hy => ?_)
          have v1 := C.var 1 (x := "one")
          have f_is_integer := C.fd Fis_integer
          have g_is_integer := C.gl (x := "is_integer")
          have hr := C.room
          cases hy
          walk_at "go"
          exact ⟨rfl, rfl⟩
        · rw [fmap_some]
          refine ea_nil (rc_all (bs := [itD x, itD y]) ⟨_, rfl, ?_⟩)
          refine ite_nb (fun h2 => ?_) (fun h2 => ?_)
          · walk_at "go"
            show q _ M
            rw [frD_no h2] at hq
            exact hq
          · obtain ⟨a, b, rfl, rfl⟩ := ints_of h2
            obtain ⟨s1, s2⟩ := hs a b rfl
            walk_at "go"
            refine ite_d (fun h3 => ?_) (fun h3 => ?_)
            · walk_at "go"
              refine ⟨s1, s2, ?_⟩
              walk_at "go"
              show q _ M
              exact qb hq (by show (decide (0 < b) && decide (((Int.gcd a b : Nat) : Int) = 1)) = _; rw [decide_eq_true h3, Bool.true_and])
            · show q _ M
              exact qb hq (by show (decide (0 < b) && decide (((Int.gcd a b : Nat) : Int) = 1)) = _; rw [decide_eq_false h3, Bool.false_and])
    | _ =>
      walk_at "go"
      exact hq
theorem frD_inv {x : PyData} (h : frD x = true) : ∃ a b : Int, x = .tuple [.int a, .int b] ∧ 0 < b ∧ Int.gcd a b = 1 := by
  unfold frD at h
  split at h
  · rename_i a b
    simp only [Bool.and_eq_true, decide_eq_true_eq] at h
    exact ⟨a, b, rfl, h.1, by omega⟩
  · cases h
def SmR (x : PyData) : Prop := ∀ a b, x = .tuple [.int a, .int b] → a.natAbs < 2 ^ 8000 ∧ b.natAbs < 2 ^ 8000
/-- a ratio; one above 0 -/
def raD (x : PyData) : Bool := match x with
  | .tuple [.int a, .int b] => frD (.tuple [.int a, .int b]) && !decide (a = 0)
  | _ => false
def fwD (x : PyData) : Bool := match x with
  | .tuple [.int a, .int b] => raD (.tuple [.int a, .int b]) && !decide (a < 0)
  | _ => false
theorem raD_no {x : PyData} (h : frD x = false) : raD x = false := by
  unfold raD
  split
  · rw [h, Bool.false_and]
  · rfl
theorem fwD_no {x : PyData} (h : raD x = false) : fwD x = false := by
  unfold fwD
  split
  · rw [h, Bool.false_and]
  · rfl
theorem raD_inv {x : PyData} (h : raD x = true) : ∃ a b : Int, x = .tuple [.int a, .int b] ∧ 0 < b ∧ Int.gcd a b = 1 ∧ a ≠ 0 := by
  unfold raD at h
  split at h
  · rename_i a b
    simp only [Bool.and_eq_true] at h
    obtain ⟨a', b', e, h1, h2⟩ := frD_inv h.1
    cases e
    exact ⟨a, b, rfl, h1, h2, by simpa using h.2⟩
  · cases h
theorem fwD_inv {x : PyData} (h : fwD x = true) : ∃ a b : Int, x = .tuple [.int a, .int b] ∧ 0 < b ∧ Int.gcd a b = 1 ∧ 0 < a := by
  unfold fwD at h
  split at h
  · rename_i a b
    simp only [Bool.and_eq_true] at h
    obtain ⟨a', b', e, h1, h2, h3⟩ := raD_inv h.1
    cases e
    have h4 : ¬ a < 0 := by simpa using h.2
    exact ⟨a, b, rfl, h1, h2, by omega⟩
  · cases h
theorem fwD_of {a b : Int} (h1 : 0 < a) (h2 : 0 < b) (h3 : Int.gcd a b = 1) : fwD (.tuple [.int a, .int b]) = true := by
  show (((decide (0 < b) && decide (((Int.gcd a b : Nat) : Int) = 1)) && !decide (a = 0)) && !decide (a < 0)) = true
  have e1 : decide (0 < b) = true := decide_eq_true h2
  have e2 : decide (((Int.gcd a b : Nat) : Int) = 1) = true := decide_eq_true (by rw [h3]; rfl)
  have e3 : decide (a = 0) = false := decide_eq_false (by omega)
  have e4 : decide (a < 0) = false := decide_eq_false (by omega)
  rw [e1, e2, e3, e4]
  rfl
def RNeed (CR : Addr) (ok : PyData → Bool) : RT := fun dvs M q ex => ∃ x, dvs = [.d x] ∧ SmR x ∧ (ok x = true → q (.d .none) M) ∧ (ok x = false → ex.e CR M)
abbrev sneed_ratio : Stmt := topS 10
theorem scneed_ratio : FnScope ["ratio"] ["ratio"] (defScope sneed_ratio) := ⟨rfl, rfl, rfl, by decide +kernel, rfl, by decide +kernel, by decide +kernel⟩
abbrev sneed_forward : Stmt := topS 15
theorem scneed_forward : FnScope ["ratio"] ["ratio"] (defScope sneed_forward) := ⟨rfl, rfl, rfl, by decide +kernel, rfl, by decide +kernel, by decide +kernel⟩
abbrev sneed_most : Stmt := topS 16
theorem scneed_most : FnScope ["most"] ["most"] (defScope sneed_most) := ⟨rfl, rfl, rfl, by decide +kernel, rfl, by decide +kernel, by decide +kernel⟩
abbrev sturn_of : Stmt := topS 17
theorem scturn_of : FnScope ["one", "other"] ["one", "other"] (defScope sturn_of) := ⟨rfl, rfl, rfl, by decide +kernel, rfl, by decide +kernel, by decide +kernel⟩
theorem ok_need_ratio {CR : Addr} {f : Addr} {fd : FuncData} (F : Fun K "need_ratio" "need_ratio" sneed_ratio f fd) (Fis_fraction : Fd P w K mg base "is_fraction" 2 RFrac) (E : ExcG K mg "BadRatio" CR) : FnOk P w K mg base (L2.CX P w) 3 f fd ["ratio"] (spG K (RNeed CR raD)) := by
  refine fn_mk F scneed_ratio (fun dvs M q ex h => ?_) (fun X C dvs M q ex h => ?_)
  · obtain ⟨x, rfl, _⟩ := h
    rfl
  · obtain ⟨x, rfl, hs, hq, he⟩ := h
    have v0 := C.var 0 (x := "ratio")
    have f_is_fraction := C.fd Fis_fraction
    have g_is_fraction := C.gl (x := "is_fraction")
    have eE := C.exc E
    have hr := C.room
    show G.Run X ex _ [some (.d x)] M _
    walk_at "s0"
    walk_at "go"
    refine ⟨hs, ?_⟩
    refine ⟨_, rfl, ?_⟩
    refine ite_nb (fun h => ?_) (fun h => ?_)
    · walk_at "go"
      exact he (raD_no h)
    · obtain ⟨a, b, rfl, h1, h2⟩ := frD_inv h
      walk_at "go"
      refine ite_d (fun h3 => ?_) (fun h3 => ?_)
      · walk_at "go"
        exact he (by show (frD _ && !decide (a = 0)) = false; rw [decide_eq_true h3, Bool.not_true, Bool.and_false])
      · walk_at "go"
        exact hq (by show (frD _ && !decide (a = 0)) = true; rw [decide_eq_false h3, h]; rfl)
theorem ok_need_forward {CR : Addr} {f : Addr} {fd : FuncData} (F : Fun K "need_forward" "need_forward" sneed_forward f fd) (Fneed_ratio : Fd P w K mg base "need_ratio" 3 (RNeed CR raD)) (E : ExcG K mg "BadRatio" CR) : FnOk P w K mg base (L2.CX P w) 4 f fd ["ratio"] (spG K (RNeed CR fwD)) := by
  refine fn_mk F scneed_forward (fun dvs M q ex h => ?_) (fun X C dvs M q ex h => ?_)
  · obtain ⟨x, rfl, _⟩ := h
    rfl
  · obtain ⟨x, rfl, hs, hq, he⟩ := h
    have v0 := C.var 0 (x := "ratio")
    have f_need_ratio := C.fd Fneed_ratio
    have g_need_ratio := C.gl (x := "need_ratio")
    have eE := C.exc E
    have hr := C.room
    show G.Run X ex _ [some (.d x)] M _
    walk_at "s0"
    walk_at "go"
    refine ⟨hs, fun h => ?_, fun h => he (fwD_no h)⟩
    obtain ⟨a, b, rfl, h1, h2, h3⟩ := raD_inv h
    walk_at "go"
    refine ite_d (fun h3 => ?_) (fun h3 => ?_)
    · walk_at "go"
      exact he (by show (raD _ && !decide (a < 0)) = false; rw [decide_eq_true h3, Bool.not_true, Bool.and_false])
    · walk_at "go"
      exact hq (by show (raD _ && !decide (a < 0)) = true; rw [decide_eq_false h3, h]; rfl)
theorem ok_need_most {CM : Addr} {f : Addr} {fd : FuncData} (F : Fun K "need_most" "need_most" sneed_most f fd) (Fis_number : Fd P w K mg base "is_number" 1 RIsNum) (gM : GInt mg "MOST_MOST" 1000) (E : ExcG K mg "BadMost" CM) :
    FnOk P w K mg base (L2.CX P w) 2 f fd ["most"] (spG K fun dvs M q ex => ∃ x, dvs = [.d x] ∧ (numD x 1 1000 = true → q (.d .none) M) ∧ (numD x 1 1000 = false → ex.e CM M)) := by
  refine fn_mk F scneed_most (fun dvs M q ex h => ?_) (fun X C dvs M q ex h => ?_)
  · obtain ⟨x, rfl, _⟩ := h
    rfl
  · obtain ⟨x, rfl, hq, he⟩ := h
    have v0 := C.var 0 (x := "most")
    have f_is_number := C.fd Fis_number
    have g_is_number := C.gl (x := "is_number")
    have eE := C.exc E
    have eM := C.gint gM
    have hr := C.room
    show G.Run X ex _ [some (.d x)] M _
    walk_at "s0"
    walk_at "go"
    refine ite_nb (fun h => ?_) (fun h => ?_)
    · walk_at "go"
      exact he h
    · walk_at "go"
      exact hq h
def RTurn : RT := fun dvs M q ex => ∃ a b c d : Int, dvs = [.d (.tuple [.int a, .int b]), .d (.tuple [.int c, .int d])] ∧ (a.natAbs < 2 ^ 8000 ∧ b.natAbs < 2 ^ 8000 ∧ c.natAbs < 2 ^ 8000 ∧ d.natAbs < 2 ^ 8000) ∧ q (.d (.int (a * d - c * b))) M
theorem ok_turn_of {f : Addr} {fd : FuncData} {n : Nat} (F : Fun K "turn_of" "turn_of" sturn_of f fd) : FnOk P w K mg base (L2.CX P w) (n + 1) f fd ["one", "other"] (spG K RTurn) := by
  refine fn_mk F scturn_of (fun dvs M q ex h => ?_) (fun X C dvs M q ex h => ?_)
  · obtain ⟨a, b, c, d, rfl, _⟩ := h
    rfl
  · obtain ⟨a, b, c, d, rfl, ⟨h1, h2, h3, h4⟩, hq⟩ := h
    have v0 := C.var 0 (x := "one")
    have v1 := C.var 1 (x := "other")
    have hr := C.room
    show G.Run X ex _ [some (.d (.tuple [.int a, .int b])), some (.d (.tuple [.int c, .int d]))] M _
    walk_at "s0"
    walk_at "go"
    exact hq
end
end K56
/-! K56b: neighbours, are_neighbours. -/
namespace K56
open PySem PySem.Spec PyProof.Rows L2 G
/-! ### the mathematics: fractions between neighbours -/
theorem far1 {a b c d p q : Int} (h : c * b - a * d = 1) (h1 : 0 ≤ a) (h2 : 0 ≤ c) (h3 : a * q < p * b) (h4 : p * d < c * q) : a + c ≤ p := by
  have e : p = a * (c * q - p * d) + c * (p * b - a * q) := by grind
  have e1 : a * 1 ≤ a * (c * q - p * d) := Int.mul_le_mul_of_nonneg_left (by omega) h1
  have e2 : c * 1 ≤ c * (p * b - a * q) := Int.mul_le_mul_of_nonneg_left (by omega) h2
  omega
theorem far2 {a b c d p q : Int} (h : c * b - a * d = 1) (h1 : 0 ≤ b) (h2 : 0 ≤ d) (h3 : a * q < p * b) (h4 : p * d < c * q) : b + d ≤ q := by
  have e : q = b * (c * q - p * d) + d * (p * b - a * q) := by grind
  have e1 : b * 1 ≤ b * (c * q - p * d) := Int.mul_le_mul_of_nonneg_left (by omega) h1
  have e2 : d * 1 ≤ d * (p * b - a * q) := Int.mul_le_mul_of_nonneg_left (by omega) h2
  omega
theorem low_same {p q s t : Int} (hp : 0 < p) (hq : 0 < q) (hg : Int.gcd p q = 1) (h : s * q = p * t) (hs : 0 ≤ s) (h1 : s ≤ p) (h2 : s ≠ 0) : s = p ∧ t = q := by
  have d1 : p.natAbs ∣ s.natAbs * q.natAbs := by
    rw [← Int.natAbs_mul, h, Int.natAbs_mul]
    exact Nat.dvd_mul_right _ _
  have d2 : p.natAbs ∣ s.natAbs := Nat.Coprime.dvd_of_dvd_mul_right (show Nat.Coprime p.natAbs q.natAbs from hg) d1
  have d3 := Nat.le_of_dvd (by omega) d2
  have e : s = p := by omega
  subst e
  refine ⟨rfl, ?_⟩
  have h' : s * (t - q) = 0 := by grind
  rcases Int.mul_eq_zero.mp h' with z | z <;> omega
structure Nb (p q m a b c d : Int) : Prop where
  a0 : 0 ≤ a
  b0 : 0 ≤ b
  c0 : 0 ≤ c
  d0 : 0 ≤ d
  am : a ≤ m
  bm : b ≤ m
  cm : c ≤ m
  dm : d ≤ m
  det : c * b - a * d = 1
  lo : a * q < p * b
  hi : p * d < c * q
def NbR (p q m a b c d : Int) : Prop := (p ≤ m ∧ q ≤ m ∧ a = p ∧ b = q ∧ c = p ∧ d = q) ∨ ((m < p ∨ m < q) ∧ Nb p q m a b c d ∧ (m < a + c ∨ m < b + d))
theorem Nb.start {p q m : Int} (hp : 0 < p) (hq : 0 < q) (hm : 1 ≤ m) : Nb p q m 0 1 1 0 := ⟨by omega, by omega, by omega, by omega, by omega, by omega, by omega, by omega, by omega, by omega, by omega⟩
theorem Nb.up {p q m a b c d : Int} (n : Nb p q m a b c d) (h1 : a + c ≤ m) (h2 : b + d ≤ m) (h : p * (b + d) < (a + c) * q) : Nb p q m a b (a + c) (b + d) := by
  have := n.a0; have := n.b0; have := n.c0; have := n.d0
  exact ⟨n.a0, n.b0, by omega, by omega, n.am, n.bm, h1, h2, by have := n.det; grind, n.lo, h⟩
theorem Nb.down {p q m a b c d : Int} (n : Nb p q m a b c d) (h1 : a + c ≤ m) (h2 : b + d ≤ m) (h : (a + c) * q < p * (b + d)) : Nb p q m (a + c) (b + d) c d := by
  have := n.a0; have := n.b0; have := n.c0; have := n.d0
  exact ⟨by omega, by omega, n.c0, n.d0, h1, h2, n.cm, n.dm, by have := n.det; grind, h, n.hi⟩
theorem Nb.pos1 {p q m a b c d : Int} (n : Nb p q m a b c d) : 0 < a + b := by
  have := n.a0; have := n.b0
  have h := n.det
  rcases Int.lt_or_le 0 (a + b) with z | z
  · exact z
  · have ea : a = 0 := by omega
    have eb : b = 0 := by omega
    subst ea eb
    simp at h
theorem Nb.pos2 {p q m a b c d : Int} (n : Nb p q m a b c d) : 0 < c + d := by
  have := n.c0; have := n.d0
  have h := n.det
  rcases Int.lt_or_le 0 (c + d) with z | z
  · exact z
  · have ea : c = 0 := by omega
    have eb : d = 0 := by omega
    subst ea eb
    simp at h
theorem Nb.posac {p q m a b c d : Int} (n : Nb p q m a b c d) : a + c ≠ 0 := by
  intro z
  have := n.a0; have := n.c0
  have ea : a = 0 := by omega
  have eb : c = 0 := by omega
  have h := n.det
  subst ea eb
  simp at h
/-! ### the walk -/
abbrev sneighbours : Stmt := topS 18
theorem scneighbours : FnScope ["ratio", "most", "low", "high", "middle"] ["ratio", "most"] (defScope sneighbours) := ⟨rfl, rfl, rfl, by decide +kernel, rfl, by decide +kernel, by decide +kernel⟩
theorem numD_inv {x : PyData} {lo hi : Int} (h : numD x lo hi = true) : ∃ m, x = .int m ∧ lo ≤ m ∧ m ≤ hi := by
  unfold numD at h
  split at h
  · rename_i i
    simp only [Bool.and_eq_true, decide_eq_true_eq] at h
    exact ⟨i, rfl, h.1, h.2⟩
  · cases h
def nbT (a b c d : Int) : PyData := .tuple [.tuple [.int a, .int b], .tuple [.int c, .int d]]
def RMost (CM : Addr) : RT := fun dvs M q ex => ∃ x, dvs = [.d x] ∧ (numD x 1 1000 = true → q (.d .none) M) ∧ (numD x 1 1000 = false → ex.e CM M)
def RNbs (CR CM : Addr) : RT := fun dvs M Q ex => ∃ x y, dvs = [.d x, .d y] ∧ SmR x ∧ (fwD x = false → ex.e CR M) ∧ (fwD x = true → numD y 1 1000 = false → ex.e CM M) ∧
  ∀ p q m, x = .tuple [.int p, .int q] → y = .int m → 0 < p → 0 < q → Int.gcd p q = 1 → 1 ≤ m → m ≤ 1000 → ∀ a b c d, NbR p q m a b c d → Q (.d (nbT a b c d)) M
theorem pow8 {a : Int} (h1 : 0 ≤ a) (h2 : a ≤ 100000) : a.natAbs < 2 ^ 8000 := Nat.lt_of_le_of_lt (show a.natAbs ≤ 2 ^ 17 by omega) (Nat.pow_lt_pow_right (by decide) (by decide))
theorem eqv_pair (a b c d : Int) : PyData.eqv (.tuple [.int a, .int b]) (.tuple [.int c, .int d]) = (decide (a = c) && decide (b = d)) := by
  simp only [PyData.eqv, PyData.eqvAll, Bool.and_true]
  by_cases h1 : a = c <;> by_cases h2 : b = d <;> simp [h1, h2]
section
variable {P : Program} {w : World} {K : PySem.W.Frag} {mg : Str → Option Value} {base : Heap}
theorem ok_neighbours {CR CM : Addr} {f : Addr} {fd : FuncData} (F : Fun K "neighbours" "neighbours" sneighbours f fd) (B : Bt mg) (Fneed_forward : Fd P w K mg base "need_forward" 4 (RNeed CR fwD)) (Fneed_most : Fd P w K mg base "need_most" 2 (RMost CM)) (Fturn_of : Fd P w K mg base "turn_of" 1 RTurn)
    (gN : GPair K mg "NOTHING" 0 1) (gE : GPair K mg "NO_END" 1 0) : FnOk P w K mg base (L2.CX P w) 5 f fd ["ratio", "most"] (spG K (RNbs CR CM)) := by
  refine fn_mk F scneighbours (fun dvs M q ex h => ?_) (fun X C dvs M Q ex h => ?_)
  · obtain ⟨x, y, rfl, _⟩ := h
    rfl
  · obtain ⟨x, y, rfl, hs, hR, hM, hQ⟩ := h
    have v0 := C.var 0 (x := "ratio")
    have v1 := C.var 1 (x := "most")
    have v2 := C.var 2 (x := "low")
    have l2 := C.loc 2 (x := "low")
    have v3 := C.var 3 (x := "high")
    have l3 := C.loc 3 (x := "high")
    have v4 := C.var 4 (x := "middle")
    have l4 := C.loc 4 (x := "middle")
    have hcalm := C.calm
    have b_max : BltOk _ "max" := ⟨C.gl (x := "max"), by rw [C.mg]; exact B.max_⟩
    have f_need_forward := C.fd Fneed_forward
    have g_need_forward := C.gl (x := "need_forward")
    have f_need_most := C.fd Fneed_most
    have g_need_most := C.gl (x := "need_most")
    have f_turn_of := C.fd Fturn_of
    have g_turn_of := C.gl (x := "turn_of")
    have eN := C.gpair gN
    have eE := C.gpair gE
    have hr := C.room
    show G.Run X ex _ [some (.d x), some (.d y), none, none, none] M _
    walk_at "s0"
    walk_at "go"
    refine ⟨hs, fun h => ?_, hR⟩
    obtain ⟨p, q, rfl, h1, h2, h3⟩ := fwD_inv h
    walk_at "go"
    refine ⟨fun h4 => ?_, hM h⟩
    obtain ⟨m, rfl, m1, m2⟩ := numD_inv h4
    obtain ⟨sp, sq⟩ := hs p q rfl
    have hQ' := hQ p q m rfl rfl h3 h1 h2 m1 m2
    walk_at "go"
    refine run_while' C (fun k ρ' M' => ∃ (a b c d : Int) (mid : Option DV), ρ' = [some (.d (.tuple [.int p, .int q])), some (.d (.int m)), some (.d (.tuple [.int a, .int b])), some (.d (.tuple [.int c, .int d])), mid] ∧ M' = M ∧ Nb p q m a b c d ∧ k = (4 * m - (a + b + c + d)).toNat) _ ⟨0, 1, 1, 0, none, rfl, rfl, Nb.start h3 h1 m1, rfl⟩ ?_
    rintro k ρ' M' ⟨a, b, c, d, mid, rfl, rfl, n, rfl⟩
    have a0 := n.a0; have b0 := n.b0; have c0 := n.c0; have d0 := n.d0
    have am := n.am; have bm := n.bm; have cm := n.cm; have dm := n.dm
    walk_at "go"
    refine ite_d (fun h5 => ?_) (fun h5 => ?_)
    · walk_at "go"
      have f1 := far1 n.det a0 c0 n.lo n.hi
      have f2 := far2 n.det b0 d0 n.lo n.hi
      exact hQ' a b c d (.inr ⟨by omega, n, by omega⟩)
    · walk_at "go"
      have s1 : (a + c).natAbs < 2 ^ 8000 := pow8 (by omega) (by omega)
      have s2 : (b + d).natAbs < 2 ^ 8000 := pow8 (by omega) (by omega)
      rw [eqv_pair]
      refine ite_b (fun h6 => ?_) (fun h6 => ?_)
      · simp only [Bool.and_eq_true, decide_eq_true_eq] at h6
        walk_at "go"
        exact hQ' p q p q (.inl ⟨by omega, by omega, rfl, rfl, rfl, rfl⟩)
      · walk_at "go"
        refine ⟨⟨s1, s2, sp, sq⟩, ?_⟩
        walk_at "go"
        refine ite_d (fun h7 => ?_) (fun h7 => ?_)
        · walk_at "go"
          have np := n.pos1
          refine ⟨_, ?_, a, b, a + c, b + d, _, rfl, rfl, n.up (by omega) (by omega) (by omega), rfl⟩
          omega
        · walk_at "go"
          have np := n.pos2
          have ne : ¬ (a + c) * q = p * (b + d) := fun z => by
            have f1 := far1 n.det a0 c0 n.lo n.hi
            obtain ⟨e1, e2⟩ := low_same h3 h1 h2 z (by omega) f1 n.posac
            rw [e1, e2] at h6
            simp at h6
          refine ⟨_, ?_, a + c, b + d, c, d, _, rfl, rfl, n.down (by omega) (by omega) (by omega), rfl⟩
          omega
end
end K56
/-! K56c: is_end, are_neighbours. -/
namespace K56
open PySem PySem.Spec PyProof.Rows L2 G
abbrev sis_end : Stmt := topS 19
theorem scis_end : FnScope ["thing", "one"] ["thing"] (defScope sis_end) := ⟨rfl, rfl, rfl, by decide +kernel, rfl, by decide +kernel, by decide +kernel⟩
abbrev sare_neighbours : Stmt := topS 20
theorem scare_neighbours : FnScope ["ratio", "most", "thing", "low", "high", "one"] ["ratio", "most", "thing"] (defScope sare_neighbours) := ⟨rfl, rfl, rfl, by decide +kernel, rfl, by decide +kernel, by decide +kernel⟩
def nnD (x : PyData) : Bool := match x with
  | .int i => decide (0 ≤ i)
  | _ => false
def endD (x : PyData) : Bool := match x with
  | .tuple [a, b] => nnD a && nnD b
  | _ => false
theorem endD_len {ds : List PyData} (h : ds.length ≠ 2) : endD (.tuple ds) = false := by
  match ds, h with
  | [], _ => rfl
  | [a], _ => rfl
  | [_, _], h => exact absurd rfl h
  | a :: b :: c :: l, _ => rfl
theorem nnD_inv {x : PyData} (h : nnD x = true) : ∃ i, x = .int i ∧ 0 ≤ i := by
  cases x <;> first | exact ⟨_, rfl, of_decide_eq_true h⟩ | cases h
theorem endD_inv {x : PyData} (h : endD x = true) : ∃ a b : Int, x = .tuple [.int a, .int b] ∧ 0 ≤ a ∧ 0 ≤ b := by
  unfold endD at h
  split at h
  · simp only [Bool.and_eq_true] at h
    obtain ⟨a, rfl, ha⟩ := nnD_inv h.1
    obtain ⟨b, rfl, hb⟩ := nnD_inv h.2
    exact ⟨a, b, rfl, ha, hb⟩
  · cases h
def REnd : RT := fun dvs M q ex => ∃ x, dvs = [.d x] ∧ q (.d (.bool (endD x))) M
/-- what is next to p / q on both sides, with numbers up to m -/
def IsNP (p q m a b c d : Int) : Prop := (0 ≤ a ∧ 0 ≤ b ∧ 0 ≤ c ∧ 0 ≤ d) ∧ (max p q ≤ m → (a = p ∧ b = q) ∧ c = p ∧ d = q) ∧ (m < max p q → (a ≤ m ∧ b ≤ m ∧ c ≤ m ∧ d ≤ m) ∧ m < max (a + c) (b + d) ∧ c * b - a * d = 1 ∧ a * q < p * b ∧ p * d < c * q)
instance {p q m a b c d : Int} : Decidable (IsNP p q m a b c d) := by unfold IsNP; exact inferInstance
def isN (p q m : Int) (z : PyData) : Bool := match z with
  | .tuple [.tuple [.int a, .int b], .tuple [.int c, .int d]] => decide (IsNP p q m a b c d)
  | _ => false
theorem isN_len {p q m : Int} {ds : List PyData} (h : ds.length ≠ 2) : isN p q m (.tuple ds) = false := by
  match ds, h with
  | [], _ => rfl
  | [a], _ => unfold isN; split <;> first | rfl | (rename_i z; cases z)
  | [_, _], h => exact absurd rfl h
  | a :: b :: c :: l, _ => unfold isN; split <;> first | rfl | (rename_i z; cases z)
theorem isN_no {p q m : Int} {x y : PyData} (h : [endD x, endD y].all id = false) : isN p q m (.tuple [x, y]) = false := by
  unfold isN
  split
  · rename_i z
    cases z
    refine decide_eq_false fun z => ?_
    obtain ⟨⟨h1, h2, h3, h4⟩, _⟩ := z
    have e : ∀ {a b : Int}, 0 ≤ a → 0 ≤ b → endD (.tuple [.int a, .int b]) = true := fun {a b} ha hb => by
      show (decide (0 ≤ a) && decide (0 ≤ b)) = true
      rw [decide_eq_true ha, decide_eq_true hb]
      rfl
    rw [e h1 h2, e h3 h4] at h
    cases h
  · rfl
theorem ends_of {x y : PyData} (h : [endD x, endD y].all id = true) : ∃ a b c d : Int, x = .tuple [.int a, .int b] ∧ y = .tuple [.int c, .int d] ∧ 0 ≤ a ∧ 0 ≤ b ∧ 0 ≤ c ∧ 0 ≤ d := by
  have h' : (endD x && (endD y && true)) = true := h
  simp only [Bool.and_eq_true] at h'
  obtain ⟨a, b, e1, ha, hb⟩ := endD_inv h'.1
  obtain ⟨c, d, e2, hc, hd⟩ := endD_inv h'.2.1
  exact ⟨a, b, c, d, e1, e2, ha, hb, hc, hd⟩
def Sm4 (z : PyData) : Prop := ∀ a b c d, z = nbT a b c d → a.natAbs < 2 ^ 8000 ∧ b.natAbs < 2 ^ 8000 ∧ c.natAbs < 2 ^ 8000 ∧ d.natAbs < 2 ^ 8000
def RAre (CR CM : Addr) : RT := fun dvs M Q ex => ∃ x y z, dvs = [.d x, .d y, .d z] ∧ SmR x ∧ (fwD x = false → ex.e CR M) ∧ (fwD x = true → numD y 1 1000 = false → ex.e CM M) ∧
  ∀ p q m, x = .tuple [.int p, .int q] → y = .int m → 0 < p → 0 < q → Int.gcd p q = 1 → 1 ≤ m → m ≤ 1000 → Sm4 z ∧ Q (.d (.bool (isN p q m z))) M
section
variable {P : Program} {w : World} {K : PySem.W.Frag} {mg : Str → Option Value} {base : Heap}
theorem ok_is_end {f : Addr} {fd : FuncData} (F : Fun K "is_end" "is_end" sis_end f fd) (B : Bt mg) (Fis_integer : Fd P w K mg base "is_integer" 1 RIsInt) : FnOk P w K mg base (L2.CX P w) 2 f fd ["thing"] (spG K REnd) := by
  refine fn_mk F scis_end (fun dvs M q ex h => ?_) (fun X C dvs M q ex h => ?_)
  · obtain ⟨x, rfl, _⟩ := h
    rfl
  · obtain ⟨x, rfl, hq⟩ := h
    have v0 := C.var 0 (x := "thing")
    have hcalm := C.calm
    have b_isinstance : BltOk _ "isinstance" := ⟨C.gl (x := "isinstance"), by rw [C.mg]; exact B.isinstance_⟩
    have b_len : BltOk _ "len" := ⟨C.gl (x := "len"), by rw [C.mg]; exact B.len_⟩
    have b_tuple : BltOk _ "tuple" := ⟨C.gl (x := "tuple"), by rw [C.mg]; exact B.tuple_⟩
    have b_all : BltOk _ "all" := ⟨C.gl (x := "all"), by rw [C.mg]; exact B.all_⟩
    have hr := C.room
    show G.Run X ex _ [some (.d x), none] M _
    walk_at "s0"
    cases x with
    | tuple ds =>
      walk_at "go"
      refine ite_d (fun h1 => ?_) (fun h1 => ?_)
      · obtain ⟨x, y, rfl⟩ : ∃ x y, ds = [x, y] := two_of (by omega)
        walk_at "go"
        refine is_ev (ev_lcT C.calm C.nod C.blk (fun s H C0 cl fp => C.bloc 1) rfl (fun d => some (.bool (nnD d))) ?_)
        walk_at "nm"
        refine ⟨_, rfl, by show 2 ≤ 100000; decide, fun d hd => ?_, ?_⟩
        · refine lc_of C (fun Y C M => ets_nil ⟨rfl, rfl⟩) (fun Y C M y hy => ?_)
          have v1 := C.var 1 (x := "one")
          have f_is_integer := C.fd Fis_integer
          have g_is_integer := C.gl (x := "is_integer")
          have hr := C.room
          cases hy
          cases d with
          | int i =>
            walk_at "go"
            exact ⟨rfl, rfl⟩
          | _ =>
            walk_at "go"
            exact ⟨rfl, rfl⟩
        · rw [fmap_some]
          refine ea_nil (rc_all (bs := [nnD x, nnD y]) ?_)
          exact qb hq (by show (nnD x && nnD y) = (nnD x && (nnD y && true)); rw [Bool.and_true])
      · walk_at "go"
        show q _ M
        rw [endD_len (fun z => h1 (by rw [z]; rfl))] at hq
        exact hq
    | _ =>
      walk_at "go"
      exact hq
theorem ok_are_neighbours {CR CM : Addr} {f : Addr} {fd : FuncData} (F : Fun K "are_neighbours" "are_neighbours" sare_neighbours f fd) (B : Bt mg) (Fneed_forward : Fd P w K mg base "need_forward" 4 (RNeed CR fwD)) (Fneed_most : Fd P w K mg base "need_most" 2 (RMost CM)) (Fturn_of : Fd P w K mg base "turn_of" 1 RTurn)
    (Fis_end : Fd P w K mg base "is_end" 2 REnd) : FnOk P w K mg base (L2.CX P w) 5 f fd ["ratio", "most", "thing"] (spG K (RAre CR CM)) := by
  refine fn_mk F scare_neighbours (fun dvs M q ex h => ?_) (fun X C dvs M Q ex h => ?_)
  · obtain ⟨x, y, z, rfl, _⟩ := h
    rfl
  · obtain ⟨x, y, z, rfl, hs, hR, hM, hQ⟩ := h
    have v0 := C.var 0 (x := "ratio")
    have v1 := C.var 1 (x := "most")
    have v2 := C.var 2 (x := "thing")
    have v3 := C.var 3 (x := "low")
    have l3 := C.loc 3 (x := "low")
    have v4 := C.var 4 (x := "high")
    have l4 := C.loc 4 (x := "high")
    have hcalm := C.calm
    have b_isinstance : BltOk _ "isinstance" := ⟨C.gl (x := "isinstance"), by rw [C.mg]; exact B.isinstance_⟩
    have b_tuple : BltOk _ "tuple" := ⟨C.gl (x := "tuple"), by rw [C.mg]; exact B.tuple_⟩
    have b_len : BltOk _ "len" := ⟨C.gl (x := "len"), by rw [C.mg]; exact B.len_⟩
    have b_all : BltOk _ "all" := ⟨C.gl (x := "all"), by rw [C.mg]; exact B.all_⟩
    have b_max : BltOk _ "max" := ⟨C.gl (x := "max"), by rw [C.mg]; exact B.max_⟩
    have f_need_forward := C.fd Fneed_forward
    have g_need_forward := C.gl (x := "need_forward")
    have f_need_most := C.fd Fneed_most
    have g_need_most := C.gl (x := "need_most")
    have f_turn_of := C.fd Fturn_of
    have g_turn_of := C.gl (x := "turn_of")
    have hr := C.room
    show G.Run X ex _ [some (.d x), some (.d y), some (.d z), none, none, none] M _
    walk_at "s0"
    walk_at "go"
    refine ⟨hs, fun h => ?_, hR⟩
    obtain ⟨p, q, rfl, h1, h2, h3⟩ := fwD_inv h
    walk_at "go"
    refine ⟨fun h4 => ?_, hM h⟩
    obtain ⟨m, rfl, m1, m2⟩ := numD_inv h4
    obtain ⟨sp, sq⟩ := hs p q rfl
    obtain ⟨hz, hQ'⟩ := hQ p q m rfl rfl h3 h1 h2 m1 m2
    cases z with
    | tuple ds =>
      walk_at "go"
      refine ite_nd (fun h5 => ?_) (fun h5 => ?_)
      · walk_at "go"
        show Q _ M
        rw [isN_len (fun z => h5 (by rw [z]; rfl))] at hQ'
        exact hQ'
      · obtain ⟨x, y, rfl⟩ : ∃ x y, ds = [x, y] := two_of (by omega)
        walk_at "go"
        refine is_ev (ev_lcT C.calm C.nod C.blk (fun s H C0 cl fp => C.bloc 5) rfl (fun d => some (.bool (endD d))) ?_)
        walk_at "nm"
        refine ⟨_, rfl, by show 2 ≤ 100000; decide, fun d hd => ?_, ?_⟩
        · refine lc_of C (fun Y C M => ets_nil ⟨rfl, rfl⟩) (fun Y C M y hy => ?_)
          have v5 := C.var 5 (x := "one")
          have f_is_end := C.fd Fis_end
          have g_is_end := C.gl (x := "is_end")
          have hr := C.room
          cases hy
          walk_at "go"
          exact ⟨rfl, rfl⟩
        · rw [fmap_some]
          refine ea_nil (rc_all (bs := [endD x, endD y]) ⟨_, rfl, ?_⟩)
          refine ite_nb (fun h6 => ?_) (fun h6 => ?_)
          · walk_at "go"
            show Q _ M
            rw [isN_no h6] at hQ'
            exact hQ'
          · obtain ⟨a, b, c, d, rfl, rfl, a0, b0, c0, d0⟩ := ends_of h6
            obtain ⟨sa, sb, sc, sd⟩ := hz a b c d rfl
            walk_at "go"
            refine run_unpack (is := [3, 4]) C (.cons l3 (.cons l4 .nil)) ?_ rfl (fun _ => rfl)
            walk_at "nm"
            refine ⟨_, rfl, rfl, ?_⟩
            walk_at "go"
            have e0 : Q (.d (.bool (decide (IsNP p q m a b c d)))) M := hQ'
            refine ite_d (fun h7 => ?_) (fun h7 => ?_)
            · walk_at "go"
              rw [eqv_pair]
              refine ite_b (fun h8 => ?_) (fun h8 => ?_)
              · walk_at "go"
                rw [eqv_pair]
                refine qb e0 ?_
                simp only [Bool.and_eq_true, decide_eq_true_eq] at h8
                rw [← Bool.decide_and]
                exact decide_eq_decide.mpr ⟨fun z => (z.2.1 h7).2, fun z => ⟨⟨a0, b0, c0, d0⟩, fun _ => ⟨h8, z⟩, fun z' => by omega⟩⟩
              · refine qb e0 (decide_eq_false fun z => ?_)
                have z' := (z.2.1 h7).1
                rw [decide_eq_true z'.1, decide_eq_true z'.2] at h8
                cases h8
            · walk_at "go"
              have h7' : m < max p q := by omega
              refine ite_d (fun h8 => ?_) (fun h8 => ?_)
              · walk_at "go"
                refine qb e0 (decide_eq_false fun z => ?_)
                have z' := (z.2.2 h7').1
                omega
              · walk_at "go"
                refine ite_d (fun h9 => ?_) (fun h9 => ?_)
                · walk_at "go"
                  refine qb e0 (decide_eq_false fun z => ?_)
                  have z' := (z.2.2 h7').2.1
                  omega
                · walk_at "go"
                  refine ⟨⟨sc, sd, sa, sb⟩, ?_⟩
                  walk_at "go"
                  refine ite_d (fun h10 => ?_) (fun h10 => ?_)
                  · walk_at "go"
                    refine ⟨⟨sp, sq, sa, sb⟩, ?_⟩
                    walk_at "go"
                    refine ite_d (fun h11 => ?_) (fun h11 => ?_)
                    · walk_at "go"
                      refine ⟨⟨sc, sd, sp, sq⟩, ?_⟩
                      walk_at "go"
                      refine qb e0 (decide_eq_decide.mpr ⟨fun z => ?_, fun z => ⟨⟨a0, b0, c0, d0⟩, fun z' => by omega, fun _ => ⟨⟨by omega, by omega, by omega, by omega⟩, by omega, h10, by omega, by omega⟩⟩⟩)
                      have z' := (z.2.2 h7').2.2.2.2
                      omega
                    · refine qb e0 (decide_eq_false fun z => ?_)
                      have z' := (z.2.2 h7').2.2.2.1
                      omega
                  · refine qb e0 (decide_eq_false fun z => ?_)
                    have z' := (z.2.2 h7').2.2.1
                    omega
    | _ =>
      walk_at "go"
      exact hQ'
end
end K56
/-! K56d: the law's own helpers: draws. -/
namespace K56
open PySem PySem.Spec PyProof.Rows L2 G
abbrev s_law_mixed : Stmt := topS 23
theorem sc_law_mixed : FnScope ["draw", "turn", "found", "prime", "blend", "grain"] ["draw"] (defScope s_law_mixed) := ⟨rfl, rfl, rfl, by decide +kernel, rfl, by decide +kernel, by decide +kernel⟩
abbrev s_law_take : Stmt := topS 24
theorem sc_law_take : FnScope ["draw", "many", "found"] ["draw", "many"] (defScope s_law_take) := ⟨rfl, rfl, rfl, by decide +kernel, rfl, by decide +kernel, by decide +kernel⟩
abbrev s_law_pick : Stmt := topS 25
theorem sc_law_pick : FnScope ["draw", "some"] ["draw", "some"] (defScope s_law_pick) := ⟨rfl, rfl, rfl, by decide +kernel, rfl, by decide +kernel, by decide +kernel⟩
def RMixed : RT := fun dvs M q ex => ∃ (p : Addr) (t : Nat), dvs = [.v (.ref p)] ∧ t < 1000000 ∧ Dr M p t ∧ ∀ i M', Dr M' p (t + 1) → q (.d (.int i)) M'
def lp : List Int := [2147483647, 2147483629, 2147483587, 2147483579]
theorem lp_ok : ∀ x ∈ lp, 2147483579 ≤ x ∧ x ≤ 2147483647 := by decide
section
variable {P : Program} {w : World} {K : PySem.W.Frag} {mg : Str → Option Value} {base : Heap}
theorem ok__law_mixed {f : Addr} {fd : FuncData} {n : Nat} (F : Fun K "_law_mixed" "_law_mixed" s_law_mixed f fd) (B : Bt mg) : FnOk P w K mg base (L2.CX P w) (n + 1) f fd ["draw"] (spG K RMixed) := by
  refine fn_mk F sc_law_mixed (fun dvs M q ex h => ?_) (fun X C dvs M Q ex h => ?_)
  · obtain ⟨p, t, rfl, _⟩ := h
    rfl
  · obtain ⟨p, t, rfl, ht, ⟨a, b, wide, cells, rest, turn, D, t0, t1, hc⟩, hQ⟩ := h
    have v0 := C.var 0 (x := "draw")
    have v1 := C.var 1 (x := "turn")
    have l1 := C.loc 1 (x := "turn")
    have v2 := C.var 2 (x := "found")
    have l2 := C.loc 2 (x := "found")
    have v3 := C.var 3 (x := "prime")
    have l3 := C.loc 3 (x := "prime")
    have v4 := C.var 4 (x := "blend")
    have l4 := C.loc 4 (x := "blend")
    have v5 := C.var 5 (x := "grain")
    have l5 := C.loc 5 (x := "grain")
    have hcalm := C.calm
    have b_int : BltOk _ "int" := ⟨C.gl (x := "int"), by rw [C.mg]; exact B.int_⟩
    have hr := C.room
    have hp := D.hp
    have k1 : (48271 : Int).natAbs < 2 ^ 16 := by decide
    have k2 : (69621 : Int).natAbs < 2 ^ 17 := by decide
    have k3 : (2147483647 : Int).natAbs < 2 ^ 31 := by decide
    have k4 : (turn + 1).natAbs < 2 ^ 21 := by omega
    show G.Run X ex _ [some (.v (.ref p)), none, none, none, none, none] M _
    walk_at "s0"
    walk_at "go"
    refine ⟨_, hp, dk_len, ?_⟩
    rw [put_turn]
    have D1 := D.put rest (turn + 1)
    have hp1 := D1.hp
    refine run_forL C (fun ds i ρ' M' => ds = lp.map PyData.int ∧ M' = upd M p (.dK (dk a b rest (turn + 1))) ∧ ∃ (z : Int) (o3 o4 o5 : Option DV), 0 ≤ z ∧ z < 4294967296 ^ (i + 1) ∧ ρ' = [some (.v (.ref p)), some (.d (.int (turn + 1))), some (.d (.int z)), o3, o4, o5]) ?_ ?_ ?_ rfl
    · walk_at "go"
      exact ⟨_, .inl rfl, rfl, rfl, 0, none, none, none, by decide, by decide, rfl⟩
    · rintro ds i d ρ' M' hi ⟨rfl, rfl, z, o3, o4, o5, z0, z1, rfl⟩
      rw [List.getElem?_map] at hi
      obtain ⟨r, hr1, rfl⟩ := Option.map_eq_some_iff.mp hi
      obtain ⟨r0, r1⟩ := lp_ok r (List.mem_of_getElem? hr1)
      have hi4 : i < 4 := (List.getElem?_eq_some_iff.mp hr1).1
      have kz : z.natAbs < 2 ^ 160 := by
        have h1 : (4294967296 : Int) ^ (i + 1) ≤ 4294967296 ^ 4 := by
          have h : i = 0 ∨ i = 1 ∨ i = 2 ∨ i = 3 := by omega
          rcases h with rfl | rfl | rfl | rfl <;> decide
        have h2 : (4294967296 : Int) ^ 4 = 340282366920938463463374607431768211456 := by decide
        have h3 : (2 : Nat) ^ 160 = 1461501637330902918203684832716283019655932542976 := by decide
        omega
      refine ga_name C.nod l3 ?_
      walk_at "s0"
      walk_at "go"
      have hb1 := D1.hb
      have ed := Int.ediv_le_self (a := r) 37 (by omega)
      have ed0 := Int.ediv_nonneg (a := r) (b := 37) (by omega) (by omega)
      refine run_forM C (l := b) (ns := cells) (fun j ρ' M' => M' = upd M p (.dK (dk a b rest (turn + 1))) ∧ ∃ (y : Int) (o5 : Option DV), y.natAbs < 2 ^ 60 ∧ ρ' = [some (.v (.ref p)), some (.d (.int (turn + 1))), some (.d (.int z)), some (.d (.int r)), some (.d (.int y)), o5]) ?_ ?_ ?_ ?_ rfl
      · walk_at "eo"
        exact ⟨rfl, rfl, _, _, by omega, rfl⟩
      · rintro j ρ' M' ⟨rfl, _⟩
        exact hb1
      · rintro j c ρ' M' hj ⟨rfl, y, o5, ky, rfl⟩
        obtain ⟨c0, c1⟩ := hc c (List.mem_of_getElem? hj)
        refine ga_name C.nod l5 ?_
        walk_at "s0"
        walk_at "go"
        have f0 := Int.emod_nonneg (y * 69621 + c + (turn + 1)) (b := r) (by omega)
        have f1 := Int.emod_lt_of_pos (y * 69621 + c + (turn + 1)) (b := r) (by omega)
        exact ⟨rfl, _, _, by omega, rfl⟩
      · rintro ρ' M' ⟨rfl, y, o5, ky, rfl⟩
        walk_at "go"
        have f0 := Int.emod_nonneg (y ^ (5 : Int).toNat) (b := r) (by omega)
        have f1 := Int.emod_lt_of_pos (y ^ (5 : Int).toNat) (b := r) (by omega)
        have e1 : (4294967296 : Int) ^ (i + 1 + 1) = 4294967296 ^ (i + 1) * 4294967296 := Int.pow_succ _ _
        exact ⟨rfl, rfl, _, _, _, _, by omega, by omega, rfl⟩
    · rintro ds ρ' M' ⟨rfl, rfl, z, o3, o4, o5, z0, z1, rfl⟩
      walk_at "go"
      exact hQ _ _ ⟨a, b, wide, cells, rest, turn + 1, D1, by omega, by omega, hc⟩
def RTake : RT := fun dvs M q ex => ∃ (p : Addr) (t : Nat) (m : Int), dvs = [.v (.ref p), .d (.int m)] ∧ t < 1000000 ∧ Dr M p t ∧ (0 < m ∧ m.natAbs < 2 ^ 8000) ∧ ∀ i M', 0 ≤ i → i < m → Dr M' p (t + 1) → q (.d (.int i)) M'
theorem ok__law_take {f : Addr} {fd : FuncData} (F : Fun K "_law_take" "_law_take" s_law_take f fd) (B : Bt mg) (F_law_mixed : Fd P w K mg base "_law_mixed" 1 RMixed) : FnOk P w K mg base (L2.CX P w) 2 f fd ["draw", "many"] (spG K RTake) := by
  refine fn_mk F sc_law_take (fun dvs M q ex h => ?_) (fun X C dvs M Q ex h => ?_)
  · obtain ⟨p, t, m, rfl, _⟩ := h
    rfl
  · obtain ⟨p, t, m, rfl, ht, Dt, ⟨m0, km⟩, hQ⟩ := h
    have v0 := C.var 0 (x := "draw")
    have v1 := C.var 1 (x := "many")
    have v2 := C.var 2 (x := "found")
    have l2 := C.loc 2 (x := "found")
    have hcalm := C.calm
    have b_int : BltOk _ "int" := ⟨C.gl (x := "int"), by rw [C.mg]; exact B.int_⟩
    have f__law_mixed := C.fd F_law_mixed
    have g__law_mixed := C.gl (x := "_law_mixed")
    have hr := C.room
    -- what is behind the filling
    have rest_ok : ∀ {M' : MM} {Po : Post}, Po.rt = Q → Dr M' p (t + 1) → G.Run X ex (defBody s_law_take).tail [some (.v (.ref p)), some (.d (.int m)), none] M' Po := by
      rintro M' Po e ⟨a, b, wide, cells, rest, turn, D, t0, t1, hc⟩
      have hp := D.hp
      show G.Run X ex _ _ _ _
      walk_at "s0"
      walk_at "go"
      refine ⟨_, hp, dk_len, ?_⟩
      rw [put_rest]
      walk_at "go"
      rw [e]
      exact hQ _ _ (Int.emod_nonneg _ (by omega)) (Int.emod_lt_of_pos _ m0) ⟨a, b, wide, cells, _, turn, D.put _ turn, t0, t1, hc⟩
    obtain ⟨a, b, wide, cells, rest, turn, D, t0, t1, hc⟩ := id Dt
    have hp := D.hp
    have ha := D.ha
    show G.Run X ex _ [some (.v (.ref p)), some (.d (.int m)), none] M _
    walk_at "s0"
    walk_at "go"
    refine ite_d (fun h1 => ?_) (fun h1 => ?_)
    · walk_at "go"
      cases wide with
      | nil =>
        walk_at "go"
        refine ⟨p, t, rfl, ht, Dt, fun i M' D' => ⟨i, rfl, ?_⟩⟩
        obtain ⟨a', b', wide', cells', rest', turn', D', t0', t1', hc'⟩ := D'
        refine ⟨_, D'.hp, dk_len, ?_⟩
        rw [put_rest]
        refine run_nil ?_
        exact rest_ok (Po := { nx := fun _ M' => Q (.d .none) M', rt := Q }) rfl ⟨a', b', wide', cells', i, turn', D'.put i turn', t0', t1', hc'⟩
      | cons w0 wide =>
        walk_at "go"
        refine ev_popAt ?_ rfl rfl rfl
        walk_at "eo"
        refine ⟨a, _, rfl, ha, ?_⟩
        walk_at "ct"
        refine ⟨_, 0, 0, .int w0, ha, rfl, by decide, by decide, seq0 (by simp), rfl, w0, rfl, ?_⟩
        have D' := D.setw wide
        refine ⟨_, D'.hp, dk_len, ?_⟩
        rw [put_rest]
        refine run_nil ?_
        exact rest_ok (Po := { nx := fun _ M' => Q (.d .none) M', rt := Q }) rfl ⟨a, b, wide, cells, w0, turn, D'.put w0 turn, t0, by omega, hc⟩
    · refine run_nil ?_
      exact rest_ok (Po := { nx := fun _ M' => Q (.d .none) M', rt := Q }) rfl (Dt.mono (by omega))
def RPick : RT := fun dvs M q ex => ∃ (p : Addr) (t : Nat) (ds : List PyData), dvs = [.v (.ref p), .d (.list ds)] ∧ t < 1000000 ∧ Dr M p t ∧ (0 < ds.length ∧ ds.length ≤ 100000) ∧ ∀ d M', d ∈ ds → Dr M' p (t + 1) → q (.d d) M'
theorem ok__law_pick {f : Addr} {fd : FuncData} (F : Fun K "_law_pick" "_law_pick" s_law_pick f fd) (B : Bt mg) (F_law_take : Fd P w K mg base "_law_take" 2 RTake) : FnOk P w K mg base (L2.CX P w) 3 f fd ["draw", "some"] (spG K RPick) := by
  refine fn_mk F sc_law_pick (fun dvs M q ex h => ?_) (fun X C dvs M Q ex h => ?_)
  · obtain ⟨p, t, m, rfl, _⟩ := h
    rfl
  · obtain ⟨p, t, ds, rfl, ht, D, ⟨l0, l1⟩, hQ⟩ := h
    have v0 := C.var 0 (x := "draw")
    have v1 := C.var 1 (x := "some")
    have hcalm := C.calm
    have b_len : BltOk _ "len" := ⟨C.gl (x := "len"), by rw [C.mg]; exact B.len_⟩
    have f__law_take := C.fd F_law_take
    have g__law_take := C.gl (x := "_law_take")
    have hr := C.room
    show G.Run X ex _ [some (.v (.ref p)), some (.d (.list ds))] M _
    walk_at "s0"
    walk_at "go"
    refine ⟨_, _, _, rfl, ht, D, ⟨by omega, by omega⟩, fun i M' i0 i1 D' => ?_⟩
    obtain ⟨d, hd, he⟩ := atI_in i0 i1
    walk_at "go"
    exact hQ d M' hd D'
end
end K56
/-! K56e: the law's own helpers: fractions, what is the due one. -/
namespace K56
open PySem PySem.Spec PyProof.Rows L2 G
abbrev s_law_common : Stmt := topS 27
theorem sc_law_common : FnScope ["one", "other", "high", "low"] ["one", "other"] (defScope s_law_common) := ⟨rfl, rfl, rfl, by decide +kernel, rfl, by decide +kernel, by decide +kernel⟩
abbrev s_law_fraction : Stmt := topS 28
theorem sc_law_fraction : FnScope ["over_here", "under", "by"] ["over_here", "under"] (defScope s_law_fraction) := ⟨rfl, rfl, rfl, by decide +kernel, rfl, by decide +kernel, by decide +kernel⟩
abbrev s_law_is : Stmt := topS 29
theorem sc_law_is : FnScope ["told", "due", "k"] ["told", "due"] (defScope s_law_is) := ⟨rfl, rfl, rfl, by decide +kernel, rfl, by decide +kernel, by decide +kernel⟩
abbrev s_law_split : Stmt := topS 30
theorem sc_law_split : FnScope ["one", "other"] ["one", "other"] (defScope s_law_split) := ⟨rfl, rfl, rfl, by decide +kernel, rfl, by decide +kernel, by decide +kernel⟩
abbrev s_law_is_int : Stmt := topS 31
theorem sc_law_is_int : FnScope ["thing"] ["thing"] (defScope s_law_is_int) := ⟨rfl, rfl, rfl, by decide +kernel, rfl, by decide +kernel, by decide +kernel⟩
abbrev s_law_below : Stmt := topS 32
theorem sc_law_below : FnScope ["one", "other"] ["one", "other"] (defScope s_law_below) := ⟨rfl, rfl, rfl, by decide +kernel, rfl, by decide +kernel, by decide +kernel⟩
/-- over / under in lowest terms -/
def RFr : RT := fun dvs M Q ex => ∃ o u : Int, dvs = [.d (.int o), .d (.int u)] ∧ (0 < o ∧ 0 < u ∧ o.natAbs < 2 ^ 4000 ∧ u.natAbs < 2 ^ 4000) ∧ ∀ p q, 0 < p → 0 < q → Int.gcd p q = 1 → p ≤ o → q ≤ u → Q (.d (.tuple [.int p, .int q])) M
def RSplit : RT := fun dvs M Q ex => ∃ a b c d : Int, dvs = [.d (.tuple [.int a, .int b]), .d (.tuple [.int c, .int d])] ∧ (0 < a ∧ 0 < b ∧ 0 < c ∧ 0 < d ∧ a.natAbs < 2 ^ 1000 ∧ b.natAbs < 2 ^ 1000 ∧ c.natAbs < 2 ^ 1000 ∧ d.natAbs < 2 ^ 1000) ∧ ∀ p q, 0 < p → 0 < q → Int.gcd p q = 1 → p ≤ a * d → q ≤ b * c → Q (.d (.tuple [.int p, .int q])) M
def RBelow : RT := fun dvs M q ex => ∃ a b c d : Int, dvs = [.d (.tuple [.int a, .int b]), .d (.tuple [.int c, .int d])] ∧ (a.natAbs < 2 ^ 8000 ∧ b.natAbs < 2 ^ 8000 ∧ c.natAbs < 2 ^ 8000 ∧ d.natAbs < 2 ^ 8000) ∧ q (.d (.bool (decide (a * d < c * b)))) M
/-- what may be told: truths, numbers, tuples of these down to a depth -/
inductive Told : Nat → PyData → Prop
  | bl {n : Nat} (b : Bool) : Told n (.bool b)
  | int {n : Nat} (i : Int) : Told n (.int i)
  | tup {n : Nat} {ds : List PyData} (hl : ds.length ≤ 100000) (h : ∀ d ∈ ds, Told n d) : Told (n + 1) (.tuple ds)
def RIs (n : Nat) : RT := fun dvs M q ex => ∃ x, dvs = [.d x, .d x] ∧ Told n x ∧ q (.d (.bool true)) M
theorem gcd_le4 {o u : Int} (h : 0 < u) (hu : u.natAbs < 2 ^ 4000) : 0 < Int.gcd o u ∧ Int.gcd o u ≤ u.natAbs := by
  have h1 : Int.gcd o u ∣ u.natAbs := Nat.gcd_dvd_right _ _
  have h2 : 0 < u.natAbs := by omega
  exact ⟨Nat.pos_of_dvd_of_pos h1 h2, Nat.le_of_dvd h2 h1⟩
theorem lowest {o u : Int} (ho : 0 < o) (hu : 0 < u) : 0 < o / (Int.gcd o u : Nat) ∧ 0 < u / (Int.gcd o u : Nat) ∧ Int.gcd (o / (Int.gcd o u : Nat)) (u / (Int.gcd o u : Nat)) = 1 ∧ o / (Int.gcd o u : Nat) ≤ o ∧ u / (Int.gcd o u : Nat) ≤ u := by
  obtain ⟨m, rfl⟩ := Int.eq_ofNat_of_zero_le (Int.le_of_lt ho)
  obtain ⟨n, rfl⟩ := Int.eq_ofNat_of_zero_le (Int.le_of_lt hu)
  have hm : 0 < m := by omega
  have hn : 0 < n := by omega
  show 0 < ((m / Nat.gcd m n : Nat) : Int) ∧ 0 < ((n / Nat.gcd m n : Nat) : Int) ∧ Nat.gcd (m / Nat.gcd m n) (n / Nat.gcd m n) = 1 ∧ ((m / Nat.gcd m n : Nat) : Int) ≤ m ∧ ((n / Nat.gcd m n : Nat) : Int) ≤ n
  have hg : 0 < Nat.gcd m n := Nat.gcd_pos_of_pos_left _ hm
  have h1 := Nat.div_pos (Nat.le_of_dvd hm (Nat.gcd_dvd_left m n)) hg
  have h2 := Nat.div_pos (Nat.le_of_dvd hn (Nat.gcd_dvd_right m n)) hg
  have h3 := Nat.div_le_self m (Nat.gcd m n)
  have h4 := Nat.div_le_self n (Nat.gcd m n)
  exact ⟨by omega, by omega, Nat.gcd_div_gcd_div_gcd_of_pos_left hm, by omega, by omega⟩
section
variable {P : Program} {w : World} {K : PySem.W.Frag} {mg : Str → Option Value} {base : Heap}
theorem ok__law_common {f : Addr} {fd : FuncData} {n : Nat} (F : Fun K "_law_common" "_law_common" s_law_common f fd) (B : Bt mg) : FnOk P w K mg base (L2.CX P w) (n + 1) f fd ["one", "other"] (spG K RCommon) := by
  refine fn_mk F sc_law_common (fun dvs M q ex h => ?_) (fun X C dvs M q ex h => ?_)
  · obtain ⟨a, b, rfl, _⟩ := h
    rfl
  · obtain ⟨a, b, rfl, ha, hb, hq⟩ := h
    have v0 := C.var 0 (x := "one")
    have v1 := C.var 1 (x := "other")
    have v2 := C.var 2 (x := "high")
    have l2 := C.loc 2 (x := "high")
    have v3 := C.var 3 (x := "low")
    have l3 := C.loc 3 (x := "low")
    have hcalm := C.calm
    have b_abs : BltOk _ "abs" := ⟨C.gl (x := "abs"), by rw [C.mg]; exact B.abs_⟩
    have b_int : BltOk _ "int" := ⟨C.gl (x := "int"), by rw [C.mg]; exact B.int_⟩
    have hr := C.room
    show G.Run X ex _ [some (.d (.int a)), some (.d (.int b)), none, none] M _
    walk_at "s0"
    walk_at "go"
    refine run_while' C (fun m ρ' M' => ∃ h l : Int, ρ' = [some (.d (.int a)), some (.d (.int b)), some (.d (.int h)), some (.d (.int l))] ∧ M' = M ∧ 0 ≤ h ∧ 0 ≤ l ∧ Int.gcd h l = Int.gcd a b ∧ m = l.toNat) _ ⟨_, _, rfl, rfl, ?_, ?_, ?_, rfl⟩ ?_
    · split <;> omega
    · split <;> omega
    · exact gcd_abs a b
    · rintro m ρ' M' ⟨h, l, rfl, rfl, h0, l0, hg, rfl⟩
      walk_at "go"
      refine ite_d (fun hc => ?_) (fun hc => ?_)
      · walk_at "go"
        have e := Int.emod_lt_of_pos h hc
        have e' := Int.emod_nonneg h (Int.ne_of_gt hc)
        exact ⟨_, by omega, l, h % l, rfl, rfl, l0, e', by rw [gcd_step h0 l0]; exact hg, rfl⟩
      · walk_at "go"
        show q _ M'
        have e : l = 0 := by omega
        subst e
        rw [← hg, Int.gcd_zero_right, Int.natAbs_of_nonneg h0] at hq
        exact hq
theorem ok__law_fraction {f : Addr} {fd : FuncData} (F : Fun K "_law_fraction" "_law_fraction" s_law_fraction f fd) (B : Bt mg) (F_law_common : Fd P w K mg base "_law_common" 1 RCommon) : FnOk P w K mg base (L2.CX P w) 2 f fd ["over_here", "under"] (spG K RFr) := by
  refine fn_mk F sc_law_fraction (fun dvs M q ex h => ?_) (fun X C dvs M Q ex h => ?_)
  · obtain ⟨a, b, rfl, _⟩ := h
    rfl
  · obtain ⟨o, u, rfl, ⟨o0, u0, ko, ku⟩, hQ⟩ := h
    have v0 := C.var 0 (x := "over_here")
    have v1 := C.var 1 (x := "under")
    have v2 := C.var 2 (x := "by")
    have l2 := C.loc 2 (x := "by")
    have f__law_common := C.fd F_law_common
    have g__law_common := C.gl (x := "_law_common")
    have hr := C.room
    have p4 : (2 : Nat) ^ 4000 ≤ 2 ^ 8000 := Nat.pow_le_pow_right (by decide) (by decide)
    obtain ⟨g0, g1⟩ := gcd_le4 (o := o) u0 ku
    have kg : ((Int.gcd o u : Nat) : Int).natAbs < 2 ^ 4000 := Nat.lt_of_le_of_lt g1 ku
    have k1 : (1 : Int).natAbs < 2 ^ 1 := by decide
    obtain ⟨e1, e2, e3, e4, e5⟩ := lowest o0 u0
    show G.Run X ex _ [some (.d (.int o)), some (.d (.int u)), none] M _
    walk_at "s0"
    walk_at "go"
    refine ⟨Nat.lt_of_lt_of_le ko p4, Nat.lt_of_lt_of_le ku p4, ?_⟩
    walk_at "go"
    refine ite_d (fun h => ?_) (fun h => absurd u0 h)
    walk_at "go"
    have hb : (0 : Int) < (Int.gcd o u : Nat) * 1 := by omega
    have kb : (((Int.gcd o u : Nat) : Int) * 1).natAbs < 2 ^ 4000 := by rw [Int.mul_one]; exact kg
    walk_at "go"
    rw [Int.mul_one]
    exact hQ _ _ e1 e2 e3 e4 e5
theorem ok__law_split {f : Addr} {fd : FuncData} (F : Fun K "_law_split" "_law_split" s_law_split f fd) (F_law_fraction : Fd P w K mg base "_law_fraction" 2 RFr) : FnOk P w K mg base (L2.CX P w) 3 f fd ["one", "other"] (spG K RSplit) := by
  refine fn_mk F sc_law_split (fun dvs M q ex h => ?_) (fun X C dvs M Q ex h => ?_)
  · obtain ⟨a, b, c, d, rfl, _⟩ := h
    rfl
  · obtain ⟨a, b, c, d, rfl, ⟨a0, b0, c0, d0, ka, kb, kc, kd⟩, hQ⟩ := h
    have v0 := C.var 0 (x := "one")
    have v1 := C.var 1 (x := "other")
    have f__law_fraction := C.fd F_law_fraction
    have g__law_fraction := C.gl (x := "_law_fraction")
    have hr := C.room
    have mul4 : ∀ {x y : Int}, x.natAbs < 2 ^ 1000 → y.natAbs < 2 ^ 1000 → (x * y).natAbs < 2 ^ 4000 := fun {x y} hx hy => by
      rw [Int.natAbs_mul]
      refine Nat.lt_of_lt_of_le (Nat.mul_lt_mul_of_le_of_lt (Nat.le_of_lt hx) hy (Nat.pow_pos (by decide))) ?_
      rw [← Nat.pow_add]
      exact Nat.pow_le_pow_right (by decide) (by decide)
    show G.Run X ex _ [some (.d (.tuple [.int a, .int b])), some (.d (.tuple [.int c, .int d]))] M _
    walk_at "s0"
    walk_at "go"
    exact ⟨⟨Int.mul_pos a0 d0, Int.mul_pos b0 c0, mul4 ka kd, mul4 kb kc⟩, hQ⟩
theorem ok__law_is_int {f : Addr} {fd : FuncData} {n : Nat} (F : Fun K "_law_is_int" "_law_is_int" s_law_is_int f fd) (B : Bt mg) : FnOk P w K mg base (L2.CX P w) (n + 1) f fd ["thing"] (spG K RIsInt) := by
  refine fn_mk F sc_law_is_int (fun dvs M q ex h => ?_) (fun X C dvs M q ex h => ?_)
  · obtain ⟨x, rfl, _⟩ := h
    rfl
  · obtain ⟨x, rfl, hq⟩ := h
    have v0 := C.var 0 (x := "thing")
    have hcalm := C.calm
    have b_isinstance : BltOk _ "isinstance" := ⟨C.gl (x := "isinstance"), by rw [C.mg]; exact B.isinstance_⟩
    have b_int : BltOk _ "int" := ⟨C.gl (x := "int"), by rw [C.mg]; exact B.int_⟩
    have b_bool : BltOk _ "bool" := ⟨C.gl (x := "bool"), by rw [C.mg]; exact B.bool_⟩
    have hr := C.room
    rw [← itD_ok] at hq
    show G.Run X ex _ [some (.d x)] M _
    walk_at "s0"
    walk_at "go"
    refine ite_b (fun e => ?_) (fun e => ?_)
    · walk_at "go"
      rw [e] at hq
      exact hq
    · rw [e] at hq
      exact hq
theorem ok__law_below {f : Addr} {fd : FuncData} {n : Nat} (F : Fun K "_law_below" "_law_below" s_law_below f fd) : FnOk P w K mg base (L2.CX P w) (n + 1) f fd ["one", "other"] (spG K RBelow) := by
  refine fn_mk F sc_law_below (fun dvs M q ex h => ?_) (fun X C dvs M q ex h => ?_)
  · obtain ⟨a, b, c, d, rfl, _⟩ := h
    rfl
  · obtain ⟨a, b, c, d, rfl, ⟨h1, h2, h3, h4⟩, hq⟩ := h
    have v0 := C.var 0 (x := "one")
    have v1 := C.var 1 (x := "other")
    have hr := C.room
    show G.Run X ex _ [some (.d (.tuple [.int a, .int b])), some (.d (.tuple [.int c, .int d]))] M _
    walk_at "s0"
    walk_at "go"
    exact hq
theorem rng_mem {m : Nat} {d : PyData} (h : d ∈ rng 0 m) : ∃ i : Nat, i < m ∧ d = .int i := by
  unfold rng at h
  obtain ⟨i, hi, rfl⟩ := List.mem_map.mp h
  exact ⟨i, List.mem_range.mp hi, by rw [Int.zero_add]⟩
theorem fmap_none {ds : List PyData} : ds.filterMap (fun _ => (none : Option PyData)) = [] := by
  induction ds with
  | nil => rfl
  | cons d ds ih => exact ih
theorem ok__law_is {f : Addr} {fd : FuncData} {n k : Nat} (F : Fun K "_law_is" "_law_is" s_law_is f fd) (B : Bt mg) (rec : ∀ m, n = m + 1 → Fd P w K mg base "_law_is" k (RIs m)) : FnOk P w K mg base (L2.CX P w) (k + 1) f fd ["told", "due"] (spG K (RIs n)) := by
  refine fn_mk F sc_law_is (fun dvs M q ex h => ?_) (fun X C dvs M q ex h => ?_)
  · obtain ⟨x, rfl, _⟩ := h
    rfl
  · obtain ⟨x, rfl, hx, hq⟩ := h
    have v0 := C.var 0 (x := "told")
    have v1 := C.var 1 (x := "due")
    have hcalm := C.calm
    have b_isinstance : BltOk _ "isinstance" := ⟨C.gl (x := "isinstance"), by rw [C.mg]; exact B.isinstance_⟩
    have b_bool : BltOk _ "bool" := ⟨C.gl (x := "bool"), by rw [C.mg]; exact B.bool_⟩
    have b_int : BltOk _ "int" := ⟨C.gl (x := "int"), by rw [C.mg]; exact B.int_⟩
    have b_tuple : BltOk _ "tuple" := ⟨C.gl (x := "tuple"), by rw [C.mg]; exact B.tuple_⟩
    have b_len : BltOk _ "len" := ⟨C.gl (x := "len"), by rw [C.mg]; exact B.len_⟩
    have b_str : BltOk _ "str" := ⟨C.gl (x := "str"), by rw [C.mg]; exact B.str_⟩
    have b_range : BltOk X "range" := ⟨C.gl, by rw [C.mg]; exact B.range_⟩
    have hr := C.room
    show G.Run X ex _ [some (.d x), some (.d x), none] M _
    walk_at "s0"
    cases hx with
    | bl b =>
      walk_at "go"
      have e : PyData.eqv (.bool b) (.bool b) = true := by cases b <;> rfl
      rw [e]
      exact hq
    | int i =>
      walk_at "go"
      rw [decide_eq_true rfl]
      exact hq
    | @tup n ds hl h =>
      have Frec := rec n rfl
      walk_at "go"
      refine ite_d (fun _ => ?_) (fun z => absurd rfl z)
      walk_at "go"
      refine is_ev (ev_lcR1 C.calm C.nod b_range C.blk (fun s H C0 cl fp => C.bloc 2) rfl (fun _ => none) ?_)
      walk_at "ea"
      walk_at "e1"
      walk_at "go"
      refine ⟨⟨by omega, by omega, by omega⟩, fun d hd => ?_, ?_⟩
      · obtain ⟨i, hi, rfl⟩ := rng_mem hd
        have hi' : i < ds.length := by omega
        refine lc_of C (fun Y C M => ets_one ?_) (fun Y C M y hy => by cases hy)
        have v0 := C.var 0 (x := "told")
        have v1 := C.var 1 (x := "due")
        have v2 := C.var 2 (x := "k")
        have F_law_is := Frec
        have f__law_is := C.fd F_law_is
        have g__law_is := C.gl (x := "_law_is")
        have hr := C.room
        have ha : L2.atI ds (i : Int) = some ds[i] := by
          unfold L2.atI
          have e : L2.ixN ds.length (i : Int) = some i := by
            unfold L2.ixN
            rw [if_pos (by omega), if_pos (by omega)]
            rfl
          rw [e]
          exact List.getElem?_eq_getElem hi'
        walk_at "go"
        exact ⟨h _ (List.getElem_mem hi'), true, rfl, rfl, rfl⟩
      · rw [fmap_none]
        walk_at "go"
        exact hq
end
end K56
/-! K56f: the source of draws made; what is next by the law's own look. -/
namespace K56
open PySem PySem.Spec PyProof.Rows L2 G
abbrev s_law_begun : Stmt := topS 22
theorem sc_law_begun : FnScope ["script", "grain", "wide"] ["script"] (defScope s_law_begun) := ⟨rfl, rfl, rfl, by decide +kernel, rfl, by decide +kernel, by decide +kernel⟩
def absI (g : Int) : Int := if g < 0 then -g else g
def wf (g : Int) : Option Int := if (10 : Int) ^ (18 : Int).toNat ≤ absI g then some (absI g - (10 : Int) ^ (18 : Int).toNat) else none
def fW : PyData → Option PyData
  | .int g => (wf g).map PyData.int
  | _ => none
def fC : PyData → Option PyData
  | .int g => some (.int (absI g % 2147483629))
  | _ => none
theorem fW_all : ∀ ns : List Int, (ns.map PyData.int).filterMap fW = (ns.filterMap wf).map PyData.int
  | [] => rfl
  | n :: ns => by
    rw [List.map_cons, List.filterMap_cons, List.filterMap_cons, fW_all ns]
    have e : fW (.int n) = (wf n).map PyData.int := rfl
    rw [e]
    cases wf n <;> rfl
theorem fC_all : ∀ ns : List Int, (ns.map PyData.int).filterMap fC = (ns.map fun g => absI g % 2147483629).map PyData.int
  | [] => rfl
  | n :: ns => by
    rw [List.map_cons, List.filterMap_cons, fC_all ns]
    rfl
def RBegun : RT := fun dvs M q ex => ∃ ns : List Int, dvs = [.r (ns.map PyData.int)] ∧ ns.length ≤ 63 ∧ (∀ z ps, M z ≠ some (.tbl ps)) ∧ ∀ p M', Dr M' p 0 → q (.v (.ref p)) M'
section
variable {P : Program} {w : World} {K : PySem.W.Frag} {mg : Str → Option Value} {base : Heap}
theorem ok__law_begun {f : Addr} {fd : FuncData} {n : Nat} (F : Fun K "_law_begun" "_law_begun" s_law_begun f fd) (B : Bt mg) : FnOk P w K mg base (L2.CX P w) (n + 1) f fd ["script"] (spG K RBegun) := by
  refine fn_mk F sc_law_begun (fun dvs M q ex h => ?_) (fun X C dvs M Q ex h => ?_)
  · obtain ⟨ns, rfl, _⟩ := h
    rfl
  · obtain ⟨ns, rfl, hn, nt, hQ⟩ := h
    have v0 := C.var 0 (x := "script")
    have v2 := C.var 2 (x := "wide")
    have l2 := C.loc 2 (x := "wide")
    have hr := C.room
    show G.Run X ex _ [some (.r (ns.map PyData.int)), none, none] M _
    refine run_lcLM C l2 rfl C.sw C.blk (fun s H C0 cl fp => C.bloc 1) rfl fW ?_
    walk_at "nm"
    refine ⟨_, .inr rfl, by rw [List.length_map]; omega, fun d hd => ?_, ns.filterMap wf, fW_all ns, fun a ha => ?_⟩
    · obtain ⟨g, hg, rfl⟩ := List.mem_map.mp hd
      refine lc_of C (fun Y C M => ets_one ?_) (fun Y C M y hy => ?_)
      · have hr := C.room
        have v1 := C.var 1 (x := "grain")
        have hcalm := C.calm
        have b_abs : BltOk _ "abs" := ⟨C.gl (x := "abs"), by rw [C.mg]; exact B.abs_⟩
        walk_at "go"
        refine ⟨rfl, ?_⟩
        show decide (_ ≤ absI g) = ((wf g).map PyData.int).isSome
        unfold wf
        by_cases h : (10 : Int) ^ (18 : Int).toNat ≤ absI g
        · rw [if_pos h, decide_eq_true h]; rfl
        · rw [if_neg h, decide_eq_false h]; rfl
      · have hr := C.room
        have v1 := C.var 1 (x := "grain")
        have hcalm := C.calm
        have b_abs : BltOk _ "abs" := ⟨C.gl (x := "abs"), by rw [C.mg]; exact B.abs_⟩
        walk_at "go"
        refine ⟨rfl, ?_⟩
        have hy' : (wf g).map PyData.int = some y := hy
        unfold wf at hy'
        by_cases h : (10 : Int) ^ (18 : Int).toNat ≤ absI g
        · rw [if_pos h] at hy'
          cases hy'
          rfl
        · rw [if_neg h] at hy'
          cases hy'
    · refine run_ret (ev_disp4 (fun _ _ _ _ => by with_unfolding_all rfl) (fun p hp => ?_))
      walk_at "nm"
      refine ev_lcLM C.calm C.nod C.blk (fun s H C0 cl fp => C.bloc 1) rfl fC ?_
      walk_at "nm"
      refine ⟨_, .inr rfl, by rw [List.length_map]; omega, fun d hd => ?_, _, fC_all ns, fun b hb => ?_⟩
      · obtain ⟨g, hg, rfl⟩ := List.mem_map.mp hd
        refine lc_of C (fun Y C M => ets_nil ⟨rfl, rfl⟩) (fun Y C M y hy => ?_)
        have v1 := C.var 1 (x := "grain")
        have hcalm := C.calm
        have b_abs : BltOk _ "abs" := ⟨C.gl (x := "abs"), by rw [C.mg]; exact B.abs_⟩
        have b_int : BltOk _ "int" := ⟨C.gl (x := "int"), by rw [C.mg]; exact B.int_⟩
        have hr := C.room
        cases hy
        walk_at "go"
        exact ⟨rfl, rfl⟩
      · walk_at "ct"
        walk_at "ct"
        have npa : p ≠ a := fun z => by rw [z, upd_same] at hp; cases hp
        have nbp : b ≠ p := fun z => by rw [z, upd_same] at hb; cases hb
        have nba : b ≠ a := fun z => by rw [z, upd_ne (Ne.symm npa), upd_same] at hb; cases hb
        refine ⟨by rw [upd_ne (Ne.symm nbp), upd_same], .ref a, .ref b, .int 0, .int 0, rfl, rfl, rfl, rfl, ?_⟩
        refine hQ p _ ⟨a, b, ns.filterMap wf, ns.map fun g => absI g % 2147483629, 0, 0, ⟨upd_same, ?_, ?_, Ne.symm nba, fun z ps e => ?_⟩, by omega, by omega, fun c hc => ?_⟩
        · rw [upd_ne (Ne.symm npa), upd_ne (Ne.symm nba), upd_ne (Ne.symm npa), upd_same]
        · rw [upd_ne nbp, upd_same]
        · by_cases h1 : z = p
          · subst h1; rw [upd_same] at e; cases e
          · rw [upd_ne h1] at e
            by_cases h2 : z = b
            · subst h2; rw [upd_same] at e; cases e
            · rw [upd_ne h2, upd_ne h1] at e
              by_cases h3 : z = a
              · subst h3; rw [upd_same] at e; cases e
              · rw [upd_ne h3] at e
                exact nt z ps e
        · obtain ⟨g, _, rfl⟩ := List.mem_map.mp hc
          exact ⟨Int.emod_nonneg _ (by omega), Int.emod_lt_of_pos _ (by omega)⟩
end
end K56
/-! K56g: all small fractions, the due neighbours; what is next by the law's own look. -/
namespace K56
open PySem PySem.Spec PyProof.Rows L2 G
def InL (m s t : Int) : Prop := (s = 0 ∧ t = 1) ∨ (s = 1 ∧ t = 0) ∨ (1 ≤ s ∧ s ≤ m ∧ 1 ≤ t ∧ t ≤ m ∧ Int.gcd s t = 1)
theorem InL.nn {m s t : Int} (h : InL m s t) : 0 ≤ s ∧ 0 ≤ t := by
  rcases h with ⟨rfl, rfl⟩ | ⟨rfl, rfl⟩ | ⟨h1, h2, h3, h4, h5⟩ <;> omega
theorem InL.le {m s t : Int} (h : InL m s t) (hm : 1 ≤ m) : s ≤ m ∧ t ≤ m := by
  rcases h with ⟨rfl, rfl⟩ | ⟨rfl, rfl⟩ | ⟨h1, h2, h3, h4, h5⟩ <;> omega
theorem InL.co {m s t : Int} (h : InL m s t) : Int.gcd s t = 1 := by
  rcases h with ⟨rfl, rfl⟩ | ⟨rfl, rfl⟩ | ⟨h1, h2, h3, h4, h5⟩
  · decide
  · decide
  · exact h5
theorem co_of_det {a b c d : Int} (h : c * b - a * d = 1) : Int.gcd a b = 1 := by
  have h1 : ((Int.gcd a b : Nat) : Int) ∣ a := Int.gcd_dvd_left _ _
  have h2 : ((Int.gcd a b : Nat) : Int) ∣ b := Int.gcd_dvd_right _ _
  have h3 : ((Int.gcd a b : Nat) : Int) ∣ c * b - a * d := Int.dvd_sub (Int.dvd_mul_of_dvd_right h2) (Int.dvd_mul_of_dvd_left h1)
  rw [h] at h3
  have h4 := Int.eq_one_of_dvd_one (by omega) h3
  omega
theorem co_of_det2 {a b c d : Int} (h : c * b - a * d = 1) : Int.gcd c d = 1 := by
  have h1 : ((Int.gcd c d : Nat) : Int) ∣ c := Int.gcd_dvd_left _ _
  have h2 : ((Int.gcd c d : Nat) : Int) ∣ d := Int.gcd_dvd_right _ _
  have h3 : ((Int.gcd c d : Nat) : Int) ∣ c * b - a * d := Int.dvd_sub (Int.dvd_mul_of_dvd_left h1) (Int.dvd_mul_of_dvd_right h2)
  rw [h] at h3
  have h4 := Int.eq_one_of_dvd_one (by omega) h3
  omega
theorem eq_of_cross {s t a b : Int} (h1 : Int.gcd s t = 1) (h2 : Int.gcd a b = 1) (s0 : 0 ≤ s) (t0 : 0 ≤ t) (a0 : 0 ≤ a) (b0 : 0 ≤ b) (h : s * b = a * t) : s = a ∧ t = b := by
  have c1 : Nat.Coprime s.natAbs t.natAbs := h1
  have c2 : Nat.Coprime a.natAbs b.natAbs := h2
  have e : s.natAbs * b.natAbs = a.natAbs * t.natAbs := by rw [← Int.natAbs_mul, h, Int.natAbs_mul]
  have d1 : s.natAbs ∣ a.natAbs := c1.dvd_of_dvd_mul_right (e ▸ Nat.dvd_mul_right _ _)
  have d2 : a.natAbs ∣ s.natAbs := c2.dvd_of_dvd_mul_right (e.symm ▸ Nat.dvd_mul_right _ _)
  have d3 : t.natAbs ∣ b.natAbs := c1.symm.dvd_of_dvd_mul_left (e.symm ▸ Nat.dvd_mul_left _ _)
  have d4 : b.natAbs ∣ t.natAbs := c2.symm.dvd_of_dvd_mul_left (e ▸ Nat.dvd_mul_left _ _)
  have e1 := Nat.dvd_antisymm d1 d2
  have e2 := Nat.dvd_antisymm d3 d4
  omega
theorem Nb.inl1 {p q m a b c d : Int} (n : Nb p q m a b c d) : InL m a b := by
  have a0 := n.a0; have b0 := n.b0; have c0 := n.c0; have d0 := n.d0
  have hd := n.det
  have hb : b ≠ 0 := fun z => by
    subst z
    have := Int.mul_nonneg a0 d0
    omega
  by_cases ha : a = 0
  · subst ha
    have hcb : c * b = 1 := by omega
    have hb1 : b ∣ 1 := ⟨c, by rw [Int.mul_comm]; exact hcb.symm⟩
    have := Int.eq_one_of_dvd_one b0 hb1
    exact .inl ⟨rfl, this⟩
  · exact .inr (.inr ⟨by omega, n.am, by omega, n.bm, co_of_det hd⟩)
theorem Nb.inl2 {p q m a b c d : Int} (n : Nb p q m a b c d) : InL m c d := by
  have a0 := n.a0; have b0 := n.b0; have c0 := n.c0; have d0 := n.d0
  have hd := n.det
  have hc : c ≠ 0 := fun z => by
    subst z
    have := Int.mul_nonneg a0 d0
    omega
  by_cases hd0 : d = 0
  · subst hd0
    have hcb : c * b = 1 := by omega
    have hb1 : c ∣ 1 := ⟨b, hcb.symm⟩
    have := Int.eq_one_of_dvd_one c0 hb1
    exact .inr (.inl ⟨this, rfl⟩)
  · exact .inr (.inr ⟨by omega, n.cm, by omega, n.dm, co_of_det2 hd⟩)
structure DueP (p q m a b c d : Int) : Prop where
  l1 : InL m a b
  l2 : a * q ≤ p * b
  l3 : ∀ s t, InL m s t → s * q ≤ p * t → s * b ≤ a * t
  h1 : InL m c d
  h2 : p * d ≤ c * q
  h3 : ∀ s t, InL m s t → p * t ≤ s * q → c * t ≤ s * d
theorem between_hi {a b c d p q s t : Int} (hq : 0 < q) (ht : 0 < t) (hd : 0 ≤ d) (h1 : s * q ≤ p * t) (h2 : p * d < c * q) : s * d < c * t := by
  have e1 : s * q * d ≤ p * t * d := Int.mul_le_mul_of_nonneg_right h1 hd
  have e2 : p * d * t < c * q * t := Int.mul_lt_mul_of_pos_right h2 ht
  have e3 : (s * d) * q < (c * t) * q := by grind
  exact Int.lt_of_mul_lt_mul_right e3 (Int.le_of_lt hq)
theorem between_lo {a b c d p q s t : Int} (hp : 0 < p) (hs : 0 < s) (ha : 0 ≤ a) (h1 : p * t ≤ s * q) (h2 : a * q < p * b) : a * t < s * b := by
  have e1 : p * t * a ≤ s * q * a := Int.mul_le_mul_of_nonneg_right h1 ha
  have e2 : a * q * s < p * b * s := Int.mul_lt_mul_of_pos_right h2 hs
  have e3 : (a * t) * p < (s * b) * p := by grind
  exact Int.lt_of_mul_lt_mul_right e3 (Int.le_of_lt hp)
theorem due_eq {p q m a b c d a' b' c' d' : Int} (hp : 0 < p) (hq : 0 < q) (hg : Int.gcd p q = 1) (hm : 1 ≤ m) (N : NbR p q m a b c d) (D : DueP p q m a' b' c' d') : a' = a ∧ b' = b ∧ c' = c ∧ d' = d := by
  obtain ⟨x1, x2⟩ := D.l1.nn
  obtain ⟨x3, x4⟩ := D.h1.nn
  obtain ⟨y1, y2⟩ := D.l1.le hm
  obtain ⟨y3, y4⟩ := D.h1.le hm
  rcases N with ⟨h1, h2, ea, eb, ec, ed⟩ | ⟨_, n, hf⟩
  · have hi : InL m p q := .inr (.inr ⟨by omega, h1, by omega, h2, hg⟩)
    have e1 : a' * q = p * b' := Int.le_antisymm D.l2 (D.l3 p q hi (Int.le_refl _))
    have e2 : c' * q = p * d' := Int.le_antisymm (D.h3 p q hi (Int.le_refl _)) D.h2
    obtain ⟨z1, z2⟩ := eq_of_cross D.l1.co hg x1 x2 (by omega) (by omega) e1
    obtain ⟨z3, z4⟩ := eq_of_cross D.h1.co hg x3 x4 (by omega) (by omega) e2
    exact ⟨z1.trans ea.symm, z2.trans eb.symm, z3.trans ec.symm, z4.trans ed.symm⟩
  · have a0 := n.a0; have b0 := n.b0; have c0 := n.c0; have d0 := n.d0
    have i1 := n.inl1
    have i2 := n.inl2
    have m1 := D.l3 a b i1 (Int.le_of_lt n.lo)
    have m2 := D.h3 c d i2 (Int.le_of_lt n.hi)
    have e1 : a' * b = a * b' := by
      rcases Int.lt_or_le (a * b') (a' * b) with z | z
      · exfalso
        have hb' : 0 < b' := by
          rcases D.l1 with ⟨k1, k2⟩ | ⟨k1, k2⟩ | ⟨k1, k2, k3, k4, k5⟩
          · omega
          · exfalso
            have := D.l2
            subst k1 k2
            omega
          · omega
        have z2 := between_hi (a := a) (b := b) hq hb' d0 D.l2 n.hi
        have f1 := far1 n.det a0 c0 z z2
        have f2 := far2 n.det b0 d0 z z2
        omega
      · omega
    have e2 : c' * d = c * d' := by
      rcases Int.lt_or_le (c' * d) (c * d') with z | z
      · exfalso
        have hc' : 0 < c' := by
          rcases D.h1 with ⟨k1, k2⟩ | ⟨k1, k2⟩ | ⟨k1, k2, k3, k4, k5⟩
          · exfalso
            have := D.h2
            subst k1 k2
            omega
          · omega
          · omega
        have z2 := between_lo (c := c) (d := d) hp hc' a0 D.h2 n.lo
        have f1 := far1 n.det a0 c0 z2 z
        have f2 := far2 n.det b0 d0 z2 z
        omega
      · omega
    obtain ⟨z1, z2⟩ := eq_of_cross D.l1.co i1.co x1 x2 a0 b0 e1
    obtain ⟨z3, z4⟩ := eq_of_cross D.h1.co i2.co x3 x4 c0 d0 e2
    exact ⟨z1, z2, z3, z4⟩
abbrev s_law_all : Stmt := topS 33
theorem sc_law_all : FnScope ["most", "found", "top", "low"] ["most"] (defScope s_law_all) := ⟨rfl, rfl, rfl, by decide +kernel, rfl, by decide +kernel, by decide +kernel⟩
abbrev s_law_due : Stmt := topS 34
theorem sc_law_due : FnScope ["share", "most", "low", "high", "one"] ["share", "most"] (defScope s_law_due) := ⟨rfl, rfl, rfl, by decide +kernel, rfl, by decide +kernel, by decide +kernel⟩
abbrev s_law_is_next : Stmt := topS 35
theorem sc_law_is_next : FnScope ["share", "most", "thing", "one", "low", "high"] ["share", "most", "thing"] (defScope s_law_is_next) := ⟨rfl, rfl, rfl, by decide +kernel, rfl, by decide +kernel, by decide +kernel⟩
abbrev pr (s t : Int) : PyData := .tuple [.int s, .int t]
/-- of 1 .. k above, all below -/
structure AllP (m k : Int) (ds : List PyData) : Prop where
  is : ∀ d ∈ ds, ∃ s t, d = pr s t ∧ InL m s t
  z1 : pr 0 1 ∈ ds
  z2 : pr 1 0 ∈ ds
  has : ∀ s t, 1 ≤ s → s ≤ k → 1 ≤ t → t ≤ m → Int.gcd s t = 1 → pr s t ∈ ds
  len : (ds.length : Int) ≤ 2 + 24 * k
def fL (top : Int) : PyData → Option PyData
  | .int l => if ((Int.gcd top l : Nat) : Int) = 1 then some (pr top l) else none
  | _ => none
def RAll : RT := fun dvs M Q ex => ∃ m : Int, dvs = [.d (.int m)] ∧ (1 ≤ m ∧ m ≤ 24) ∧ ∀ ds, AllP m m ds → Q (.d (.list ds)) M
theorem AllP.step {m : Int} {i : Nat} {ds : List PyData} (A : AllP m i ds) (hm : 1 ≤ m) (hm2 : m ≤ 24) (hi : i < (m + 1 - 1).toNat) : AllP m ((i + 1 : Nat) : Int) (ds ++ (rng 1 (m + 1 - 1).toNat).filterMap (fL (1 + i))) := by
  have mem : ∀ {d}, d ∈ (rng 1 (m + 1 - 1).toNat).filterMap (fL (1 + i)) ↔ ∃ t : Int, 1 ≤ t ∧ t ≤ m ∧ Int.gcd (1 + i) t = 1 ∧ d = pr (1 + i) t := by
    intro d
    rw [List.mem_filterMap]
    constructor
    · rintro ⟨x, hx, he⟩
      unfold rng at hx
      obtain ⟨j, hj, rfl⟩ := List.mem_map.mp hx
      have hj' := List.mem_range.mp hj
      have he' : (if ((Int.gcd (1 + i) (1 + j) : Nat) : Int) = 1 then some (pr (1 + i) (1 + j)) else none) = some d := he
      by_cases hg : ((Int.gcd (1 + i) (1 + j) : Nat) : Int) = 1
      · rw [if_pos hg] at he'
        cases he'
        exact ⟨1 + j, by omega, by omega, by omega, rfl⟩
      · rw [if_neg hg] at he'
        cases he'
    · rintro ⟨t, t1, t2, hg, rfl⟩
      refine ⟨.int t, ?_, ?_⟩
      · unfold rng
        exact List.mem_map.mpr ⟨(t - 1).toNat, List.mem_range.mpr (by omega), by congr 1; omega⟩
      · show (if ((Int.gcd (1 + i) t : Nat) : Int) = 1 then some (pr (1 + i) t) else none) = _
        rw [if_pos (by omega)]
  refine ⟨fun d hd => ?_, List.mem_append_left _ A.z1, List.mem_append_left _ A.z2, fun s t s1 s2 t1 t2 hg => ?_, ?_⟩
  · rcases List.mem_append.mp hd with h | h
    · exact A.is d h
    · obtain ⟨t, t1, t2, hg, rfl⟩ := mem.mp h
      exact ⟨_, _, rfl, .inr (.inr ⟨by omega, by omega, t1, t2, hg⟩)⟩
  · by_cases h : s ≤ i
    · exact List.mem_append_left _ (A.has s t s1 h t1 t2 hg)
    · have e : s = 1 + i := by omega
      subst e
      exact List.mem_append_right _ (mem.mpr ⟨t, t1, t2, hg, rfl⟩)
  · have h1 := List.length_filterMap_le (fL (1 + i)) (rng 1 (m + 1 - 1).toNat)
    rw [rng_len] at h1
    have h2 := A.len
    rw [List.length_append]
    omega
section
variable {P : Program} {w : World} {K : PySem.W.Frag} {mg : Str → Option Value} {base : Heap}
theorem ok__law_all {f : Addr} {fd : FuncData} (F : Fun K "_law_all" "_law_all" s_law_all f fd) (B : Bt mg) (F_law_common : Fd P w K mg base "_law_common" 1 RCommon) : FnOk P w K mg base (L2.CX P w) 2 f fd ["most"] (spG K RAll) := by
  refine fn_mk F sc_law_all (fun dvs M q ex h => ?_) (fun X C dvs M Q ex h => ?_)
  · obtain ⟨m, rfl, _⟩ := h
    rfl
  · obtain ⟨m, rfl, ⟨m1, m2⟩, hQ⟩ := h
    have v0 := C.var 0 (x := "most")
    have v1 := C.var 1 (x := "found")
    have l1 := C.loc 1 (x := "found")
    have v2 := C.var 2 (x := "top")
    have l2 := C.loc 2 (x := "top")
    have b_range : BltOk X "range" := ⟨C.gl, by rw [C.mg]; exact B.range_⟩
    have hr := C.room
    show G.Run X ex _ [some (.d (.int m)), none, none, none] M _
    walk_at "s0"
    walk_at "go"
    refine run_forR2 C b_range (fun lo c i ρ' M' => lo = 1 ∧ c = (m + 1 - 1).toNat ∧ M' = M ∧ ∃ (ds : List PyData) (o : Option DV), AllP m i ds ∧ ρ' = [some (.d (.int m)), some (.d (.list ds)), o, none]) ?_ ?_ ?_ rfl
    · walk_at "go"
      refine ⟨by omega, by omega, by omega, by omega, rfl, rfl, rfl, _, _, ⟨fun d hd => ?_, .head _, .tail _ (.head _), fun s t s1 s2 => by omega, by show (2 : Int) ≤ _; omega⟩, rfl⟩
      rcases List.mem_cons.mp hd with rfl | hd
      · exact ⟨_, _, rfl, .inl ⟨rfl, rfl⟩⟩
      · rcases List.mem_cons.mp hd with rfl | hd
        · exact ⟨_, _, rfl, .inr (.inl ⟨rfl, rfl⟩)⟩
        · cases hd
    · rintro lo c i ρ' M' hi ⟨rfl, rfl, rfl, ds, o, A, rfl⟩
      refine ga_name C.nod l2 ?_
      walk_at "s0"
      walk_at "bn"
      walk_at "nm"
      refine ev_lcR2 C.calm C.nod b_range C.blk (fun s H C0 cl fp => C.bloc 3) rfl (fL (1 + i)) ?_
      walk_at "go"
      refine ⟨by omega, fun d hd => ?_, ?_⟩
      · unfold rng at hd
        obtain ⟨j, hj, rfl⟩ := List.mem_map.mp hd
        have hj' := List.mem_range.mp hj
        have k1 : ((1 : Int) + i).natAbs < 2 ^ 8000 := pow8 (by omega) (by omega)
        have k2 : ((1 : Int) + j).natAbs < 2 ^ 8000 := pow8 (by omega) (by omega)
        refine lc_of C (fun Y C M => ets_one ?_) (fun Y C M y hy => ?_)
        · have hr := C.room
          have v2 := C.var 2 (x := "top")
          have v3 := C.var 3 (x := "low")
          have f__law_common := C.fd F_law_common
          have g__law_common := C.gl (x := "_law_common")
          walk_at "go"
          refine ⟨k1, k2, ?_⟩
          walk_at "go"
          refine ⟨rfl, ?_⟩
          show decide _ = (if ((Int.gcd (1 + i) (1 + j) : Nat) : Int) = 1 then some (pr (1 + i) (1 + j)) else none).isSome
          by_cases h : ((Int.gcd (1 + i) (1 + j) : Nat) : Int) = 1
          · rw [if_pos h, decide_eq_true h]; rfl
          · rw [if_neg h, decide_eq_false h]; rfl
        · have hr := C.room
          have v2 := C.var 2 (x := "top")
          have v3 := C.var 3 (x := "low")
          walk_at "go"
          refine ⟨rfl, ?_⟩
          have hy' : (if ((Int.gcd (1 + i) (1 + j) : Nat) : Int) = 1 then some (pr (1 + i) (1 + j)) else none) = some y := hy
          by_cases h : ((Int.gcd (1 + i) (1 + j) : Nat) : Int) = 1
          · rw [if_pos h] at hy'
            cases hy'
            rfl
          · rw [if_neg h] at hy'
            cases hy'
      · have h1 := List.length_filterMap_le (fL (1 + i)) (rng 1 (m + 1 - 1).toNat)
        rw [rng_len] at h1
        have h2 := A.len
        refine rr_addL (by omega) ?_
        walk_at "go"
        exact ⟨rfl, rfl, rfl, _, _, A.step m1 m2 hi, rfl⟩
    · rintro lo c ρ' M' ⟨rfl, rfl, rfl, ds, o, A, rfl⟩
      walk_at "go"
      have e : (((m + 1 - 1).toNat : Nat) : Int) = m := by omega
      rw [e] at A
      exact hQ ds A
end
end K56
/-! K56h: the due neighbours by the law's own look. -/
namespace K56
open PySem PySem.Spec PyProof.Rows L2 G
structure DueI (p q m : Int) (seen : List PyData) (a b c d : Int) : Prop where
  l1 : InL m a b
  l2 : a * q ≤ p * b
  l3 : ∀ s t, pr s t ∈ seen → s * q ≤ p * t → s * b ≤ a * t
  h1 : InL m c d
  h2 : p * d ≤ c * q
  h3 : ∀ s t, pr s t ∈ seen → p * t ≤ s * q → c * t ≤ s * d
theorem tr_le {a b s t u v : Int} (hb : 0 < b) (ht : 0 ≤ t) (hv : 0 ≤ v) (h1 : u * b ≤ a * v) (h2 : a * t < s * b) : u * t ≤ s * v := by
  have e1 : u * b * t ≤ a * v * t := Int.mul_le_mul_of_nonneg_right h1 ht
  have e2 : a * t * v ≤ s * b * v := Int.mul_le_mul_of_nonneg_right (Int.le_of_lt h2) hv
  have e3 : (u * t) * b ≤ (s * v) * b := by grind
  exact Int.le_of_mul_le_mul_right e3 hb
theorem tr_ge {c d s t u v : Int} (hc : 0 < c) (hs : 0 ≤ s) (hu : 0 ≤ u) (h1 : c * v ≤ u * d) (h2 : s * d < c * t) : s * v ≤ u * t := by
  have e1 : c * v * s ≤ u * d * s := Int.mul_le_mul_of_nonneg_right h1 hs
  have e2 : s * d * u ≤ c * t * u := Int.mul_le_mul_of_nonneg_right (Int.le_of_lt h2) hu
  have e3 : (s * v) * c ≤ (u * t) * c := by grind
  exact Int.le_of_mul_le_mul_right e3 hc
def RDue : RT := fun dvs M Q ex => ∃ p q m : Int, dvs = [.d (pr p q), .d (.int m)] ∧ (0 < p ∧ 0 < q ∧ p.natAbs < 2 ^ 8000 ∧ q.natAbs < 2 ^ 8000 ∧ 1 ≤ m ∧ m ≤ 24) ∧ ∀ a b c d, DueP p q m a b c d → Q (.d (nbT a b c d)) M
theorem InL.sm {m s t : Int} (h : InL m s t) (hm : 1 ≤ m) (hm2 : m ≤ 1000) : s.natAbs < 2 ^ 8000 ∧ t.natAbs < 2 ^ 8000 := by
  obtain ⟨h1, h2⟩ := h.nn
  obtain ⟨h3, h4⟩ := h.le hm
  exact ⟨pow8 h1 (by omega), pow8 h2 (by omega)⟩
section
variable {P : Program} {w : World} {K : PySem.W.Frag} {mg : Str → Option Value} {base : Heap}
theorem ok__law_due {f : Addr} {fd : FuncData} (F : Fun K "_law_due" "_law_due" s_law_due f fd) (F_law_all : Fd P w K mg base "_law_all" 2 RAll) (F_law_below : Fd P w K mg base "_law_below" 1 RBelow) : FnOk P w K mg base (L2.CX P w) 3 f fd ["share", "most"] (spG K RDue) := by
  refine fn_mk F sc_law_due (fun dvs M q ex h => ?_) (fun X C dvs M Q ex h => ?_)
  · obtain ⟨p, q, m, rfl, _⟩ := h
    rfl
  · obtain ⟨p, q, m, rfl, ⟨p0, q0, kp, kq, m1, m2⟩, hQ⟩ := h
    have v0 := C.var 0 (x := "share")
    have v1 := C.var 1 (x := "most")
    have v2 := C.var 2 (x := "low")
    have l2 := C.loc 2 (x := "low")
    have v3 := C.var 3 (x := "high")
    have l3 := C.loc 3 (x := "high")
    have v4 := C.var 4 (x := "one")
    have l4 := C.loc 4 (x := "one")
    have f__law_all := C.fd F_law_all
    have g__law_all := C.gl (x := "_law_all")
    have f__law_below := C.fd F_law_below
    have g__law_below := C.gl (x := "_law_below")
    have hr := C.room
    show G.Run X ex _ [some (.d (pr p q)), some (.d (.int m)), none, none, none] M _
    refine run_unpack (is := [2, 3]) C (.cons l2 (.cons l3 .nil)) ?_ rfl (fun _ => rfl)
    walk_at "go"
    refine ⟨rfl, ?_⟩
    refine run_forL C (fun ds i ρ' M' => AllP m m ds ∧ M' = M ∧ ∃ (a b c d : Int) (o : Option DV), DueI p q m (ds.take i) a b c d ∧ ρ' = [some (.d (pr p q)), some (.d (.int m)), some (.d (pr a b)), some (.d (pr c d)), o]) ?_ ?_ ?_ rfl
    · walk_at "go"
      refine ⟨⟨m1, m2⟩, fun ds A => ⟨ds, .inl rfl, A, rfl, 0, 1, 1, 0, none, ⟨.inl ⟨rfl, rfl⟩, by omega, fun s t h => by simp at h, .inr (.inl ⟨rfl, rfl⟩), by omega, fun s t h => by simp at h⟩, rfl⟩⟩
    · rintro ds i x ρ' M' hi ⟨A, rfl, a, b, c, d, o, D, rfl⟩
      obtain ⟨s, t, rfl, L⟩ := A.is x (List.mem_of_getElem? hi)
      obtain ⟨s0, t0⟩ := L.nn
      obtain ⟨ks, kt⟩ := L.sm m1 (by omega)
      obtain ⟨a0, b0⟩ := D.l1.nn
      obtain ⟨ka, kb⟩ := D.l1.sm m1 (by omega)
      obtain ⟨c0, d0⟩ := D.h1.nn
      obtain ⟨kc, kd⟩ := D.h1.sm m1 (by omega)
      have bp : 0 < b := by
        rcases D.l1 with ⟨k1, k2⟩ | ⟨k1, k2⟩ | ⟨k1, k2, k3, k4, k5⟩
        · omega
        · exfalso
          have := D.l2
          subst k1 k2
          omega
        · omega
      have cp : 0 < c := by
        rcases D.h1 with ⟨k1, k2⟩ | ⟨k1, k2⟩ | ⟨k1, k2, k3, k4, k5⟩
        · exfalso
          have := D.h2
          subst k1 k2
          omega
        · omega
        · omega
      have tk : ds.take (i + 1) = ds.take i ++ [pr s t] := by rw [List.take_add_one, hi]; rfl
      have mem : ∀ {u v}, pr u v ∈ ds.take (i + 1) → pr u v ∈ ds.take i ∨ (u = s ∧ v = t) := fun {u v} h => by
        rw [tk] at h
        rcases List.mem_append.mp h with h | h
        · exact .inl h
        · rw [List.mem_singleton] at h
          cases h
          exact .inr ⟨rfl, rfl⟩
      have nnof : ∀ {u v}, pr u v ∈ ds.take i → 0 ≤ u ∧ 0 ≤ v := fun {u v} h => by
        obtain ⟨u', v', e, L'⟩ := A.is _ (List.mem_of_mem_take h)
        cases e
        exact L'.nn
      refine ga_name C.nod l4 ?_
      refine run_ifJ (fun ρ' M2 => M2 = M' ∧ ∃ a b, (InL m a b ∧ a * q ≤ p * b ∧ ∀ u v, pr u v ∈ ds.take (i + 1) → u * q ≤ p * v → u * b ≤ a * v) ∧ ρ' = [some (.d (pr p q)), some (.d (.int m)), some (.d (pr a b)), some (.d (pr c d)), some (.d (pr s t))]) ?_ ?_
      · walk_at "go"
        refine ⟨⟨kp, kq, ks, kt⟩, ?_⟩
        refine ⟨_, rfl, ?_⟩
        refine ite_nd (fun h1 => ?_) (fun h1 => ?_)
        · walk_at "go"
          refine ⟨⟨ka, kb, ks, kt⟩, ?_⟩
          refine ⟨_, rfl, ?_⟩
          refine ite_d (fun h2 => ?_) (fun h2 => ?_)
          · walk_at "go"
            refine ⟨rfl, s, t, ⟨L, by omega, fun u v h hu => ?_⟩, rfl⟩
            rcases mem h with h | ⟨rfl, rfl⟩
            · exact tr_le bp t0 (nnof h).2 (D.l3 u v h hu) h2
            · exact Int.le_refl _
          · walk_at "go"
            refine ⟨rfl, a, b, ⟨D.l1, D.l2, fun u v h hu => ?_⟩, rfl⟩
            rcases mem h with h | ⟨rfl, rfl⟩
            · exact D.l3 u v h hu
            · omega
        · walk_at "go"
          refine ⟨rfl, a, b, ⟨D.l1, D.l2, fun u v h hu => ?_⟩, rfl⟩
          rcases mem h with h | ⟨rfl, rfl⟩
          · exact D.l3 u v h hu
          · omega
      · rintro ρ' M2 ⟨rfl, a, b, ⟨D1, D2, D3⟩, rfl⟩
        walk_at "go"
        refine ⟨⟨ks, kt, kp, kq⟩, ?_⟩
        refine ⟨_, rfl, ?_⟩
        refine ite_nd (fun h1 => ?_) (fun h1 => ?_)
        · walk_at "go"
          refine ⟨⟨ks, kt, kc, kd⟩, ?_⟩
          refine ⟨_, rfl, ?_⟩
          refine ite_d (fun h2 => ?_) (fun h2 => ?_)
          · walk_at "go"
            refine ⟨A, rfl, a, b, s, t, _, ⟨D1, D2, D3, L, by omega, fun u v h hu => ?_⟩, rfl⟩
            rcases mem h with h | ⟨rfl, rfl⟩
            · exact tr_ge cp s0 (nnof h).1 (D.h3 u v h hu) h2
            · exact Int.le_refl _
          · walk_at "go"
            refine ⟨A, rfl, a, b, c, d, _, ⟨D1, D2, D3, D.h1, D.h2, fun u v h hu => ?_⟩, rfl⟩
            rcases mem h with h | ⟨rfl, rfl⟩
            · exact D.h3 u v h hu
            · omega
        · walk_at "go"
          refine ⟨A, rfl, a, b, c, d, _, ⟨D1, D2, D3, D.h1, D.h2, fun u v h hu => ?_⟩, rfl⟩
          rcases mem h with h | ⟨rfl, rfl⟩
          · exact D.h3 u v h hu
          · omega
    · rintro ds ρ' M' ⟨A, rfl, a, b, c, d, o, D, rfl⟩
      rw [List.take_length] at D
      have hin : ∀ {s t}, InL m s t → pr s t ∈ ds := fun {s t} h => by
        rcases h with ⟨rfl, rfl⟩ | ⟨rfl, rfl⟩ | ⟨h1, h2, h3, h4, h5⟩
        · exact A.z1
        · exact A.z2
        · exact A.has s t h1 h2 h3 h4 h5
      walk_at "go"
      exact hQ a b c d ⟨D.l1, D.l2, fun s t h => D.l3 s t (hin h), D.h1, D.h2, fun s t h => D.h3 s t (hin h)⟩
end
end K56
/-! K56i: what is next by the law's own look; what is bent. -/
namespace K56
open PySem PySem.Spec PyProof.Rows L2 G
def gdD (m : Int) (x : PyData) : Prop := ∃ a b, x = pr a b ∧ 0 ≤ a ∧ 0 ≤ b ∧ a ≤ m ∧ b ≤ m
theorem isN_good {p q m : Int} {ds : List PyData} (h : isN p q m (.tuple ds) = true) : ∀ d ∈ ds, gdD m d := by
  unfold isN at h
  split at h
  · rename_i a b c d e
    cases e
    have z := of_decide_eq_true h
    obtain ⟨⟨h1, h2, h3, h4⟩, h5, h6⟩ := z
    have hb : a ≤ m ∧ b ≤ m ∧ c ≤ m ∧ d ≤ m := by
      by_cases hm : max p q ≤ m
      · have := h5 hm
        omega
      · exact (h6 (by omega)).1
    intro x hx
    rcases List.mem_cons.mp hx with rfl | hx
    · exact ⟨a, b, rfl, h1, h2, hb.1, hb.2.1⟩
    · rcases List.mem_cons.mp hx with rfl | hx
      · exact ⟨c, d, rfl, h3, h4, hb.2.2.1, hb.2.2.2⟩
      · cases hx
  · cases h
theorem isN_bad {p q m : Int} {ds : List PyData} {x : PyData} (hx : x ∈ ds) (h : ¬ gdD m x) : isN p q m (.tuple ds) = false := by
  cases e : isN p q m (.tuple ds) with
  | false => rfl
  | true => exact absurd (isN_good e x hx) h
theorem eqv_nb {a b c d p q : Int} : PyData.eqv (.tuple [pr a b, pr c d]) (.tuple [pr p q, pr p q]) = decide ((a = p ∧ b = q) ∧ c = p ∧ d = q) := by
  have e : PyData.eqv (.tuple [pr a b, pr c d]) (.tuple [pr p q, pr p q]) = (PyData.eqv (pr a b) (pr p q) && (PyData.eqv (pr c d) (pr p q) && true)) := by
    simp only [PyData.eqv, PyData.eqvAll]
  rw [e, eqv_pair, eqv_pair, Bool.and_true, Bool.decide_and, Bool.decide_and, Bool.decide_and]
def RNext : RT := fun dvs M Q ex => ∃ p q m z, dvs = [.d (pr p q), .d (.int m), .d z] ∧ (p.natAbs < 2 ^ 8000 ∧ q.natAbs < 2 ^ 8000 ∧ Sm4 z) ∧ Q (.d (.bool (isN p q m z))) M
section
variable {P : Program} {w : World} {K : PySem.W.Frag} {mg : Str → Option Value} {base : Heap}
theorem ok__law_is_next {f : Addr} {fd : FuncData} (F : Fun K "_law_is_next" "_law_is_next" s_law_is_next f fd) (B : Bt mg) (F_law_is_int : Fd P w K mg base "_law_is_int" 1 RIsInt) (F_law_below : Fd P w K mg base "_law_below" 1 RBelow) : FnOk P w K mg base (L2.CX P w) 2 f fd ["share", "most", "thing"] (spG K RNext) := by
  refine fn_mk F sc_law_is_next (fun dvs M q ex h => ?_) (fun X C dvs M Q ex h => ?_)
  · obtain ⟨p, q, m, z, rfl, _⟩ := h
    rfl
  · obtain ⟨p, q, m, z, rfl, ⟨kp, kq, hz⟩, hQ⟩ := h
    have v0 := C.var 0 (x := "share")
    have v1 := C.var 1 (x := "most")
    have v2 := C.var 2 (x := "thing")
    have v3 := C.var 3 (x := "one")
    have l3 := C.loc 3 (x := "one")
    have v4 := C.var 4 (x := "low")
    have l4 := C.loc 4 (x := "low")
    have v5 := C.var 5 (x := "high")
    have l5 := C.loc 5 (x := "high")
    have hcalm := C.calm
    have b_isinstance : BltOk _ "isinstance" := ⟨C.gl (x := "isinstance"), by rw [C.mg]; exact B.isinstance_⟩
    have b_tuple : BltOk _ "tuple" := ⟨C.gl (x := "tuple"), by rw [C.mg]; exact B.tuple_⟩
    have b_len : BltOk _ "len" := ⟨C.gl (x := "len"), by rw [C.mg]; exact B.len_⟩
    have b_max : BltOk _ "max" := ⟨C.gl (x := "max"), by rw [C.mg]; exact B.max_⟩
    have b_min : BltOk _ "min" := ⟨C.gl (x := "min"), by rw [C.mg]; exact B.min_⟩
    have f__law_is_int := C.fd F_law_is_int
    have g__law_is_int := C.gl (x := "_law_is_int")
    have f__law_below := C.fd F_law_below
    have g__law_below := C.gl (x := "_law_below")
    have hr := C.room
    show G.Run X ex _ [some (.d (pr p q)), some (.d (.int m)), some (.d z), none, none, none] M _
    walk_at "s0"
    cases z with
    | tuple ds =>
      walk_at "go"
      refine ite_nd (fun h5 => ?_) (fun h5 => ?_)
      · walk_at "go"
        show Q _ M
        rw [isN_len (fun z => h5 (by rw [z]; rfl))] at hQ
        exact hQ
      · obtain ⟨x, y, rfl⟩ : ∃ x y, ds = [x, y] := two_of (by omega)
        walk_at "go"
        refine run_forT C (fun es i ρ' M' => es = [x, y] ∧ M' = M ∧ (∀ j u, j < i → es[j]? = some u → gdD m u) ∧ ∃ o, ρ' = [some (.d (pr p q)), some (.d (.int m)), some (.d (.tuple [x, y])), o, none, none]) ?_ ?_ ?_ rfl
        · walk_at "nm"
          exact ⟨_, rfl, rfl, rfl, fun j u hj => by omega, _, rfl⟩
        · rintro es i u ρ' M' hi ⟨rfl, rfl, hg, o, rfl⟩
          have hu := List.mem_of_getElem? hi
          have bad : ¬ gdD m u → Q (.d (.bool false)) M' := fun h => by
            rw [isN_bad hu h] at hQ
            exact hQ
          have good : gdD m u → ∀ j v, j < i + 1 → [x, y][j]? = some v → gdD m v := fun h j v hj hv => by
            by_cases hji : j = i
            · subst hji
              rw [hi] at hv
              cases hv
              exact h
            · exact hg j v (by omega) hv
          refine ga_name C.nod l3 ?_
          walk_at "s0"
          cases u with
          | tuple us =>
            walk_at "go"
            refine ite_nd (fun h6 => ?_) (fun h6 => ?_)
            · walk_at "go"
              exact bad fun ⟨a, b, e, _⟩ => by cases e; exact h6 rfl
            · obtain ⟨x1, x2, rfl⟩ : ∃ x y, us = [x, y] := two_of (by omega)
              walk_at "go"
              refine ite_nb (fun h7 => ?_) (fun h7 => ?_)
              · walk_at "go"
                exact bad fun ⟨a, b, e, _⟩ => by cases e; cases h7
              · walk_at "go"
                refine ite_nb (fun h8 => ?_) (fun h8 => ?_)
                · walk_at "go"
                  exact bad fun ⟨a, b, e, _⟩ => by cases e; cases h8
                · obtain ⟨a, rfl⟩ : ∃ a, x1 = .int a := by cases x1 <;> first | exact ⟨_, rfl⟩ | cases h7
                  obtain ⟨b, rfl⟩ : ∃ a, x2 = .int a := by cases x2 <;> first | exact ⟨_, rfl⟩ | cases h8
                  walk_at "go"
                  refine ite_d (fun h9 => ?_) (fun h9 => ?_)
                  · walk_at "go"
                    exact bad fun ⟨a, b, e, _⟩ => by cases e; omega
                  · walk_at "go"
                    refine ite_d (fun h10 => ?_) (fun h10 => ?_)
                    · walk_at "go"
                      exact bad fun ⟨a, b, e, _⟩ => by cases e; omega
                    · walk_at "go"
                      exact ⟨rfl, rfl, good ⟨a, b, rfl, by omega, by omega, by omega, by omega⟩, _, rfl⟩
          | _ =>
            walk_at "go"
            exact bad fun ⟨a, b, e, _⟩ => by cases e
        · rintro es ρ' M' ⟨rfl, rfl, hg, o, rfl⟩
          obtain ⟨a, b, rfl, a0, b0, am, bm⟩ := hg 0 x (show (0 : Nat) < 2 by decide) rfl
          obtain ⟨c, d, rfl, c0, d0, cm, dm⟩ := hg 1 y (show (1 : Nat) < 2 by decide) rfl
          obtain ⟨sa, sb, sc, sd⟩ := hz a b c d rfl
          have e0 : Q (.d (.bool (decide (IsNP p q m a b c d)))) M' := hQ
          walk_at "go"
          refine ite_d (fun h7 => ?_) (fun h7 => ?_)
          · walk_at "go"
            rw [eqv_nb]
            exact qb e0 (decide_eq_decide.mpr ⟨fun z => z.2.1 h7, fun z => ⟨⟨a0, b0, c0, d0⟩, fun _ => z, fun z' => by omega⟩⟩)
          · have h7' : m < max p q := by omega
            walk_at "go"
            refine run_unpack (is := [4, 5]) C (.cons l4 (.cons l5 .nil)) ?_ rfl (fun _ => rfl)
            walk_at "nm"
            refine ⟨_, rfl, rfl, ?_⟩
            walk_at "go"
            refine ⟨⟨sa, sb, kp, kq⟩, ?_⟩
            refine ⟨_, rfl, ?_⟩
            refine ite_nd (fun h8 => ?_) (fun h8 => ?_)
            · walk_at "go"
              refine qb e0 (decide_eq_false fun z => ?_)
              exact h8 (z.2.2 h7').2.2.2.1
            · walk_at "go"
              refine ⟨⟨kp, kq, sc, sd⟩, ?_⟩
              refine ⟨_, rfl, ?_⟩
              refine ite_nd (fun h9 => ?_) (fun h9 => ?_)
              · walk_at "go"
                refine qb e0 (decide_eq_false fun z => ?_)
                exact h9 (z.2.2 h7').2.2.2.2
              · walk_at "go"
                refine ite_nd (fun h10 => ?_) (fun h10 => ?_)
                · walk_at "go"
                  refine qb e0 (decide_eq_false fun z => ?_)
                  exact h10 (z.2.2 h7').2.2.1
                · walk_at "go"
                  exact qb e0 (decide_eq_decide.mpr ⟨fun z => by have z' := (z.2.2 h7').2.1; omega, fun z => ⟨⟨a0, b0, c0, d0⟩, fun z' => by omega, fun _ => ⟨⟨am, bm, cm, dm⟩, by omega, h10, h8, h9⟩⟩⟩)
    | _ =>
      walk_at "go"
      exact hQ
end
end K56
/-! K56j: what is bent. -/
namespace K56
open PySem PySem.Spec PyProof.Rows L2 G
abbrev s_law_bent : Stmt := topS 36
theorem sc_law_bent : FnScope ["draw", "thing", "low", "high", "some"] ["draw", "thing"] (defScope s_law_bent) := ⟨rfl, rfl, rfl, by decide +kernel, rfl, by decide +kernel, by decide +kernel⟩
def RBent : RT := fun dvs M Q ex => ∃ (p : Addr) (t : Nat) (a b c d : Int), dvs = [.v (.ref p), .d (nbT a b c d)] ∧ (t < 1000000 ∧ Dr M p t ∧ 0 ≤ a ∧ a ≤ 1000 ∧ 0 ≤ b ∧ b ≤ 1000 ∧ 0 ≤ c ∧ c ≤ 1000 ∧ 0 ≤ d ∧ d ≤ 1000) ∧ ∀ z M', Sm4 z → Dr M' p (t + 1) → Q (.d z) M'
theorem pow8' {a : Int} (h1 : -5000 ≤ a) (h2 : a ≤ 5000) : a.natAbs < 2 ^ 8000 := Nat.lt_of_le_of_lt (show a.natAbs ≤ 2 ^ 17 by omega) (Nat.pow_lt_pow_right (by decide) (by decide))
section
variable {P : Program} {w : World} {K : PySem.W.Frag} {mg : Str → Option Value} {base : Heap}
theorem ok__law_bent {f : Addr} {fd : FuncData} (F : Fun K "_law_bent" "_law_bent" s_law_bent f fd) (B : Bt mg) (F_law_pick : Fd P w K mg base "_law_pick" 3 RPick) : FnOk P w K mg base (L2.CX P w) 4 f fd ["draw", "thing"] (spG K RBent) := by
  refine fn_mk F sc_law_bent (fun dvs M q ex h => ?_) (fun X C dvs M Q ex h => ?_)
  · obtain ⟨p, t, a, b, c, d, rfl, _⟩ := h
    rfl
  · obtain ⟨p, t, a, b, c, d, rfl, ⟨ht, D, a0, a1, b0, b1, c0, c1, d0, d1⟩, hQ⟩ := h
    have v0 := C.var 0 (x := "draw")
    have v1 := C.var 1 (x := "thing")
    have v2 := C.var 2 (x := "low")
    have l2 := C.loc 2 (x := "low")
    have v3 := C.var 3 (x := "high")
    have l3 := C.loc 3 (x := "high")
    have v4 := C.var 4 (x := "some")
    have l4 := C.loc 4 (x := "some")
    have hcalm := C.calm
    have b_list : BltOk _ "list" := ⟨C.gl (x := "list"), by rw [C.mg]; exact B.list_⟩
    have b_str : BltOk _ "str" := ⟨C.gl (x := "str"), by rw [C.mg]; exact B.str_⟩
    have f__law_pick := C.fd F_law_pick
    have g__law_pick := C.gl (x := "_law_pick")
    have hr := C.room
    have kc : c.natAbs < 2 ^ 10 := by omega
    have ka : a.natAbs < 2 ^ 10 := by omega
    have kb : b.natAbs < 2 ^ 10 := by omega
    have k2 : (2 : Int).natAbs < 2 ^ 2 := by decide
    show G.Run X ex _ [some (.v (.ref p)), some (.d (.tuple [pr a b, pr c d])), none, none, none] M _
    refine run_unpack (is := [2, 3]) C (.cons l2 (.cons l3 .nil)) ?_ rfl (fun _ => rfl)
    walk_at "nm"
    refine ⟨_, rfl, rfl, ?_⟩
    walk_at "go"
    refine ⟨p, t, _, rfl, ht, D, ⟨Nat.le_of_ble_eq_true rfl, Nat.le_of_ble_eq_true rfl⟩, fun z M' hz D' => hQ z M' (fun a' b' c' d' e => ?_) D'⟩
    subst e
    simp [nbT] at hz
    have h : (-5000 ≤ a' ∧ a' ≤ 5000) ∧ (-5000 ≤ b' ∧ b' ≤ 5000) ∧ (-5000 ≤ c' ∧ c' ≤ 5000) ∧ (-5000 ≤ d' ∧ d' ≤ 5000) := by omega
    exact ⟨pow8' h.1.1 h.1.2, pow8' h.2.1.1 h.2.1.2, pow8' h.2.2.1.1 h.2.2.1.2, pow8' h.2.2.2.1 h.2.2.2.2⟩
end
end K56
/-! K56k: one ratio. -/
namespace K56
open PySem PySem.Spec PyProof.Rows L2 G
abbrev s_law_one_right : Stmt := topS 37
theorem sc_law_one_right : FnScope ["draw", "share", "most", "told", "lap", "thing", "far"] ["draw", "share", "most"] (defScope s_law_one_right) := ⟨rfl, rfl, rfl, by decide +kernel, rfl, by decide +kernel, by decide +kernel⟩
theorem NbR.bd {p q m a b c d : Int} (hp : 0 < p) (hq : 0 < q) (N : NbR p q m a b c d) : (0 ≤ a ∧ a ≤ m) ∧ (0 ≤ b ∧ b ≤ m) ∧ (0 ≤ c ∧ c ≤ m) ∧ (0 ≤ d ∧ d ≤ m) := by
  rcases N with ⟨h1, h2, ea, eb, ec, ed⟩ | ⟨_, n, _⟩
  · omega
  · exact ⟨⟨n.a0, n.am⟩, ⟨n.b0, n.bm⟩, ⟨n.c0, n.cm⟩, ⟨n.d0, n.dm⟩⟩
theorem NbR.isN {p q m a b c d : Int} (hp : 0 < p) (hq : 0 < q) (N : NbR p q m a b c d) : isN p q m (nbT a b c d) = true := by
  refine decide_eq_true ?_
  obtain ⟨⟨a0, am⟩, ⟨b0, bm⟩, ⟨c0, cm⟩, d0, dm⟩ := N.bd hp hq
  refine ⟨⟨a0, b0, c0, d0⟩, fun h => ?_, fun h => ?_⟩
  · rcases N with ⟨h1, h2, ea, eb, ec, ed⟩ | ⟨h', n, _⟩
    · exact ⟨⟨ea, eb⟩, ec, ed⟩
    · omega
  · rcases N with ⟨h1, h2, ea, eb, ec, ed⟩ | ⟨h', n, hf⟩
    · omega
    · exact ⟨⟨am, bm, cm, dm⟩, by omega, n.det, n.lo, n.hi⟩
/-- no small fraction lies between -/
theorem NbR.none {p q m a b c d s t : Int} (N : NbR p q m a b c d) (s1 : s ≤ m) (t1 : t ≤ m) (h1 : a * t < s * b) (h2 : s * d < c * t) : False := by
  rcases N with ⟨_, _, ea, eb, ec, ed⟩ | ⟨_, n, hf⟩
  · subst ea eb ec ed
    omega
  · have f1 := far1 n.det n.a0 n.c0 h1 h2
    have f2 := far2 n.det n.b0 n.d0 h1 h2
    omega
def ROne : RT := fun dvs M Q ex => ∃ (pd : Addr) (t : Nat) (p q m : Int), dvs = [.v (.ref pd), .d (pr p q), .d (.int m)] ∧ (t + 18 < 1000000 ∧ Dr M pd t ∧ 0 < p ∧ 0 < q ∧ Int.gcd p q = 1 ∧ p.natAbs < 2 ^ 8000 ∧ q.natAbs < 2 ^ 8000 ∧ 1 ≤ m ∧ m ≤ 1000) ∧ ∀ M', Dr M' pd (t + 18) → Q (.d (.bool true)) M'
theorem told_nb (a b c d : Int) : Told 2 (nbT a b c d) := by
  refine .tup (by show 2 ≤ 100000; decide) fun x hx => ?_
  have e : ∀ s t : Int, Told 1 (pr s t) := fun s t => .tup (by show 2 ≤ 100000; decide) fun x hx => by
    rcases List.mem_cons.mp hx with rfl | hx
    · exact .int _
    · rcases List.mem_cons.mp hx with rfl | hx
      · exact .int _
      · cases hx
  rcases List.mem_cons.mp hx with rfl | hx
  · exact e _ _
  · rcases List.mem_cons.mp hx with rfl | hx
    · exact e _ _
    · cases hx
theorem smR_of {p q : Int} (h1 : p.natAbs < 2 ^ 8000) (h2 : q.natAbs < 2 ^ 8000) : SmR (pr p q) := fun a b e => by
  cases e
  exact ⟨h1, h2⟩
theorem numD_of {m : Int} (h1 : 1 ≤ m) (h2 : m ≤ 1000) : numD (.int m) 1 1000 = true := by
  show (decide (1 ≤ m) && decide (m ≤ 1000)) = true
  rw [decide_eq_true h1, decide_eq_true h2]
  rfl
theorem sm4_nb {a b c d : Int} (h : (0 ≤ a ∧ a ≤ 1000) ∧ (0 ≤ b ∧ b ≤ 1000) ∧ (0 ≤ c ∧ c ≤ 1000) ∧ (0 ≤ d ∧ d ≤ 1000)) : Sm4 (nbT a b c d) := fun a' b' c' d' e => by
  cases e
  exact ⟨pow8 h.1.1 (by omega), pow8 h.2.1.1 (by omega), pow8 h.2.2.1.1 (by omega), pow8 h.2.2.2.1 (by omega)⟩
section
variable {P : Program} {w : World} {K : PySem.W.Frag} {mg : Str → Option Value} {base : Heap}
theorem ok__law_one_right {CR CM : Addr} {f : Addr} {fd : FuncData} (F : Fun K "_law_one_right" "_law_one_right" s_law_one_right f fd) (B : Bt mg) (Fneighbours : Fd P w K mg base "neighbours" 5 (RNbs CR CM)) (Fare_neighbours : Fd P w K mg base "are_neighbours" 5 (RAre CR CM))
    (F_law_is_next : Fd P w K mg base "_law_is_next" 2 RNext) (F_law_is : Fd P w K mg base "_law_is" 3 (RIs 2)) (F_law_due : Fd P w K mg base "_law_due" 3 RDue) (F_law_bent : Fd P w K mg base "_law_bent" 4 RBent) (F_law_take : Fd P w K mg base "_law_take" 2 RTake) (F_law_below : Fd P w K mg base "_law_below" 1 RBelow) :
    FnOk P w K mg base (L2.CX P w) 6 f fd ["draw", "share", "most"] (spG K ROne) := by
  refine fn_mk F sc_law_one_right (fun dvs M q ex h => ?_) (fun X C dvs M Q ex h => ?_)
  · obtain ⟨pd, t, p, q, m, rfl, _⟩ := h
    rfl
  · obtain ⟨pd, t, p, q, m, rfl, ⟨ht, D, p0, q0, hg, kp, kq, m1, m2⟩, hQ⟩ := h
    have v0 := C.var 0 (x := "draw")
    have v1 := C.var 1 (x := "share")
    have v2 := C.var 2 (x := "most")
    have v3 := C.var 3 (x := "told")
    have l3 := C.loc 3 (x := "told")
    have v4 := C.var 4 (x := "lap")
    have l4 := C.loc 4 (x := "lap")
    have v5 := C.var 5 (x := "thing")
    have l5 := C.loc 5 (x := "thing")
    have v6 := C.var 6 (x := "far")
    have l6 := C.loc 6 (x := "far")
    have f_neighbours := C.fd Fneighbours
    have g_neighbours := C.gl (x := "neighbours")
    have f_are_neighbours := C.fd Fare_neighbours
    have g_are_neighbours := C.gl (x := "are_neighbours")
    have f__law_is_next := C.fd F_law_is_next
    have g__law_is_next := C.gl (x := "_law_is_next")
    have f__law_is := C.fd F_law_is
    have g__law_is := C.gl (x := "_law_is")
    have f__law_due := C.fd F_law_due
    have g__law_due := C.gl (x := "_law_due")
    have f__law_bent := C.fd F_law_bent
    have g__law_bent := C.gl (x := "_law_bent")
    have f__law_take := C.fd F_law_take
    have g__law_take := C.gl (x := "_law_take")
    have f__law_below := C.fd F_law_below
    have g__law_below := C.gl (x := "_law_below")
    have b_range : BltOk X "range" := ⟨C.gl, by rw [C.mg]; exact B.range_⟩
    have hr := C.room
    have hfw := fwD_of p0 q0 hg
    have hnm := numD_of m1 m2
    have hsm := smR_of kp kq
    show G.Run X ex _ [some (.v (.ref pd)), some (.d (pr p q)), some (.d (.int m)), none, none, none, none] M _
    walk_at "s0"
    walk_at "go"
    refine ⟨hsm, fun h => (by rw [hfw] at h; cases h), fun _ h => (by rw [hnm] at h; cases h), fun p' q' m' e1 e2 _ _ _ _ _ a b c d N => ?_⟩
    cases e1
    cases e2
    have hN := N.isN p0 q0
    obtain ⟨⟨a0, am⟩, ⟨b0, bm⟩, ⟨c0, cm⟩, d0, dm⟩ := N.bd p0 q0
    have s4 : Sm4 (nbT a b c d) := sm4_nb (by omega)
    obtain ⟨ka, kb, kc, kd⟩ := s4 a b c d rfl
    walk_at "go"
    refine ⟨⟨kp, kq, s4⟩, ?_⟩
    rw [hN]
    walk_at "go"
    refine ⟨hsm, fun h => (by rw [hfw] at h; cases h), fun _ h => (by rw [hnm] at h; cases h), fun p' q' m' e1 e2 _ _ _ _ _ => ?_⟩
    cases e1
    cases e2
    refine ⟨s4, ?_⟩
    rw [hN]
    walk_at "go"
    refine ⟨.bl true, _, rfl, ?_⟩
    refine iteF ?_
    refine run_nil ?_
    refine run_ifJ (fun ρ' M' => M' = M ∧ ρ' = [some (.v (.ref pd)), some (.d (pr p q)), some (.d (.int m)), some (.d (.tuple [pr a b, pr c d])), none, none, none]) ?_ ?_
    · walk_at "go"
      refine ite_d (fun h => ?_) (fun h => ?_)
      · walk_at "go"
        refine ⟨⟨p0, q0, kp, kq, m1, h⟩, fun a' b' c' d' DP => ?_⟩
        obtain ⟨rfl, rfl, rfl, rfl⟩ := due_eq p0 q0 hg m1 N DP
        walk_at "go"
        refine ⟨told_nb _ _ _ _, _, rfl, ?_⟩
        walk_at "go"
        exact ⟨rfl, rfl⟩
      · walk_at "go"
        exact ⟨rfl, rfl⟩
    · rintro ρ' M' ⟨rfl, rfl⟩
      refine run_forR1 C b_range (fun cc i ρ' M' => cc = 6 ∧ i ≤ 6 ∧ Dr M' pd (t + 3 * i) ∧ ∃ o1 o2 o3, ρ' = [some (.v (.ref pd)), some (.d (pr p q)), some (.d (.int m)), some (.d (.tuple [pr a b, pr c d])), o1, o2, o3]) ?_ ?_ ?_ rfl
      · walk_at "go"
        exact ⟨by omega, by omega, rfl, by omega, D, _, _, _, rfl⟩
      · rintro c0 i ρ' M1 hi ⟨rfl, i6, D1, o1, o2, o3, rfl⟩
        refine ga_name C.nod l4 ?_
        walk_at "s0"
        walk_at "go"
        refine ⟨pd, t + 3 * i, a, b, c, d, rfl, ⟨by omega, D1, by omega, by omega, by omega, by omega, by omega, by omega, by omega, by omega⟩, fun z M2 hz D2 => ?_⟩
        walk_at "go"
        refine ⟨hsm, fun h => (by rw [hfw] at h; cases h), fun _ h => (by rw [hnm] at h; cases h), fun p' q' m' e1 e2 _ _ _ _ _ => ?_⟩
        cases e1
        cases e2
        refine ⟨hz, ?_⟩
        walk_at "go"
        refine ⟨⟨kp, kq, hz⟩, ?_⟩
        walk_at "go"
        refine ⟨.bl _, _, rfl, ?_⟩
        walk_at "go"
        have km : m.natAbs < 2 ^ 8000 := pow8 (by omega) (by omega)
        refine ⟨pd, t + 3 * i + 1, m, rfl, by omega, D2, ⟨by omega, km⟩, fun i1 M3 i10 i11 D3 => ?_⟩
        walk_at "go"
        refine ⟨pd, t + 3 * i + 1 + 1, m, rfl, by omega, D3, ⟨by omega, km⟩, fun i2 M4 i20 i21 D4 => ?_⟩
        have ks : (1 + i1).natAbs < 2 ^ 8000 := pow8 (by omega) (by omega)
        have kt : (1 + i2).natAbs < 2 ^ 8000 := pow8 (by omega) (by omega)
        walk_at "go"
        refine ⟨⟨ka, kb, ks, kt⟩, ?_⟩
        refine ⟨_, rfl, ?_⟩
        refine ite_d (fun h1 => ?_) (fun h1 => ?_)
        · walk_at "go"
          refine ⟨⟨ks, kt, kc, kd⟩, ?_⟩
          refine ⟨_, rfl, ?_⟩
          refine ite_d (fun h2 => ?_) (fun h2 => ?_)
          · exact (N.none (by omega) (by omega) h1 h2).elim
          · walk_at "go"
            exact ⟨rfl, by omega, D4, _, _, _, rfl⟩
        · walk_at "go"
          exact ⟨rfl, by omega, D4, _, _, _, rfl⟩
      · rintro c0 ρ' M1 ⟨rfl, i6, D1, o1, o2, o3, rfl⟩
        walk_at "go"
        exact hQ _ D1
end
end K56
/-! K56l: the law. -/
namespace G
open PySem PySem.Spec PyProof.Rows L2 LamX
theorem Cok.lam {X : Cx} {P : Program} {w : World} {K : PySem.W.Frag} {mg : Str → Option Value} {base : Heap} {n k : Nat} {N : List Str} {sc scope : Scope} {A : Around} {outer : List Env} {s : Shared} {H : Hp} {E : XK} {f c' : Addr} (C : Cok X P w K mg base n N sc) (hr : Room k (A.deeper (lamEnv X scope s.heap.objs.size f c'))) :
    BCok (lamCx X A outer s H E scope f c') P w K mg base k N scope := ⟨C.prog, C.w, C.K, C.mg, C.base, C.N, rfl, rfl, hr⟩
/-- a def by its body, its code object told -/
theorem fn_mkL {P : Program} {w : World} {K : PySem.W.Frag} {mg : Str → Option Value} {base : Heap} {x : Str} {st : Stmt} {f c : Addr} {oc : Value} {od an : Option Addr} {osl : Array (Option Value)} {dV kV doc pm ct : Value} {N ps : List Str} {n : Nat} {R : RT}
    (lk : K.lookup f = some ⟨oc, od, .func (PySem.W.fnOf x x (defArgs st) (defBody st) (defScope st) dV kV doc pm an (.ref c) ct), osl⟩) (hcd : PySem.W.codeIn K (.ref c) x = true) (S : FnScope N ps (defScope st)) (hl : ∀ dvs M q ex, R dvs M q ex → dvs.length = ps.length)
    (body : ∀ X, Cok X P w K mg base n N (defScope st) → X.env.code = .ref c → X.env.qual = x ++ ".<locals>." → ∀ dvs M q ex, R dvs M q ex → Run X ex (defBody st) (envStart N dvs) M { nx := fun _ M' => q (.d .none) M', rt := q }) :
    FnOk P w K mg base (L2.CX P w) (n + 1) f (PySem.W.fnOf x x (defArgs st) (defBody st) (defScope st) dV kV doc pm an (.ref c) ct) ps (spG K R) := by
  refine fn_of lk hcd S (fun vs H Q E h => ?_) (fun A outer s H vs Q E hr h => ⟨_, pss_w, ?_⟩)
  · obtain ⟨dvs, M, q, ex, _, r, hR, _⟩ := h
    rw [r.len]
    exact hl dvs M q ex hR
  · obtain ⟨dvs, M, q, ex, hM, r, hR, kv, kx⟩ := h
    have tk : Takes (cxOf (L2.CX P w) P w K mg base N x (defScope st) f (.ref c) A outer s H E) (fun cls d σ H => E cls d H) := takes_of rfl rfl rfl rfl
    have C : Cok (cxOf (L2.CX P w) P w K mg base N x (defScope st) f (.ref c) A outer s H E) P w K mg base n N (defScope st) :=
      ⟨rfl, rfl, rfl, rfl, rfl, rfl, rfl, rfl, hr, S.nd, fun _ => rfl, passes_of rfl, rfl, rfl, rfl⟩
    refine (body _ C rfl rfl dvs M q ex hR).run _ tk (L2.start N vs) H hM (envOk_start N r) _ ⟨?_, ?_, ?_, ?_⟩ (fun c M' H' σ' hx s' => kx c M' H' hx s')
    · intro ρ' M' σ' H' h s' e'
      exact kv _ _ M' H' h s' .non
    · intro v dv M' H' h s' r'
      exact kv v dv M' H' h s' r'
    · intro ρ' M' σ' H' h
      exact h.elim
    · intro ρ' M' σ' H' h
      exact h.elim
theorem Cok.gcls {X : Cx} {P : Program} {w : World} {K : PySem.W.Frag} {mg : Str → Option Value} {base : Heap} {n : Nat} {N : List Str} {sc : Scope} {x : Str} {D : Addr} (C : Cok X P w K mg base n N sc) (E : ExcG K mg x D) (h : sc.names.lookup x = some .globalImplicit := by rfl) (hd : (x == ("__debug__" : Str)) = false := by decide) : GlobOk X x (.v (.ref D)) :=
  ⟨C.gl h, ⟨.ref D, .ref D, by rw [C.mg]; exact E.mg, rfl, fun _ _ => rfl⟩, hd⟩
end G
namespace K56
open PySem PySem.Spec PyProof.Rows L2 G LamX
abbrev s_law_caught : Stmt := topS 26
theorem sc_law_caught : FnScope ["work", "caught"] ["work"] (defScope s_law_caught) := ⟨rfl, rfl, rfl, by decide +kernel, rfl, by decide +kernel, by decide +kernel⟩
abbrev slaw : Stmt := topS 38
theorem sclaw : FnScope ["script", "draw", "turn", "wide", "most", "share", "odd", "bad"] ["script"] (defScope slaw) := ⟨rfl, rfl, rfl, by decide +kernel, rfl, by decide +kernel, by decide +kernel⟩
theorem cau_ok {X : Cx} {P : Program} {w : World} {K : PySem.W.Frag} {mg : Str → Option Value} {base : Heap} {n : Nat} {N : List Str} {sc : Scope} {CS f : Addr} {fd : FuncData} (C : Cok X P w K mg base n N sc) (F : Fun K "_law_caught" "_law_caught" s_law_caught f fd) (hm : mg "_law_caught" = some (.ref f)) (hme : mg "GearError" = some (.ref CS)) : CauOk X "_law_caught" CS := by
  have hb : Binds K fd ["work"] [] := F.binds (ps := ["work"]) fun _ _ _ _ _ _ us hl => match us, hl with | [_], _ => rfl
  obtain ⟨oc, od, kV, doc, pm, an, cdv, ct, osl, rfl, lk, hcd⟩ := F.ex
  refine ⟨f, _, _, _, .none, kV, doc, pm, cdv, ct, oc, an, od, osl, ["work", "caught"], "work", by rw [C.mg]; exact hm, by rw [C.K]; exact F.kp, by rw [C.K]; exact lk, by rw [C.K]; exact hcd, by rw [C.K]; exact hb, sc_law_caught, rfl, .inl rfl, fun q => ?_, by decide, by decide⟩
  exact caught_gives (i := 1) (e := "GearError") (n := "caught") (by decide) rfl rfl rfl (by rw [C.mg]; exact hme) (by decide) (by decide) (by decide) fun f => rfl
end K56
/-! K56o: the end of one turn of the law: errors. -/
namespace K56
open PySem PySem.Spec PyProof.Rows L2 G LamX
theorem fwD_tup {x : PyData} (h : fwD x = false) {p q : Int} (e : x = .tuple [.int p, .int q]) (p0 : 0 < p) (q0 : 0 < q) (hg : Int.gcd p q = 1) : False := by
  subst e
  rw [fwD_of p0 q0 hg] at h
  cases h
theorem numD_no {y : PyData} (h : numD y 1 1000 = false) {m : Int} (e : y = .int m) (m1 : 1 ≤ m) (m2 : m ≤ 1000) : False := by
  subst e
  rw [numD_of m1 m2] at h
  cases h
/-- what is asked of the error classes -/
structure Errs (K : PySem.W.Frag) (mg : Str → Option Value) (CS CR CM : Addr) : Prop where
  gS : mg "GearError" = some (.ref CS)
  eR : ExcG K mg "BadRatio" CR
  eM : ExcG K mg "BadMost" CM
  cR : ExcC K CR
  cM : ExcC K CM
  xR : PySem.W.exmOne K (.ref CR) (.ref CS) = some true
  xM : PySem.W.exmOne K (.ref CM) (.ref CS) = some true
  kR : PySem.W.kitOne K (.ref CR) (.ref CR) = some true
  kM : PySem.W.kitOne K (.ref CM) (.ref CM) = some true
theorem sz {a : Int} {k : Nat} (h0 : 0 < a) (h1 : a ≤ 10 ^ 24) (hk : 80 ≤ k) : a.natAbs < 2 ^ k := Nat.lt_of_lt_of_le (show a.natAbs < 2 ^ 80 by omega) (Nat.pow_le_pow_right (by decide) hk)
def lawFor : List Stmt := match defBody slaw with
  | [_, .For _ _ b _ _, _, _] => b
  | _ => []
def badOdd (x : PyData) : Prop := fwD x = false ∧ SmR x
def badMost (y : PyData) : Prop := numD y 1 1000 = false
section
variable {P : Program} {w : World} {K : PySem.W.Frag} {mg : Str → Option Value} {base : Heap}
theorem law_turn2 {CS CR CM c Pt fc : Addr} {fdc : FuncData} (B : Bt mg) (E : Errs K mg CS CR CM) (TB : TabB base mg c Pt)
    (Fneighbours : Fd P w K mg base "neighbours" 5 (RNbs CR CM)) (Fare_neighbours : Fd P w K mg base "are_neighbours" 5 (RAre CR CM)) (F_law_pick : Fd P w K mg base "_law_pick" 3 RPick)
    (Fc : Fun K "_law_caught" "_law_caught" s_law_caught fc fdc) (hmc : mg "_law_caught" = some (.ref fc))
    (X : Cx) (C : Cok X P w K mg base 7 ["script", "draw", "turn", "wide", "most", "share", "odd", "bad"] (defScope slaw)) (hcode : X.env.code = .ref c) (ex : XP) (hm0 : (Pt, X.env.qual ++ "<lambda>") ∈ ex.T) (hu0 : ∀ p ∈ ex.T, p.1 = Pt → p.2 = X.env.qual ++ "<lambda>")
    (o0 o2 o3 o4 o6 o7 : Option DV) (p q : Int) (p0 : 0 < p) (q0 : 0 < q) (hg : Int.gcd p q = 1) (kp : p.natAbs < 2 ^ 8000) (kq : q.natAbs < 2 ^ 8000) (pd : Addr) (t : Nat) (M : MM) (ht : t < 10000) (D : Dr M pd t) (Po : Post) (hnx : ∀ M' o6 o7, Dr M' pd (t + 2) → Po.nx [o0, some (.v (.ref pd)), o2, o3, o4, some (.d (pr p q)), o6, o7] M') :
    G.Run X ex (lawFor.drop 4) [o0, some (.v (.ref pd)), o2, o3, o4, some (.d (pr p q)), o6, o7] M Po := by
  have v1 := C.var 1 (x := "draw")
  have l1 := C.loc 1 (x := "draw")
  have v2 := C.var 2 (x := "turn")
  have l2 := C.loc 2 (x := "turn")
  have v3 := C.var 3 (x := "wide")
  have l3 := C.loc 3 (x := "wide")
  have v4 := C.var 4 (x := "most")
  have l4 := C.loc 4 (x := "most")
  have v5 := C.var 5 (x := "share")
  have l5 := C.loc 5 (x := "share")
  have v6 := C.var 6 (x := "odd")
  have l6 := C.loc 6 (x := "odd")
  have v7 := C.var 7 (x := "bad")
  have l7 := C.loc 7 (x := "bad")
  have hcalm := C.calm
  have b_isinstance : BltOk _ "isinstance" := ⟨C.gl (x := "isinstance"), by rw [C.mg]; exact B.isinstance_⟩
  have f__law_pick := C.fd F_law_pick
  have g__law_pick := C.gl (x := "_law_pick")
  have gc := C.gl (x := "_law_caught")
  have hr := C.room
  have gR := C.gcls E.eR
  have gM := C.gcls E.eM
  have hcau := cau_ok C Fc hmc E.gS
  have hTB : TabB X.base X.mg c Pt := by rw [C.base, C.mg]; exact TB
  show G.Run X ex _ [o0, some (.v (.ref pd)), o2, o3, o4, some (.d (pr p q)), o6, o7] M _
  refine run_unpack (is := [6, 7]) C (.cons l6 (.cons l7 .nil)) ?_ rfl (fun _ => rfl)
  walk_at "go"
  refine ⟨pd, t, _, rfl, by omega, D, ⟨Nat.le_of_ble_eq_true rfl, Nat.le_of_ble_eq_true rfl⟩, fun x M1 hx D1 => ?_⟩
  obtain ⟨hx1, hx2⟩ : badOdd x := by
    simp at hx
    rcases hx with rfl | rfl | rfl | rfl | rfl | rfl | rfl <;> exact ⟨by decide +kernel, fun a b e => by cases e <;> exact ⟨by decide +kernel, by decide +kernel⟩⟩
  walk_at "go"
  refine ⟨pd, t + 1, _, rfl, by omega, D1, ⟨Nat.le_of_ble_eq_true rfl, Nat.le_of_ble_eq_true rfl⟩, fun y M2 hy D2 => ?_⟩
  have hy1 : badMost y := by
    simp at hy
    rcases hy with rfl | rfl | rfl | rfl | rfl | rfl <;> (unfold badMost; decide +kernel)
  walk_at "go"
  refine ⟨rfl, ?_⟩
  have hnt : ∀ z ps, M2 z ≠ some (.tbl ps) := by
    obtain ⟨_, _, _, _, _, _, DA, _⟩ := id D2
    exact DA.nt
  have hcR : ExcC X.K CR := by rw [C.K]; exact E.cR
  have hcM : ExcC X.K CM := by rw [C.K]; exact E.cM
  have hkR : PySem.W.kitOne X.K (.ref CR) (.ref CR) = some true := by rw [C.K]; exact E.kR
  have hkM : PySem.W.kitOne X.K (.ref CM) (.ref CM) = some true := by rw [C.K]; exact E.kM
  have hxR : PySem.W.exmOne X.K (.ref CR) (.ref CS) = some true := by rw [C.K]; exact E.xR
  have hxM : PySem.W.exmOne X.K (.ref CM) (.ref CS) = some true := by rw [C.K]; exact E.xM
  walk_at "go"
  refine ev_caught (k := 5) hcau gc hTB hcode hm0 hu0 hr (by rw [C.sc]; exact lamS_by (by decide +kernel)) hnt (fun A outer s H EE f c' hr' => ?_) (fun _ => rfl) (fun _ _ _ _ _ => rfl) (by decide)
  have Y1 := C.lam (outer := outer) (s := s) (H := H) (E := EE) (c' := c') hr'
  have w11 := Y1.var 6 (x := "odd")
  have w12 := Y1.var 7 (x := "bad")
  have fy1 := Y1.fd Fneighbours
  have gy1 := Y1.gl (x := "neighbours")
  have hry1 := Y1.room
  walk_at "go"
  refine ⟨hx2, fun _ => ⟨hxR, ?_⟩, fun h => (by rw [hx1] at h; cases h), fun p' q' m' e1 _ h1 h2 h3 _ _ => (fwD_tup hx1 e1 h1 h2 h3).elim⟩
  walk_at "go"
  refine ev_caught (k := 5) hcau gc hTB hcode hm0 hu0 hr (by rw [C.sc]; exact lamS_by (by decide +kernel)) hnt (fun A outer s H EE f c' hr' => ?_) (fun _ => rfl) (fun _ _ _ _ _ => rfl) (by decide)
  have Y2 := C.lam (outer := outer) (s := s) (H := H) (E := EE) (c' := c') hr'
  have w21 := Y2.var 6 (x := "odd")
  have w22 := Y2.var 7 (x := "bad")
  have fy2 := Y2.fd Fare_neighbours
  have gy2 := Y2.gl (x := "are_neighbours")
  have hry2 := Y2.room
  walk_at "go"
  refine ⟨hx2, fun _ => ⟨hxR, ?_⟩, fun h => (by rw [hx1] at h; cases h), fun p' q' m' e1 _ h1 h2 h3 _ _ => (fwD_tup hx1 e1 h1 h2 h3).elim⟩
  walk_at "go"
  refine ev_caught (k := 5) hcau gc hTB hcode hm0 hu0 hr (by rw [C.sc]; exact lamS_by (by decide +kernel)) hnt (fun A outer s H EE f c' hr' => ?_) (fun _ => rfl) (fun _ _ _ _ _ => rfl) (by decide)
  have Y3 := C.lam (outer := outer) (s := s) (H := H) (E := EE) (c' := c') hr'
  have w31 := Y3.var 5 (x := "share")
  have w32 := Y3.var 7 (x := "bad")
  have fy3 := Y3.fd Fneighbours
  have gy3 := Y3.gl (x := "neighbours")
  have hry3 := Y3.room
  walk_at "go"
  refine ⟨smR_of kp kq, fun h => (fwD_tup h rfl p0 q0 hg).elim, fun _ _ => ⟨hxM, ?_⟩, fun p' q' m' _ e2 _ _ _ h4 h5 => (numD_no hy1 e2 h4 h5).elim⟩
  walk_at "go"
  refine ev_caught (k := 5) hcau gc hTB hcode hm0 hu0 hr (by rw [C.sc]; exact lamS_by (by decide +kernel)) hnt (fun A outer s H EE f c' hr' => ?_) (fun _ => rfl) (fun _ _ _ _ _ => rfl) (by decide)
  have Y4 := C.lam (outer := outer) (s := s) (H := H) (E := EE) (c' := c') hr'
  have w41 := Y4.var 5 (x := "share")
  have w42 := Y4.var 7 (x := "bad")
  have fy4 := Y4.fd Fare_neighbours
  have gy4 := Y4.gl (x := "are_neighbours")
  have hry4 := Y4.room
  walk_at "go"
  refine ⟨smR_of kp kq, fun h => (fwD_tup h rfl p0 q0 hg).elim, fun _ _ => ⟨hxM, ?_⟩, fun p' q' m' _ e2 _ _ _ h4 h5 => (numD_no hy1 e2 h4 h5).elim⟩
  walk_at "go"
  exact hnx M2 _ _ D2
end
end K56
/-! K56n: one turn of the law. -/
namespace K56
open PySem PySem.Spec PyProof.Rows L2 G LamX
section
variable {P : Program} {w : World} {K : PySem.W.Frag} {mg : Str → Option Value} {base : Heap}
theorem law_turn {CS CR CM c Pt fc : Addr} {fdc : FuncData} (B : Bt mg) (E : Errs K mg CS CR CM) (TB : TabB base mg c Pt)
    (Fneighbours : Fd P w K mg base "neighbours" 5 (RNbs CR CM)) (Fare_neighbours : Fd P w K mg base "are_neighbours" 5 (RAre CR CM)) (F_law_take : Fd P w K mg base "_law_take" 2 RTake) (F_law_pick : Fd P w K mg base "_law_pick" 3 RPick)
    (F_law_fraction : Fd P w K mg base "_law_fraction" 2 RFr) (F_law_split : Fd P w K mg base "_law_split" 3 RSplit) (F_law_one_right : Fd P w K mg base "_law_one_right" 6 ROne) (Fc : Fun K "_law_caught" "_law_caught" s_law_caught fc fdc) (hmc : mg "_law_caught" = some (.ref fc))
    (X : Cx) (C : Cok X P w K mg base 7 ["script", "draw", "turn", "wide", "most", "share", "odd", "bad"] (defScope slaw)) (hcode : X.env.code = .ref c) (ex : XP) (hm0 : (Pt, X.env.qual ++ "<lambda>") ∈ ex.T) (hu0 : ∀ p ∈ ex.T, p.1 = Pt → p.2 = X.env.qual ++ "<lambda>")
    (o0 o2 o3 o4 o5 o6 o7 : Option DV) (pd : Addr) (t : Nat) (M : MM) (ht : t < 1000) (D : Dr M pd t) (Po : Post) (hnx : ∀ M' o3 o4 o5 o6 o7, Dr M' pd (t + 100) → Po.nx [o0, some (.v (.ref pd)), o2, o3, o4, o5, o6, o7] M') :
    G.Run X ex lawFor [o0, some (.v (.ref pd)), o2, o3, o4, o5, o6, o7] M Po := by
  have v1 := C.var 1 (x := "draw")
  have l1 := C.loc 1 (x := "draw")
  have v2 := C.var 2 (x := "turn")
  have l2 := C.loc 2 (x := "turn")
  have v3 := C.var 3 (x := "wide")
  have l3 := C.loc 3 (x := "wide")
  have v4 := C.var 4 (x := "most")
  have l4 := C.loc 4 (x := "most")
  have v5 := C.var 5 (x := "share")
  have l5 := C.loc 5 (x := "share")
  have v6 := C.var 6 (x := "odd")
  have l6 := C.loc 6 (x := "odd")
  have v7 := C.var 7 (x := "bad")
  have l7 := C.loc 7 (x := "bad")
  have hcalm := C.calm
  have b_isinstance : BltOk _ "isinstance" := ⟨C.gl (x := "isinstance"), by rw [C.mg]; exact B.isinstance_⟩
  have f__law_take := C.fd F_law_take
  have g__law_take := C.gl (x := "_law_take")
  have f__law_pick := C.fd F_law_pick
  have g__law_pick := C.gl (x := "_law_pick")
  have f__law_fraction := C.fd F_law_fraction
  have g__law_fraction := C.gl (x := "_law_fraction")
  have f__law_split := C.fd F_law_split
  have g__law_split := C.gl (x := "_law_split")
  have f__law_one_right := C.fd F_law_one_right
  have g__law_one_right := C.gl (x := "_law_one_right")
  have gc := C.gl (x := "_law_caught")
  have hr := C.room
  have gR := C.gcls E.eR
  have gM := C.gcls E.eM
  have hcau := cau_ok C Fc hmc E.gS
  have hTB : TabB X.base X.mg c Pt := by rw [C.base, C.mg]; exact TB
  show G.Run X ex _ [o0, some (.v (.ref pd)), o2, o3, o4, o5, o6, o7] M _
  walk_at "s0"
  walk_at "go"
  refine ⟨pd, t, _, rfl, by omega, D, ⟨Nat.le_of_ble_eq_true rfl, Nat.le_of_ble_eq_true rfl⟩, fun d1 M1 hd1 D1 => ?_⟩
  obtain ⟨wd, rfl, w0, w1⟩ : ∃ wd : Int, d1 = .int wd ∧ 0 < wd ∧ wd ≤ 10 ^ 12 := by
    simp at hd1
    rcases hd1 with rfl | rfl | rfl | rfl <;> exact ⟨_, rfl, by decide, by decide⟩
  walk_at "go"
  refine ⟨pd, t + 1, 24, rfl, by omega, D1, ⟨by omega, by decide +kernel⟩, fun i2 M2 i20 i21 D2 => ?_⟩
  walk_at "go"
  refine ⟨pd, t + 1 + 1, 1000, rfl, by omega, D2, ⟨by omega, by decide +kernel⟩, fun i3 M3 i30 i31 D3 => ?_⟩
  walk_at "go"
  refine ⟨pd, t + 1 + 1 + 1, _, rfl, by omega, D3, ⟨Nat.le_of_ble_eq_true rfl, Nat.le_of_ble_eq_true rfl⟩, fun d2 M4 hd2 D4 => ?_⟩
  obtain ⟨m, rfl, m1, m2⟩ : ∃ m : Int, d2 = .int m ∧ 1 ≤ m ∧ m ≤ 1000 := by
    simp at hd2
    rcases hd2 with rfl | rfl | rfl | rfl | rfl <;> exact ⟨_, rfl, by omega, by omega⟩
  walk_at "go"
  refine ⟨pd, t + 4, wd, rfl, by omega, D4, ⟨w0, sz w0 (by omega) (by decide)⟩, fun i4 M5 i40 i41 D5 => ?_⟩
  walk_at "go"
  refine ⟨pd, t + 5, wd, rfl, by omega, D5, ⟨w0, sz w0 (by omega) (by decide)⟩, fun i5 M6 i50 i51 D6 => ?_⟩
  walk_at "go"
  refine ⟨⟨by omega, by omega, sz (by omega) (by omega) (by decide), sz (by omega) (by omega) (by decide)⟩, fun p q p0 q0 hg hp hq => ?_⟩
  have p12 : p ≤ 10 ^ 12 := by omega
  have q12 : q ≤ 10 ^ 12 := by omega
  have kp : p.natAbs < 2 ^ 40 := by omega
  have kq : q.natAbs < 2 ^ 40 := by omega
  walk_at "go"
  refine ⟨pd, t + 6, p, q, m, rfl, ⟨by omega, D6, p0, q0, hg, sz p0 (by omega) (by decide), sz q0 (by omega) (by decide), m1, m2⟩, fun M7 D7 => ?_⟩
  walk_at "go"
  refine ⟨⟨by omega, by omega, p0, q0, by decide +kernel, by decide +kernel, sz p0 (by omega) (by decide), sz q0 (by omega) (by decide)⟩, fun p' q' p'0 q'0 hg' hp' hq' => ?_⟩
  walk_at "go"
  refine ⟨pd, t + 24, 20, rfl, by omega, D7, ⟨by omega, by decide +kernel⟩, fun i6 M8 i60 i61 D8 => ?_⟩
  walk_at "go"
  refine ⟨pd, t + 25, p', q', _, rfl, ⟨by omega, D8, p'0, q'0, hg', sz p'0 (by omega) (by decide), sz q'0 (by omega) (by decide), by omega, by omega⟩, fun M9 D9 => ?_⟩
  walk_at "go"
  refine ⟨pd, t + 43, 30, rfl, by omega, D9, ⟨by omega, by decide +kernel⟩, fun i7 Ma i70 i71 Da => ?_⟩
  have pq0 : 0 < p * q := Int.mul_pos p0 q0
  have pq1 : p * q ≤ 10 ^ 24 := by
    have h1 : p * q ≤ 10 ^ 12 * q := Int.mul_le_mul_of_nonneg_right p12 (by omega)
    omega
  walk_at "go"
  refine ⟨pd, t + 44, p * q, 1, _, rfl, ⟨by omega, Da, pq0, by omega, Int.gcd_one_right _, sz pq0 pq1 (by decide), by decide +kernel, by omega, by omega⟩, fun Mb Db => ?_⟩
  walk_at "go"
  exact law_turn2 B E TB Fneighbours Fare_neighbours F_law_pick Fc hmc X C hcode ex hm0 hu0 o0 o2 (some (.d (.int wd))) (some (.d (.int m))) o6 o7 p q p0 q0 hg (sz p0 (by omega) (by decide)) (sz q0 (by omega) (by decide)) pd (t + 62) Mb (by omega) Db Po fun M' o6 o7 D' => hnx M' _ _ _ _ _ (D'.mono (by omega))
end
end K56
/-! K56m: the law's body. -/
namespace K56
open PySem PySem.Spec PyProof.Rows L2 G LamX
theorem NbR.due {p q m a b c d : Int} (hp : 0 < p) (hq : 0 < q) (hg : Int.gcd p q = 1) (hm : 1 ≤ m) (N : NbR p q m a b c d) : DueP p q m a b c d := by
  rcases N with ⟨h1, h2, ea, eb, ec, ed⟩ | ⟨_, n, hf⟩
  · have hi : InL m p q := .inr (.inr ⟨by omega, h1, by omega, h2, hg⟩)
    rw [ea, eb, ec, ed]
    exact ⟨hi, Int.le_refl _, fun s t _ h => h, hi, Int.le_refl _, fun s t _ h => h⟩
  · have a0 := n.a0; have b0 := n.b0; have c0 := n.c0; have d0 := n.d0
    refine ⟨n.inl1, Int.le_of_lt n.lo, fun s t L h => ?_, n.inl2, Int.le_of_lt n.hi, fun s t L h => ?_⟩
    · rcases Int.lt_or_le (a * t) (s * b) with z | z
      · exfalso
        obtain ⟨y1, y2⟩ := L.le hm
        have ht : 0 < t := by
          rcases L with ⟨k1, k2⟩ | ⟨k1, k2⟩ | ⟨k1, k2, k3, k4, k5⟩
          · omega
          · exfalso
            subst k1 k2
            omega
          · omega
        have z2 := between_hi (a := a) (b := b) hq ht d0 h n.hi
        have f1 := far1 n.det a0 c0 z z2
        have f2 := far2 n.det b0 d0 z z2
        omega
      · exact z
    · rcases Int.lt_or_le (s * d) (c * t) with z | z
      · exfalso
        obtain ⟨y1, y2⟩ := L.le hm
        have hs : 0 < s := by
          rcases L with ⟨k1, k2⟩ | ⟨k1, k2⟩ | ⟨k1, k2, k3, k4, k5⟩
          · exfalso
            subst k1 k2
            omega
          · omega
          · omega
        have z2 := between_lo (c := c) (d := d) hp hs a0 h n.lo
        have f1 := far1 n.det a0 c0 z2 z
        have f2 := far2 n.det b0 d0 z2 z
        omega
      · exact z
theorem nb_unique {p q m a b c d a' b' c' d' : Int} (hp : 0 < p) (hq : 0 < q) (hg : Int.gcd p q = 1) (hm : 1 ≤ m) (N : NbR p q m a b c d) (N' : NbR p q m a' b' c' d') : a' = a ∧ b' = b ∧ c' = c ∧ d' = d := due_eq hp hq hg hm N (N'.due hp hq hg hm)
theorem ex1 : NbR 22 7 10 3 1 10 3 := .inr ⟨by omega, ⟨by omega, by omega, by omega, by omega, by omega, by omega, by omega, by omega, by omega, by omega, by omega⟩, by omega⟩
theorem ex2 : NbR 1 100 9 0 1 1 9 := .inr ⟨by omega, ⟨by omega, by omega, by omega, by omega, by omega, by omega, by omega, by omega, by omega, by omega, by omega⟩, by omega⟩
theorem ex3 : NbR 100 1 9 9 1 1 0 := .inr ⟨by omega, ⟨by omega, by omega, by omega, by omega, by omega, by omega, by omega, by omega, by omega, by omega, by omega⟩, by omega⟩
theorem ex4 : NbR 3 7 7 3 7 3 7 := .inl ⟨by omega, by omega, rfl, rfl, rfl, rfl⟩
theorem ex5 : NbR 355 113 22 3 1 22 7 := .inr ⟨by omega, ⟨by omega, by omega, by omega, by omega, by omega, by omega, by omega, by omega, by omega, by omega, by omega⟩, by omega⟩
section
variable {X : Cx} {ex : XP} {ρ : Env'} {M : MM} {q : DV → MM → Prop} {CR CM : Addr} {p1 p2 p3 p4 p5 p6 p7 p8 p9 pa pb pc pd pe pf pg ph pi : Pos} {j1 j2 j3 j4 j5 j6 j7 k1 k2 k3 k4 : Nat} {p q' m a b c d : Int}
theorem ev_nbis (fn : Fd X.prog X.w X.K X.mg X.base "neighbours" 5 (RNbs CR CM)) (gn : Gl X "neighbours") (fi : Fd X.prog X.w X.K X.mg X.base "_law_is" 3 (RIs 2)) (gi : Gl X "_law_is") (hr : Room 7 X.A) (N : NbR p q' m a b c d) (p0 : 0 < p) (q0 : 0 < q') (hg : Int.gcd p q' = 1) (kp : p ≤ 100000) (kq : q' ≤ 100000) (m1 : 1 ≤ m) (m2 : m ≤ 1000) (k : q (.d (.bool true)) M) :
    Ev X ex (.Call (.Name "_law_is" p1) [.Call (.Name "neighbours" p2) [.Tuple [.Constant (.int p) j1 p3, .Constant (.int q') j2 p4] k1 p5, .Constant (.int m) j3 p6] [] p7, .Tuple [.Tuple [.Constant (.int a) j4 p8, .Constant (.int b) j5 p9] k2 pa, .Tuple [.Constant (.int c) j6 pb, .Constant (.int d) j7 pc] k3 pd] k4 pe] [] pf) ρ M q := by
  walk_at "go"
  refine ⟨smR_of (pow8 (by omega) kp) (pow8 (by omega) kq), fun h => (fwD_tup h rfl p0 q0 hg).elim, fun _ h => (numD_no h rfl m1 m2).elim, fun p' q' m' e1 e2 _ _ _ _ _ a' b' c' d' N' => ?_⟩
  cases e1
  cases e2
  obtain ⟨rfl, rfl, rfl, rfl⟩ := nb_unique p0 q0 hg m1 N N'
  walk_at "go"
  exact ⟨told_nb _ _ _ _, k⟩
theorem ev_nbisK (fk : FdK X.prog X.w X.K X.mg X.base "neighbours" 5 (RNbs CR CM) ["ratio", "most"]) (gn : Gl X "neighbours") (fi : Fd X.prog X.w X.K X.mg X.base "_law_is" 3 (RIs 2)) (gi : Gl X "_law_is") (hr : Room 7 X.A) (N : NbR p q' m a b c d) (p0 : 0 < p) (q0 : 0 < q') (hg : Int.gcd p q' = 1) (kp : p ≤ 100000) (kq : q' ≤ 100000) (m1 : 1 ≤ m) (m2 : m ≤ 1000) (k : q (.d (.bool true)) M) :
    Ev X ex (.Call (.Name "_law_is" p1) [.Call (.Name "neighbours" p2) [] [⟨some "ratio", .Tuple [.Constant (.int p) j1 p3, .Constant (.int q') j2 p4] k1 p5, pg⟩, ⟨some "most", .Constant (.int m) j3 p6, ph⟩] p7, .Tuple [.Tuple [.Constant (.int a) j4 p8, .Constant (.int b) j5 p9] k2 pa, .Tuple [.Constant (.int c) j6 pb, .Constant (.int d) j7 pc] k3 pd] k4 pe] [] pf) ρ M q := by
  walk_at "go"
  refine ev_callK2 fk (hr.mono (by decide)) gn ?_ (by decide)
  walk_at "go"
  refine ⟨smR_of (pow8 (by omega) kp) (pow8 (by omega) kq), fun h => (fwD_tup h rfl p0 q0 hg).elim, fun _ h => (numD_no h rfl m1 m2).elim, fun p' q' m' e1 e2 _ _ _ _ _ a' b' c' d' N' => ?_⟩
  cases e1
  cases e2
  obtain ⟨rfl, rfl, rfl, rfl⟩ := nb_unique p0 q0 hg m1 N N'
  walk_at "go"
  exact ⟨told_nb _ _ _ _, k⟩
end
def RLaw (T : List (Addr × Str)) : RT := fun dvs M q ex => ∃ ns : List Int, dvs = [.r (ns.map PyData.int)] ∧ ns.length ≤ 63 ∧ (∀ z ps, M z ≠ some (.tbl ps)) ∧ ex.T = T ∧ ∀ M', q (.d (.bool true)) M'
section
variable {P : Program} {w : World} {K : PySem.W.Frag} {mg : Str → Option Value} {base : Heap}
theorem law_body {CS CR CM c Pt fc : Addr} {fdc : FuncData} (B : Bt mg) (E : Errs K mg CS CR CM) (TB : TabB base mg c Pt)
    (Fneighbours : Fd P w K mg base "neighbours" 5 (RNbs CR CM)) (Fneighbours2 : FdK P w K mg base "neighbours" 5 (RNbs CR CM) ["ratio", "most"]) (Fare_neighbours : Fd P w K mg base "are_neighbours" 5 (RAre CR CM)) (F_law_begun : Fd P w K mg base "_law_begun" 1 RBegun) (F_law_take : Fd P w K mg base "_law_take" 2 RTake) (F_law_pick : Fd P w K mg base "_law_pick" 3 RPick)
    (F_law_fraction : Fd P w K mg base "_law_fraction" 2 RFr) (F_law_split : Fd P w K mg base "_law_split" 3 RSplit) (F_law_is : Fd P w K mg base "_law_is" 3 (RIs 2)) (F_law_one_right : Fd P w K mg base "_law_one_right" 6 ROne) (Fc : Fun K "_law_caught" "_law_caught" s_law_caught fc fdc) (hmc : mg "_law_caught" = some (.ref fc))
    (X : Cx) (C : Cok X P w K mg base 7 ["script", "draw", "turn", "wide", "most", "share", "odd", "bad"] (defScope slaw)) (hcode : X.env.code = .ref c) (hqual : X.env.qual = "law" ++ ".<locals>.") (dvs : List DV) (M : MM) (Q : DV → MM → Prop) (ex : XP) (h : RLaw [(Pt, ("law" : Str) ++ ".<locals>." ++ "<lambda>")] dvs M Q ex) :
    G.Run X ex (defBody slaw) (envStart ["script", "draw", "turn", "wide", "most", "share", "odd", "bad"] dvs) M { nx := fun _ M' => Q (.d .none) M', rt := Q } := by
  obtain ⟨ns, rfl, hn, nt, hT, hQ⟩ := h
  have v0 := C.var 0 (x := "script")
  have v1 := C.var 1 (x := "draw")
  have l1 := C.loc 1 (x := "draw")
  have v2 := C.var 2 (x := "turn")
  have l2 := C.loc 2 (x := "turn")
  have hcalm := C.calm
  have b_len : BltOk _ "len" := ⟨C.gl (x := "len"), by rw [C.mg]; exact B.len_⟩
  have b_min : BltOk _ "min" := ⟨C.gl (x := "min"), by rw [C.mg]; exact B.min_⟩
  have b_range : BltOk _ "range" := ⟨C.gl (x := "range"), by rw [C.mg]; exact B.range_⟩
  have f__law_begun := C.fd F_law_begun
  have g__law_begun := C.gl (x := "_law_begun")
  have fi := C.fd F_law_is
  have gi := C.gl (x := "_law_is")
  have fn := C.fd Fneighbours
  have gn := C.gl (x := "neighbours")
  have fk : FdK X.prog X.w X.K X.mg X.base "neighbours" 5 (RNbs CR CM) ["ratio", "most"] := by rw [C.prog, C.w, C.K, C.mg, C.base]; exact Fneighbours2
  have hr := C.room
  have hm0 : (Pt, X.env.qual ++ "<lambda>") ∈ ex.T := by rw [hT, hqual]; exact .head _
  have hu0 : ∀ p ∈ ex.T, p.1 = Pt → p.2 = X.env.qual ++ "<lambda>" := by
    rw [hT, hqual]
    intro p hp _
    rcases List.mem_cons.mp hp with rfl | hp
    · rfl
    · cases hp
  have t1 : ∀ {ρ : Env'} {M : MM} {q : DV → MM → Prop} {e : Expr}, G.Ev X ex e ρ M q → G.Ev X ex e ρ M q := fun h => h
  show G.Run X ex _ [some (.r (ns.map PyData.int)), none, none, none, none, none, none, none] M _
  clear fi fn fk
  walk_at "s0"
  walk_at "go"
  refine ⟨hn, nt, fun pd M0 D0 => ?_⟩
  refine run_forR1 C b_range (fun cc i ρ' M' => cc ≤ 4 ∧ i ≤ cc ∧ Dr M' pd (100 * i) ∧ ∃ o2 o3 o4 o5 o6 o7, ρ' = [some (.r (ns.map PyData.int)), some (.v (.ref pd)), o2, o3, o4, o5, o6, o7]) ?_ ?_ ?_ rfl
  · walk_at "go"
    exact ⟨by omega, by omega, by omega, by omega, D0.mono (by omega), _, _, _, _, _, _, rfl⟩
  · rintro cc i ρ' M1 hi ⟨c4, ic, D1, o2, o3, o4, o5, o6, o7, rfl⟩
    refine ga_name C.nod l2 ?_
    exact law_turn B E TB Fneighbours Fare_neighbours F_law_take F_law_pick F_law_fraction F_law_split F_law_one_right Fc hmc X C hcode ex hm0 hu0 _ _ _ _ _ _ _ pd (100 * i) M1 (by omega) D1 _ fun M' o3 o4 o5 o6 o7 D' => ⟨c4, by omega, D'.mono (by omega), _, _, _, _, _, _, rfl⟩
  · rintro cc ρ' M1 ⟨c4, ic, D1, o2, o3, o4, o5, o6, o7, rfl⟩
    have fi := C.fd F_law_is
    have fn := C.fd Fneighbours
    have fk : FdK X.prog X.w X.K X.mg X.base "neighbours" 5 (RNbs CR CM) ["ratio", "most"] := by rw [C.prog, C.w, C.K, C.mg, C.base]; exact Fneighbours2
    refine run_if (et_or (et_not (et_val (ev_nbisK fk gn fi gi hr ex1 (by decide) (by decide) (by decide) (by decide) (by decide) (by decide) (by decide) ⟨_, rfl, ?_⟩) rfl)))
    refine iteF ?_
    refine ew_or1 (et_not (et_val (ev_nbis fn gn fi gi hr ex2 (by decide) (by decide) (by decide) (by decide) (by decide) (by decide) (by decide) ⟨_, rfl, ?_⟩) rfl))
    refine iteF ?_
    refine run_nil ?_
    refine run_ret (ev_and (ev_nbis fn gn fi gi hr ex3 (by decide) (by decide) (by decide) (by decide) (by decide) (by decide) (by decide) ⟨_, rfl, ?_⟩))
    refine iteT ?_
    refine ev_and (ev_nbis fn gn fi gi hr ex4 (by decide) (by decide) (by decide) (by decide) (by decide) (by decide) (by decide) ⟨_, rfl, ?_⟩)
    refine iteT ?_
    refine ev_one (ev_nbis fn gn fi gi hr ex5 (by decide) (by decide) (by decide) (by decide) (by decide) (by decide) (by decide) ?_)
    exact hQ _
end
end K56
/-! K56y: what the top has left, put together. -/
namespace G
open PySem PySem.Spec PyProof.Rows L2
/-- a def that the top has left -/
structure DefK (K : PySem.W.Frag) (x : Str) (st : Stmt) : Prop where
  ok : ∃ f fd, PySem.W.nsIn K mainGlobals x = some (some (.ref f)) ∧ Fun K x x st f fd
theorem defK_mk {K : PySem.W.Frag} {x : Str} {st : Stmt} {f : Addr} {oc : Value} {od an : Option Addr} {osl : Array (Option Value)} {kV doc pm cdv ct : Value} (a : PySem.W.nsIn K mainGlobals x = some (some (.ref f)))
    (l : K.lookup f = some ⟨oc, od, .func (PySem.W.fnOf x x (defArgs st) (defBody st) (defScope st) .none kV doc pm an cdv ct), osl⟩) (c : PySem.W.codeIn K cdv x = true) (k : PySem.W.keepIn K (.ref f) = true) : DefK K x st := ⟨f, _, a, fun_mk l c k⟩
section
variable {P : Program} {w : World} {K : PySem.W.Frag} {mg : Str → Option Value} {base h : Heap} {x : Str} {st : Stmt} {n : Nat} {R : RT} {ps : List Str}
theorem DefK.fd (D : DefK K x st) (X : K.In h) (g : h.Ns mainGlobals mg) (ok : ∀ f fd, Fun K x x st f fd → FnOk P w K mg base (L2.CX P w) n f fd ps (spG K R))
    (hb : ∀ (kV doc pm : Value) (an : Option Addr) (cdv ct : Value) (us : List Value), us.length = ps.length → bindArgs (PySem.W.fnOf x x (defArgs st) (defBody st) (defScope st) .none kV doc pm an cdv ct) ⟨us, []⟩ = pure (ps.zip us)) : Fd P w K mg base x n R := by
  obtain ⟨f, fd, a, F⟩ := D.ok
  exact ⟨f, fd, ps, ok f fd F, PySem.W.mg_of X g a, F.kp, F.binds hb⟩
theorem DefK.fdK (D : DefK K x st) (X : K.In h) (g : h.Ns mainGlobals mg) (ok : ∀ f fd, Fun K x x st f fd → FnOk P w K mg base (L2.CX P w) n f fd ps (spG K R))
    (hb : ∀ (kV doc pm : Value) (an : Option Addr) (cdv ct : Value) (s : Shared) (us : List Value), us.length = ps.length → BindsTo s (PySem.W.fnOf x x (defArgs st) (defBody st) (defScope st) .none kV doc pm an cdv ct) ⟨[], ps.zip us⟩ (ps.zip us)) : FdK P w K mg base x n R ps := by
  obtain ⟨f, fd, a, F⟩ := D.ok
  have F' := F
  obtain ⟨oc, od, kV, doc, pm, an, cdv, ct, osl, rfl, lk, hcd⟩ := F.ex
  exact ⟨f, _, ok f _ F', PySem.W.mg_of X g a, F'.kp, fun s ws hl => hb kV doc pm an cdv ct s ws hl⟩
end
/-- an error class that the top has left -/
theorem excG_mk {K : PySem.W.Frag} {mg : Str → Option Value} {h : Heap} {x : Str} {C : Addr} (X : K.In h) (g : h.Ns mainGlobals mg) (a : PySem.W.nsIn K mainGlobals x = some (some (.ref C))) (kp : PySem.W.keepIn K (.ref C) = true) (xc : PySem.W.excIn K C [.type "ValueError", .type "Exception", .type "BaseException", .type "object"] "ValueError.__new__" = true)
    (h1 : PySem.W.subIn K (.ref C) (.type "BaseException") = some true) (h2 : PySem.W.typeIn K (.ref C) = some (.type "type")) : ExcG K mg x C := ⟨PySem.W.mg_of X g a, kp, xc, h1, h2⟩
theorem gint_mk {K : PySem.W.Frag} {mg : Str → Option Value} {h : Heap} {x : Str} {i : Int} {t : Tok} (X : K.In h) (g : h.Ns mainGlobals mg) (a : PySem.W.nsIn K mainGlobals x = some (some (.int i t))) : GInt mg x i := ⟨⟨t, PySem.W.mg_of X g a⟩⟩
theorem gpair_mk {K : PySem.W.Frag} {mg : Str → Option Value} {h : Heap} {x : Str} {i j : Int} {b : Addr} {dd : Option Addr} {n : Nat} {sl : Array (Option Value)} {t u : Tok} (X : K.In h) (g : h.Ns mainGlobals mg) (a : PySem.W.nsIn K mainGlobals x = some (some (.ref b))) (lk : K.lookup b = some ⟨.type "tuple", dd, .seq #[.int i t, .int j u] n, sl⟩) : GPair K mg x i j :=
  ⟨⟨b, dd, n, sl, t, u, PySem.W.mg_of X g a, lk⟩⟩
theorem kit_self {K : PySem.W.Frag} {t : Value} : PySem.W.kitOne K t t = some true := if_pos (beq_iff_eq.mpr rfl)
end G
namespace K56
open PySem PySem.Spec PyProof.Rows L2 G LamX
structure All56 (K : PySem.W.Frag) : Prop where
  d5 : DefK K "is_number" sis_number
  d6 : DefK K "is_integer" sis_integer
  d7 : DefK K "common" scommon
  d8 : DefK K "is_fraction" sis_fraction
  d10 : DefK K "need_ratio" sneed_ratio
  d15 : DefK K "need_forward" sneed_forward
  d16 : DefK K "need_most" sneed_most
  d17 : DefK K "turn_of" sturn_of
  d18 : DefK K "neighbours" sneighbours
  d19 : DefK K "is_end" sis_end
  d20 : DefK K "are_neighbours" sare_neighbours
  d22 : DefK K "_law_begun" s_law_begun
  d23 : DefK K "_law_mixed" s_law_mixed
  d24 : DefK K "_law_take" s_law_take
  d25 : DefK K "_law_pick" s_law_pick
  d26 : DefK K "_law_caught" s_law_caught
  d27 : DefK K "_law_common" s_law_common
  d28 : DefK K "_law_fraction" s_law_fraction
  d29 : DefK K "_law_is" s_law_is
  d30 : DefK K "_law_split" s_law_split
  d31 : DefK K "_law_is_int" s_law_is_int
  d32 : DefK K "_law_below" s_law_below
  d33 : DefK K "_law_all" s_law_all
  d34 : DefK K "_law_due" s_law_due
  d35 : DefK K "_law_is_next" s_law_is_next
  d36 : DefK K "_law_bent" s_law_bent
  d37 : DefK K "_law_one_right" s_law_one_right
theorem law_at {l : PySem.W.OpenLaw} {w : World} {K : PySem.W.Frag} {mg : Str → Option Value} {h : Heap} {fa f c Pt CS CR CM : Addr} {oc : Value} {od an : Option Addr} {osl : Array (Option Value)} {kV doc pm ct : Value} (X : K.In h) (g : h.Ns mainGlobals mg) (hfa : mg "law" = some (.ref fa)) (A : All56 K)
    (a : PySem.W.nsIn K mainGlobals "law" = some (some (.ref f))) (lk : K.lookup f = some ⟨oc, od, .func (PySem.W.fnOf "law" "law" (defArgs slaw) (defBody slaw) (defScope slaw) .none kV doc pm an (.ref c) ct), osl⟩) (hcd : PySem.W.codeIn K (.ref c) "law" = true)
    (hC : PySem.W.codeHdIn K c Pt = true) (nT : K.lookup Pt = none) (hT : h.get? Pt = some (PySem.W.tabObj #[])) (B : Bt mg) (E : Errs K mg CS CR CM) (gM : GInt mg "MOST_MOST" 1000) (gN : GPair K mg "NOTHING" 0 1) (gE : GPair K mg "NO_END" 1 0) :
    LawAtS l w K (L2.CX l.prog w) 8 63 "script" mg fa h := by
  have e := hfa.symm.trans (PySem.W.mg_of X g a)
  cases e
  refine ⟨PySem.W.fnOf "law" "law" (defArgs slaw) (defBody slaw) (defScope slaw) .none kV doc pm an (.ref c) ct, [(c, Pt)], spG K (RLaw [(Pt, ("law" : Str) ++ ".<locals>." ++ "<lambda>")]), fun p hp => ?_, fun p hp => ?_, fun p hp => ?_, fun s u => .of_eq rfl, fun H a ns hl _ hH hS => ?_, fun base KB gB TB => ?_⟩
  · rcases List.mem_cons.mp hp with rfl | hp
    · exact hT
    · cases hp
  · rcases List.mem_cons.mp hp with rfl | hp
    · exact nT
    · cases hp
  · rcases List.mem_cons.mp hp with rfl | hp
    · exact PySem.W.codeHd_of_K X hC
    · cases hp
  · have e : off (fun _ => none) H = H := funext fun a => rfl
    refine ⟨[.r (ns.map PyData.int)], fun _ => none, fun dv _ => dv = .d (.bool true), ⟨fun _ _ => False, [(Pt, ("law" : Str) ++ ".<locals>." ++ "<lambda>")]⟩, ⟨fun a o z => (by cases z), fun p hp => ?_⟩, .cons ⟨a, ns.map V.int, rfl, by rw [e]; exact hS, DqAll.of_ints ns⟩ .nil, ⟨ns, rfl, hl, fun z ps q => (by cases q), rfl, fun _ => rfl⟩, fun v dv M' H' z s r => ?_, fun c M' H' z => z.elim⟩
    · rcases List.mem_cons.mp hp with rfl | hp
      · exact TabS.nil (hH (c, Pt) (.head _))
      · cases hp
    · subst z
      cases r
      rfl
  · have TB1 : TabB base mg c Pt := TB (c, Pt) (.head _)
    have Fis_number : Fd l.prog w K mg base "is_number" 1 RIsNum := A.d5.fd X g (fun _ _ F => ok_is_number (n := 0) F B) fun _ _ _ _ _ _ us hl => match us, hl with | [_, _, _], _ => rfl
    have Fis_integer : Fd l.prog w K mg base "is_integer" 1 RIsInt := A.d6.fd X g (fun _ _ F => ok_is_integer (n := 0) F B) fun _ _ _ _ _ _ us hl => match us, hl with | [_], _ => rfl
    have Fcommon : Fd l.prog w K mg base "common" 1 RCommon := A.d7.fd X g (fun _ _ F => ok_common (n := 0) F B) fun _ _ _ _ _ _ us hl => match us, hl with | [_, _], _ => rfl
    have Fis_fraction : Fd l.prog w K mg base "is_fraction" 2 RFrac := A.d8.fd X g (fun _ _ F => ok_is_fraction F B Fis_integer Fcommon) fun _ _ _ _ _ _ us hl => match us, hl with | [_], _ => rfl
    have Fneed_ratio : Fd l.prog w K mg base "need_ratio" 3 (RNeed CR raD) := A.d10.fd X g (fun _ _ F => ok_need_ratio F Fis_fraction E.eR) fun _ _ _ _ _ _ us hl => match us, hl with | [_], _ => rfl
    have Fneed_forward : Fd l.prog w K mg base "need_forward" 4 (RNeed CR fwD) := A.d15.fd X g (fun _ _ F => ok_need_forward F Fneed_ratio E.eR) fun _ _ _ _ _ _ us hl => match us, hl with | [_], _ => rfl
    have Fneed_most : Fd l.prog w K mg base "need_most" 2 (RMost CM) := A.d16.fd X g (fun _ _ F => ok_need_most F Fis_number gM E.eM) fun _ _ _ _ _ _ us hl => match us, hl with | [_], _ => rfl
    have Fturn_of : Fd l.prog w K mg base "turn_of" 1 RTurn := A.d17.fd X g (fun _ _ F => ok_turn_of (n := 0) F) fun _ _ _ _ _ _ us hl => match us, hl with | [_, _], _ => rfl
    have Fneighbours : Fd l.prog w K mg base "neighbours" 5 (RNbs CR CM) := A.d18.fd X g (fun _ _ F => ok_neighbours F B Fneed_forward Fneed_most Fturn_of gN gE) fun _ _ _ _ _ _ us hl => match us, hl with | [_, _], _ => rfl
    have Fneighbours2 : FdK l.prog w K mg base "neighbours" 5 (RNbs CR CM) ["ratio", "most"] := A.d18.fdK X g (fun _ _ F => ok_neighbours F B Fneed_forward Fneed_most Fturn_of gN gE) fun _ _ _ _ _ _ s us hl => match us, hl with | [_, _], _ => .of_eq rfl
    have Fis_end : Fd l.prog w K mg base "is_end" 2 REnd := A.d19.fd X g (fun _ _ F => ok_is_end F B Fis_integer) fun _ _ _ _ _ _ us hl => match us, hl with | [_], _ => rfl
    have Fare_neighbours : Fd l.prog w K mg base "are_neighbours" 5 (RAre CR CM) := A.d20.fd X g (fun _ _ F => ok_are_neighbours F B Fneed_forward Fneed_most Fturn_of Fis_end) fun _ _ _ _ _ _ us hl => match us, hl with | [_, _, _], _ => rfl
    have F_law_begun : Fd l.prog w K mg base "_law_begun" 1 RBegun := A.d22.fd X g (fun _ _ F => ok__law_begun (n := 0) F B) fun _ _ _ _ _ _ us hl => match us, hl with | [_], _ => rfl
    have F_law_mixed : Fd l.prog w K mg base "_law_mixed" 1 RMixed := A.d23.fd X g (fun _ _ F => ok__law_mixed (n := 0) F B) fun _ _ _ _ _ _ us hl => match us, hl with | [_], _ => rfl
    have F_law_take : Fd l.prog w K mg base "_law_take" 2 RTake := A.d24.fd X g (fun _ _ F => ok__law_take F B F_law_mixed) fun _ _ _ _ _ _ us hl => match us, hl with | [_, _], _ => rfl
    have F_law_pick : Fd l.prog w K mg base "_law_pick" 3 RPick := A.d25.fd X g (fun _ _ F => ok__law_pick F B F_law_take) fun _ _ _ _ _ _ us hl => match us, hl with | [_, _], _ => rfl
    have F_law_common : Fd l.prog w K mg base "_law_common" 1 RCommon := A.d27.fd X g (fun _ _ F => ok__law_common (n := 0) F B) fun _ _ _ _ _ _ us hl => match us, hl with | [_, _], _ => rfl
    have F_law_fraction : Fd l.prog w K mg base "_law_fraction" 2 RFr := A.d28.fd X g (fun _ _ F => ok__law_fraction F B F_law_common) fun _ _ _ _ _ _ us hl => match us, hl with | [_, _], _ => rfl
    have F_law_is0 : Fd l.prog w K mg base "_law_is" 1 (RIs 0) := A.d29.fd X g (fun _ _ F => ok__law_is (n := 0) (k := 0) F B fun m z => by cases z) fun _ _ _ _ _ _ us hl => match us, hl with | [_, _], _ => rfl
    have F_law_is1 : Fd l.prog w K mg base "_law_is" 2 (RIs 1) := A.d29.fd X g (fun _ _ F => ok__law_is (n := 1) (k := 1) F B fun m z => by cases z; exact F_law_is0) fun _ _ _ _ _ _ us hl => match us, hl with | [_, _], _ => rfl
    have F_law_is : Fd l.prog w K mg base "_law_is" 3 (RIs 2) := A.d29.fd X g (fun _ _ F => ok__law_is (n := 2) (k := 2) F B fun m z => by cases z; exact F_law_is1) fun _ _ _ _ _ _ us hl => match us, hl with | [_, _], _ => rfl
    have F_law_split : Fd l.prog w K mg base "_law_split" 3 RSplit := A.d30.fd X g (fun _ _ F => ok__law_split F F_law_fraction) fun _ _ _ _ _ _ us hl => match us, hl with | [_, _], _ => rfl
    have F_law_is_int : Fd l.prog w K mg base "_law_is_int" 1 RIsInt := A.d31.fd X g (fun _ _ F => ok__law_is_int (n := 0) F B) fun _ _ _ _ _ _ us hl => match us, hl with | [_], _ => rfl
    have F_law_below : Fd l.prog w K mg base "_law_below" 1 RBelow := A.d32.fd X g (fun _ _ F => ok__law_below (n := 0) F) fun _ _ _ _ _ _ us hl => match us, hl with | [_, _], _ => rfl
    have F_law_all : Fd l.prog w K mg base "_law_all" 2 RAll := A.d33.fd X g (fun _ _ F => ok__law_all F B F_law_common) fun _ _ _ _ _ _ us hl => match us, hl with | [_], _ => rfl
    have F_law_due : Fd l.prog w K mg base "_law_due" 3 RDue := A.d34.fd X g (fun _ _ F => ok__law_due F F_law_all F_law_below) fun _ _ _ _ _ _ us hl => match us, hl with | [_, _], _ => rfl
    have F_law_is_next : Fd l.prog w K mg base "_law_is_next" 2 RNext := A.d35.fd X g (fun _ _ F => ok__law_is_next F B F_law_is_int F_law_below) fun _ _ _ _ _ _ us hl => match us, hl with | [_, _, _], _ => rfl
    have F_law_bent : Fd l.prog w K mg base "_law_bent" 4 RBent := A.d36.fd X g (fun _ _ F => ok__law_bent F B F_law_pick) fun _ _ _ _ _ _ us hl => match us, hl with | [_, _], _ => rfl
    have F_law_one_right : Fd l.prog w K mg base "_law_one_right" 6 ROne := A.d37.fd X g (fun _ _ F => ok__law_one_right F B Fneighbours Fare_neighbours F_law_is_next F_law_is F_law_due F_law_bent F_law_take F_law_below) fun _ _ _ _ _ _ us hl => match us, hl with | [_, _, _], _ => rfl
    obtain ⟨fc, fdc, ac, Fc⟩ := A.d26.ok
    exact fn_mkL lk hcd sclaw (fun dvs M q ex ⟨ns, z, _⟩ => by rw [z]; rfl) fun X' C hcode hqual dvs M q ex hR => law_body B E TB1 Fneighbours Fneighbours2 Fare_neighbours F_law_begun F_law_take F_law_pick F_law_fraction F_law_split F_law_is F_law_one_right Fc (PySem.W.mg_of X g ac) X' C hcode hqual dvs M q ex hR
end K56
end
open PySem PySem.W PyProof.Rows
set_option maxRecDepth 100000 in
set_option maxHeartbeats 0 in
theorem PySem.Challenge.cw_gearsturn_k56_whole_neighbours_holds : PySem.Challenge.rw_gearsturn_k56_whole_neighbours.Holds := by
  w_on; o_law; k_head; (case hw => w_witness2)
  k_fill
  refine LamX.walk_ofTs (l := PySem.Challenge.rw_gearsturn_k56_whole_neighbours) (n := 63) (k := 8) (x := "script") (CX := fun w => L2.CX PySem.Challenge.rw_gearsturn_k56_whole_neighbours.prog w) ?a1 ?a2 ?a3 ?a4 (fun w h Y => PySem.W.km_in_of Y) ?F ?a7
  case a1 => rfl
  case a2 => decide
  case a3 => rfl
  case a4 => exact ⟨rfl, by decide, by decide⟩
  case a7 => exact fun w H s e s' z => by obtain ⟨_, _, _, _, _, _, _, _, _, _, _, _, z⟩ := z; exact z
  case F =>
    intro w mg fa h Y KX g hmg
    have hT := PySem.W.km_tabs_of Y
    refine' K56.law_at KX g hmg ?A ?a ?lk ?hcd ?hC ?nT ?hT ?B ?E ?gM ?gN ?gE
    case hT => exact hT _ (List.mem_cons_self)
    (case a => k_is); (case lk => k_is); (case hcd => k_is); (case hC => first | k_is | rfl | decide +kernel); (case nT => first | k_is | rfl | decide +kernel)
    case B =>
      refine' ⟨PySem.W.mg_none_of KX g ?b1, PySem.W.mg_none_of KX g ?b2, PySem.W.mg_none_of KX g ?b3, PySem.W.mg_none_of KX g ?b4, PySem.W.mg_none_of KX g ?b5, PySem.W.mg_none_of KX g ?b6, PySem.W.mg_none_of KX g ?b7, PySem.W.mg_none_of KX g ?b8, PySem.W.mg_none_of KX g ?b9, PySem.W.mg_none_of KX g ?b10, PySem.W.mg_none_of KX g ?b11, PySem.W.mg_none_of KX g ?b12⟩
      all_goals k_is
    case gM =>
      refine' _root_.G.gint_mk KX g ?q1
      (case q1 => k_is)
    case gN =>
      refine' _root_.G.gpair_mk KX g ?q1 ?q2
      (case q1 => k_is); (case q2 => k_is)
    case gE =>
      refine' _root_.G.gpair_mk KX g ?q1 ?q2
      (case q1 => k_is); (case q2 => k_is)
    case E =>
      refine' ⟨PySem.W.mg_of KX g ?s1, G.excG_mk KX g ?r1 ?r2 ?r3 ?r4 ?r5, G.excG_mk KX g ?m1 ?m2 ?m3 ?m4 ?m5, ⟨?c1, ?c2, ?c3, ?c4, ?c5, ?c6, ?c7, ?c8⟩, ⟨?d1, ?d2, ?d3, ?d4, ?d5, ?d6, ?d7, ?d8⟩, PySem.W.exm_ref ?x1 ?x2 ?x3 ?x4, PySem.W.exm_ref ?x1 ?x2 ?x3 ?x5, _root_.G.kit_self, _root_.G.kit_self⟩
      (case s1 => k_is); (case r1 => k_is); (case m1 => k_is)
      all_goals first | k_is | kernel_rfl | decide +kernel | rfl
    case A =>
      refine ⟨?_, ?_, ?_, ?_, ?_, ?_, ?_, ?_, ?_, ?_, ?_, ?_, ?_, ?_, ?_, ?_, ?_, ?_, ?_, ?_, ?_, ?_, ?_, ?_, ?_, ?_, ?_⟩
      all_goals (refine' _root_.G.defK_mk ?a ?l ?c ?k; (case a => k_is); (case l => k_is); (case c => k_is); (case k => k_is))
