import PyProof.Rows.All
import Wide.All
import OpenK.AllK
import Wide.FinOn
import HandS.ForMost
import HandS.IsInst
import HandS.Deep
import HandS.TupAny
import HandS.TupMul
import KE.GoesEnum
import PyProof.SumWalkG
import PySem.Challenge.RW_quiremarks_k27_whole_any_evidence_of_seq
set_option Elab.async false
set_option linter.all false
set_option maxRecDepth 100000
set_option maxHeartbeats 4000000
namespace Qm
open PySem PySem.Spec PyProof.Rows L2

abbrev Dt := PyData

/-! ### data in a known heap -/
mutual
inductive Rp (S : Addr) (G : Hp) : PyData → V → Prop
  | non : Rp S G .none .non
  | bl (b : Bool) : Rp S G (.bool b) (.bl b)
  | int (i : Int) : Rp S G (.int i) (.int i)
  | str (x : Str) : Rp S G (.str x) (.str x)
  | lst {a : Addr} {vs : List V} {ds : List PyData} (e : G a = some (.lst vs)) (r : RpL S G ds vs) : Rp S G (.list ds) (.ref a)
  | tup {a : Addr} {vs : List V} {ds : List PyData} (e : G a = some (.tup vs)) (r : RpL S G ds vs) : Rp S G (.tuple ds) (.ref a)
  | hnd : Rp S G (.dict []) (.ref S)
inductive RpL (S : Addr) (G : Hp) : List PyData → List V → Prop
  | nil : RpL S G [] []
  | cons {d : PyData} {ds : List PyData} {v : V} {vs : List V} (a : Rp S G d v) (b : RpL S G ds vs) : RpL S G (d :: ds) (v :: vs)
end
section
variable {S : Addr} {G G' : Hp}
mutual
theorem Rp.mono (s : Same G G') : ∀ (d : PyData) (v : V), Rp S G d v → Rp S G' d v
  | .none, _, h => by cases h; exact .non
  | .bool b, _, h => by cases h; exact .bl b
  | .int i, _, h => by cases h; exact .int i
  | .str x, _, h => by cases h; exact .str x
  | .list ds, _, h => by
    cases h with
    | lst e r => exact .lst (s _ _ e) (RpL.mono s ds _ r)
  | .tuple ds, _, h => by
    cases h with
    | tup e r => exact .tup (s _ _ e) (RpL.mono s ds _ r)
  | .dict kvs, _, h => by cases h; exact .hnd
theorem RpL.mono (s : Same G G') : ∀ (ds : List PyData) (vs : List V), RpL S G ds vs → RpL S G' ds vs
  | [], _, h => by cases h; exact .nil
  | d :: ds, _, h => by
    cases h with
    | cons a b => exact .cons (Rp.mono s d _ a) (RpL.mono s ds _ b)
end
theorem RpL.length : ∀ {ds : List PyData} {vs : List V}, RpL S G ds vs → vs.length = ds.length
  | [], _, h => by cases h; rfl
  | d :: ds, _, h => by
    cases h with
    | cons a b => rw [List.length_cons, List.length_cons, RpL.length b]
theorem RpL.get : ∀ {ds : List PyData} {vs : List V} {i : Nat} {d : PyData}, RpL S G ds vs → ds[i]? = some d → ∃ v, vs[i]? = some v ∧ Rp S G d v
  | [], _, _, _, _, e => by simp at e
  | d :: ds, _, 0, _, h, e => by
    cases h with
    | cons a b =>
      have e' : d = _ := Option.some.inj e
      subst e'
      exact ⟨_, rfl, a⟩
  | d :: ds, _, i + 1, _, h, e => by
    cases h with
    | cons a b =>
      obtain ⟨v, h1, h2⟩ := RpL.get (i := i) b (by simpa using e)
      exact ⟨v, by simpa using h1, h2⟩
theorem RpL.getV : ∀ {ds : List PyData} {vs : List V} {i : Nat} {v : V}, RpL S G ds vs → vs[i]? = some v → ∃ d, ds[i]? = some d ∧ Rp S G d v
  | [], _, _, _, h, e => by cases h; simp at e
  | d :: ds, _, 0, _, h, e => by
    cases h with
    | cons a b =>
      have e' := Option.some.inj e
      subst e'
      exact ⟨_, rfl, a⟩
  | d :: ds, _, i + 1, _, h, e => by
    cases h with
    | cons a b =>
      obtain ⟨v, h1, h2⟩ := RpL.getV (i := i) b (by simpa using e)
      exact ⟨v, by simpa using h1, h2⟩
theorem RpL.append : ∀ {ds es : List PyData} {vs ws : List V}, RpL S G ds vs → RpL S G es ws → RpL S G (ds ++ es) (vs ++ ws)
  | [], _, _, _, h, k => by cases h; exact k
  | d :: ds, _, _, _, h, k => by
    cases h with
    | cons a b => exact .cons a (RpL.append b k)
theorem RpL.take : ∀ {ds : List PyData} {vs : List V} (n : Nat), RpL S G ds vs → RpL S G (ds.take n) (vs.take n)
  | _, _, 0, _ => .nil
  | [], _, n + 1, h => by cases h; exact .nil
  | d :: ds, _, n + 1, h => by
    cases h with
    | cons a b => exact .cons a (RpL.take n b)
theorem RpL.drop : ∀ {ds : List PyData} {vs : List V} (n : Nat), RpL S G ds vs → RpL S G (ds.drop n) (vs.drop n)
  | _, _, 0, h => h
  | [], _, n + 1, h => by cases h; exact .nil
  | d :: ds, _, n + 1, h => by
    cases h with
    | cons a b => exact RpL.drop n b
theorem RpL.reverse : ∀ {ds : List PyData} {vs : List V}, RpL S G ds vs → RpL S G ds.reverse vs.reverse
  | [], _, h => by cases h; exact .nil
  | d :: ds, _, h => by
    cases h with
    | cons a b =>
      rw [List.reverse_cons, List.reverse_cons]
      exact (RpL.reverse b).append (.cons a .nil)
theorem RpL.rep {ds : List PyData} {vs : List V} (h : RpL S G ds vs) : ∀ k : Nat, RpL S G (List.replicate k ds).flatten (List.replicate k vs).flatten
  | 0 => .nil
  | k + 1 => by
    rw [List.replicate_succ, List.replicate_succ, List.flatten_cons, List.flatten_cons]
    exact h.append (RpL.rep h k)
def intL : List PyData → Option (List Int)
  | [] => some []
  | .int i :: r => (intL r).map (i :: ·)
  | _ :: _ => none
def boolL : List PyData → Option (List Bool)
  | [] => some []
  | .bool i :: r => (boolL r).map (i :: ·)
  | _ :: _ => none
theorem intL_map : ∀ ns : List Int, intL (ns.map PyData.int) = some ns
  | [] => rfl
  | n :: r => by
    show (intL (r.map PyData.int)).map (n :: ·) = _
    rw [intL_map r]
    rfl
theorem boolL_map : ∀ ns : List Bool, boolL (ns.map PyData.bool) = some ns
  | [] => rfl
  | n :: r => by
    show (boolL (r.map PyData.bool)).map (n :: ·) = _
    rw [boolL_map r]
    rfl
theorem rpl_ints : ∀ {ds : List PyData} {vs : List V} {ns : List Int}, RpL S G ds vs → intL ds = some ns → vs = ns.map V.int
  | [], _, _, h, e => by
    cases h
    cases (show some [] = some _ from e)
    rfl
  | .int i :: r, _, ns, h, e => by
    cases h with
    | cons a b =>
      cases a
      have e' : (intL r).map (i :: ·) = some ns := e
      obtain ⟨ms, e1, e2⟩ := Option.map_eq_some_iff.mp e'
      subst e2
      rw [rpl_ints b e1]
      rfl
  | .none :: _, _, _, _, e => by simp [intL, boolL] at e
  | .bool _ :: _, _, _, _, e => by simp [intL, boolL] at e
  | .str _ :: _, _, _, _, e => by simp [intL, boolL] at e
  | .list _ :: _, _, _, _, e => by simp [intL, boolL] at e
  | .tuple _ :: _, _, _, _, e => by simp [intL, boolL] at e
  | .dict _ :: _, _, _, _, e => by simp [intL, boolL] at e
theorem rpl_bools : ∀ {ds : List PyData} {vs : List V} {ns : List Bool}, RpL S G ds vs → boolL ds = some ns → vs = ns.map V.bl
  | [], _, _, h, e => by
    cases h
    cases (show some [] = some _ from e)
    rfl
  | .bool i :: r, _, ns, h, e => by
    cases h with
    | cons a b =>
      cases a
      have e' : (boolL r).map (i :: ·) = some ns := e
      obtain ⟨ms, e1, e2⟩ := Option.map_eq_some_iff.mp e'
      subst e2
      rw [rpl_bools b e1]
      rfl
  | .none :: _, _, _, _, e => by simp [intL, boolL] at e
  | .int _ :: _, _, _, _, e => by simp [intL, boolL] at e
  | .str _ :: _, _, _, _, e => by simp [intL, boolL] at e
  | .list _ :: _, _, _, _, e => by simp [intL, boolL] at e
  | .tuple _ :: _, _, _, _, e => by simp [intL, boolL] at e
  | .dict _ :: _, _, _, _, e => by simp [intL, boolL] at e
mutual
theorem Rp.dp {K : PySem.W.Frag} : ∀ (d : PyData) (v : V), d.canLay0 = true → Rp S G d v → Dp K G v d
  | .none, _, _, h => by cases h; exact .non
  | .bool b, _, _, h => by cases h; exact .bl b
  | .int i, _, _, h => by cases h; exact .int i
  | .str x, _, _, h => by cases h; exact .str x
  | .list ds, _, c, h => by
    cases h with
    | lst e r => exact .lst (SqL.of e) (RpL.dp ds _ (by simpa only [PyData.canLay0] using c) r)
  | .tuple ds, _, c, h => by
    cases h with
    | tup e r => exact .tup (SqT.of e) (RpL.dp ds _ (by simpa only [PyData.canLay0] using c) r)
  | .dict kvs, _, c, h => by simp only [PyData.canLay0] at c; cases c
theorem RpL.dp {K : PySem.W.Frag} : ∀ (ds : List PyData) (vs : List V), PyData.canLayAll0 ds = true → RpL S G ds vs → DpAll K G vs ds
  | [], _, _, h => by cases h; exact .nil
  | d :: ds, _, c, h => by
    simp only [PyData.canLayAll0, Bool.and_eq_true] at c
    cases h with
    | cons a b => exact .cons (Rp.dp d _ c.1 a) (RpL.dp ds _ c.2 b)
end
end

/-! ### the world and how it grows -/
structure Wd (S : Addr) (G H : Hp) : Prop where
  sub : Same G H
  free : G S = none
  strm : ∃ (c : Addr) (ns : List Int) (cell k : Int), G c = some (.lst (ns.map V.int)) ∧ ns.length ≤ 63 ∧ H S = some (.lst [.ref c, .int cell, .int k]) ∧ 0 ≤ cell ∧ 0 ≤ k
structure Gr (S : Addr) (G H G' H' : Hp) : Prop where
  keep : ∀ b o, b ≠ S → H b = some o → H' b = some o
  grow : Same G G'
  old : ∀ b o, H b = some o → G' b = G b
  dom : ∀ b o, H b = some o → ∃ o', H' b = some o'
section
variable {S : Addr} {G H G' H' G'' H'' : Hp} {p : Addr} {o : HO}
theorem Gr.refl (S : Addr) (G H : Hp) : Gr S G H G H := ⟨fun _ _ _ e => e, Same.refl G, fun _ _ _ => rfl, fun _ o e => ⟨o, e⟩⟩
theorem Gr.trans (a : Gr S G H G' H') (b : Gr S G' H' G'' H'') : Gr S G H G'' H'' :=
  ⟨fun x u n e => b.keep x u n (a.keep x u n e), a.grow.trans b.grow, fun x u e => by
    obtain ⟨u', e'⟩ := a.dom x u e
    rw [b.old x u' e', a.old x u e], fun x u e => by
    obtain ⟨u', e'⟩ := a.dom x u e
    exact b.dom x u' e'⟩
theorem Wd.has (w : Wd S G H) : ∃ o, H S = some o := let ⟨_, _, _, _, _, _, e, _⟩ := w.strm; ⟨_, e⟩
theorem Wd.ne (w : Wd S G H) (n : H p = none) : p ≠ S := fun e => by
  obtain ⟨o, h⟩ := w.has
  rw [← e, n] at h
  cases h
theorem same_new {A : Hp} {p : Addr} {o : HO} (h : A p = none) : Same A (upd A p o) := fun b x e => by
  rw [upd_ne (ne_of_none e h)]
  exact e
/-- a new known object -/
theorem Gr.new (w : Wd S G H) (n : H p = none) : Gr S G H (upd G p o) (upd H p o) :=
  ⟨fun b x _ e => by rw [upd_ne (ne_of_none e n)]; exact e, same_new (w.sub.free n), fun b x e => upd_ne (ne_of_none e n), fun b x e => ⟨x, by rw [upd_ne (ne_of_none e n)]; exact e⟩⟩
theorem Wd.new (w : Wd S G H) (n : H p = none) : Wd S (upd G p o) (upd H p o) := by
  obtain ⟨c, ns, cell, k, h1, h2, h3, h4, h5⟩ := w.strm
  refine ⟨fun b x e => ?_, ?_, c, ns, cell, k, ?_, h2, ?_, h4, h5⟩
  · by_cases hb : b = p
    · subst hb
      rw [upd_same] at e
      rw [upd_same]
      exact e
    · rw [upd_ne hb] at e
      rw [upd_ne hb]
      exact w.sub b x e
  · rw [upd_ne (w.ne n).symm]
    exact w.free
  · rw [upd_ne (ne_of_none h1 (w.sub.free n))]
    exact h1
  · rw [upd_ne (w.ne n).symm]
    exact h3
/-- a new object that is not known -/
theorem Gr.own (n : H p = none) : Gr S G H G (upd H p o) :=
  ⟨fun b x _ e => by rw [upd_ne (ne_of_none e n)]; exact e, Same.refl G, fun _ _ _ => rfl, fun b x e => ⟨x, by rw [upd_ne (ne_of_none e n)]; exact e⟩⟩
theorem Wd.own (w : Wd S G H) (n : H p = none) : Wd S G (upd H p o) := by
  obtain ⟨c, ns, cell, k, h1, h2, h3, h4, h5⟩ := w.strm
  refine ⟨fun b x e => ?_, w.free, c, ns, cell, k, h1, h2, ?_, h4, h5⟩
  · rw [upd_ne (ne_of_none (w.sub b x e) n)]
    exact w.sub b x e
  · rw [upd_ne (w.ne n).symm]
    exact h3
/-- an object that is not known changes -/
theorem Wd.mut (w : Wd S G H) (n : G p = none) (hs : p ≠ S) : Wd S G (upd H p o) := by
  obtain ⟨c, ns, cell, k, h1, h2, h3, h4, h5⟩ := w.strm
  refine ⟨fun b x e => ?_, w.free, c, ns, cell, k, h1, h2, ?_, h4, h5⟩
  · rw [upd_ne (ne_of_none e n)]
    exact w.sub b x e
  · rw [upd_ne hs.symm]
    exact h3
end

/-! ### slots -/
inductive Sl where
  | u
  | d (x : PyData)
  | own
abbrev Rho := List Sl
inductive Ow where
  | no
  | l (ds : List PyData)
  | d (n : Nat) (f : Int → Option PyData)
def Rs (S T : Addr) (G : Hp) : Sl → Option V → Prop
  | .u, _ => True
  | .d x, o => ∃ v, o = some v ∧ Rp S G x v
  | .own, o => o = some (.ref T)
structure RS (S T : Addr) (G : Hp) (ρ : Rho) (σ : L2.St) : Prop where
  len : σ.length = ρ.length
  at_ : ∀ (i : Nat) (s : Sl), ρ[i]? = some s → ∃ o, σ[i]? = some o ∧ Rs S T G s o
def OwS (S T : Addr) (G H : Hp) : Ow → Prop
  | .no => True
  | .l ds => T ≠ S ∧ G T = none ∧ ∃ vs, H T = some (.lst vs) ∧ RpL S G ds vs
  | .d n f => T ≠ S ∧ G T = none ∧ ∃ kvs, H T = some (.dK kvs) ∧ kvs.length ≤ n ∧ ∀ j d, f j = some d → ∃ v, valV kvs (Sum.inl j) = some v ∧ Rp S G d v
structure Kn (S T : Addr) (ow : Ow) (ρ : Rho) (σ : L2.St) (G H : Hp) : Prop where
  wd : Wd S G H
  ow : OwS S T G H ow
  rs : RS S T G ρ σ
section
variable {S T : Addr} {G H G' H' : Hp} {ρ : Rho} {σ : L2.St} {ow : Ow}
theorem Rs.mono (s : Same G G') : ∀ {x : Sl} {o : Option V}, Rs S T G x o → Rs S T G' x o
  | .u, _, _ => trivial
  | .d x, _, h => by
    obtain ⟨v, e, r⟩ := h
    exact ⟨v, e, r.mono s⟩
  | .own, _, h => h
theorem RS.mono (s : Same G G') (h : RS S T G ρ σ) : RS S T G' ρ σ := ⟨h.len, fun i x e => by
  obtain ⟨o, e1, r⟩ := h.at_ i x e
  exact ⟨o, e1, r.mono s⟩⟩
theorem RS.put {i : Nat} {x : Sl} {o : Option V} (h : RS S T G ρ σ) (r : Rs S T G x o) : RS S T G (ρ.set i x) (σ.set i o) := ⟨by rw [List.length_set, List.length_set, h.len], fun j y e => by
  by_cases hj : i = j
  · subst hj
    by_cases hl : i < ρ.length
    · rw [List.getElem?_set_self hl] at e
      cases e
      exact ⟨o, List.getElem?_set_self (by rw [h.len]; exact hl), r⟩
    · rw [List.getElem?_eq_none (by rw [List.length_set]; omega)] at e
      cases e
  · rw [List.getElem?_set_ne hj] at e
    rw [List.getElem?_set_ne hj]
    exact h.at_ j y e⟩
theorem OwS.mono (g : Gr S G H G' H') : ∀ {ow : Ow}, OwS S T G H ow → OwS S T G' H' ow
  | .no, _ => trivial
  | .l ds, h => by
    obtain ⟨n, f, vs, e, r⟩ := h
    exact ⟨n, by rw [g.old _ _ e]; exact f, vs, g.keep _ _ n e, r.mono g.grow⟩
  | .d _ _, h => by
    obtain ⟨n, f, kvs, e, l, r⟩ := h
    exact ⟨n, by rw [g.old _ _ e]; exact f, kvs, g.keep _ _ n e, l, fun j d h1 => by
      obtain ⟨v, h2, h3⟩ := r j d h1
      exact ⟨v, h2, h3.mono g.grow⟩⟩
theorem Kn.step (k : Kn S T ow ρ σ G H) (g : Gr S G H G' H') (w : Wd S G' H') : Kn S T ow ρ σ G' H' := ⟨w, k.ow.mono g, k.rs.mono g.grow⟩
theorem Kn.put {i : Nat} {x : PyData} {v : V} (k : Kn S T ow ρ σ G H) (r : Rp S G x v) : Kn S T ow (ρ.set i (.d x)) (σ.set i (some v)) G H := ⟨k.wd, k.ow, k.rs.put ⟨v, rfl, r⟩⟩
end
end Qm

namespace Qm
open PySem PySem.Spec PyProof.Rows L2

/-! ### where one stands -/
structure Gm where
  P : Program
  w : World
  K : PySem.W.Frag
  mg : Str → Option Value
  base : Heap
structure Lx where
  g : Gm
  N : List Str
  sc : Scope
  k : Nat
  df : Bool
structure CxS (L : Lx) (X : Cx) : Prop where
  p : X.prog = L.g.P
  w : X.w = L.g.w
  K : X.K = L.g.K
  mg : X.mg = L.g.mg
  base : X.base = L.g.base
  n : X.N = L.N
  nd : L.N.Nodup
  sc : X.env.scope = L.sc
  calm : X.calm = true
  room : Room L.k X.A
  fn : L.df = true → ∀ x, X.fn x = true
  po : L.df = true → PassesOwn (model X.prog X.w) X.A X.env X.xe

/-! ### the readings that ask no derivation -/
def WE (X : Cx) (e : Expr) : TE := fun σ H Q => ∀ (pins : List (Addr × Obj)) (s : Shared), Inv X pins σ H s → wpAny (model X.prog X.w) X.A (eval e X.env) (EP X pins σ Q) X.xe s
def WT (X : Cx) (e : Expr) : TT := fun σ H Q => ∀ (pins : List (Addr × Obj)) (s : Shared), Inv X pins σ H s → wpAny (model X.prog X.w) X.A (isTrue e X.env (eval e X.env)) (TP X pins σ Q) X.xe s
def WW (X : Cx) (e : Expr) : TT := fun σ H Q => ∀ (whole : Sem Value) (pins : List (Addr × Obj)) (s : Shared), Inv X pins σ H s → wpAny (model X.prog X.w) X.A (isTrue e X.env whole) (TP X pins σ Q) X.xe s
def WA (X : Cx) (es : List Expr) : TA := fun σ H Q => ∀ (pos : Pos) (pins : List (Addr × Obj)) (s : Shared), Inv X pins σ H s → wpAny (model X.prog X.w) X.A (spliced (backTo pos (starEach es X.env))) (AP X pins σ Q) X.xe s
def WS (X : Cx) (st : Stmt) : TS := fun D σ H => ∀ (pins : List (Addr × Obj)) (s : Shared), Inv X pins σ H s → wpAny (model X.prog X.w) X.A (exec st X.env) (SP X pins D) X.xe s
def WSs (X : Cx) (st : List Stmt) : TS := fun D σ H => ∀ (pins : List (Addr × Obj)) (s : Shared), Inv X pins σ H s → wpAny (model X.prog X.w) X.A (execs st X.env) (SP X pins D) X.xe s
section
variable {X : Cx} {e : Expr} {es : List Expr} {st : Stmt} {sts : List Stmt} {σ : L2.St} {H : Hp}
theorem we : PE X e (WE X e) := ⟨fun pins s _ _ _ I h => h pins s I⟩
theorem wt : PT X e (WT X e) := ⟨fun pins s _ _ _ I h => h pins s I⟩
theorem ww : PW X e (WW X e) := ⟨fun wh pins s _ _ _ I h => h wh pins s I⟩
theorem wa : PA X es (WA X es) := ⟨fun pos pins s _ _ _ I h => h pos pins s I⟩
theorem ws : PS X st (WS X st) := ⟨fun pins s _ _ _ I h => h pins s I⟩
theorem wss : PSs X sts (WSs X sts) := ⟨fun pins s _ _ _ I h => h pins s I⟩
theorem WE.of {t : TE} {Q : VK} (h : PE X e t) (q : t σ H Q) : WE X e σ H Q := fun pins s I => h.run pins s σ H Q I q
theorem WT.of {t : TT} {Q : Bool → Hp → Prop} (h : PT X e t) (q : t σ H Q) : WT X e σ H Q := fun pins s I => h.run pins s σ H Q I q
theorem WW.of {t : TT} {Q : Bool → Hp → Prop} (h : PW X e t) (q : t σ H Q) : WW X e σ H Q := fun wh pins s I => h.run wh pins s σ H Q I q
theorem WA.of {t : TA} {Q : List V → Hp → Prop} (h : PA X es t) (q : t σ H Q) : WA X es σ H Q := fun pos pins s I => h.run pos pins s σ H Q I q
theorem WS.of {t : TS} {D : Ends} (h : PS X st t) (q : t D σ H) : WS X st D σ H := fun pins s I => h.run pins s σ H D I q
theorem WSs.of {t : TS} {D : Ends} (h : PSs X sts t) (q : t D σ H) : WSs X sts D σ H := fun pins s I => h.run pins s σ H D I q
end

/-! ### expressions by data -/
abbrev DTE := Ow → Rho → (PyData → Prop) → Prop
abbrev DTT := Ow → Rho → (Bool → Prop) → Prop
abbrev DTA := Ow → Rho → (List PyData → Prop) → Prop
def Ev (L : Lx) (ow : Ow) (ρ : Rho) (e : Expr) (Q : PyData → Prop) : Prop :=
  ∀ X, CxS L X → ∀ (S T : Addr) (σ : L2.St) (G H : Hp) (Q' : VK), Kn S T ow ρ σ G H → (∀ d v G' H', Gr S G H G' H' → Wd S G' H' → Rp S G' d v → Q d → Q' v H') → WE X e σ H Q'
def EvT (L : Lx) (ow : Ow) (ρ : Rho) (e : Expr) (Q : Bool → Prop) : Prop :=
  ∀ X, CxS L X → ∀ (S T : Addr) (σ : L2.St) (G H : Hp) (Q' : Bool → Hp → Prop), Kn S T ow ρ σ G H → (∀ b G' H', Gr S G H G' H' → Wd S G' H' → Q b → Q' b H') → WT X e σ H Q'
def EvW (L : Lx) (ow : Ow) (ρ : Rho) (e : Expr) (Q : Bool → Prop) : Prop :=
  ∀ X, CxS L X → ∀ (S T : Addr) (σ : L2.St) (G H : Hp) (Q' : Bool → Hp → Prop), Kn S T ow ρ σ G H → (∀ b G' H', Gr S G H G' H' → Wd S G' H' → Q b → Q' b H') → WW X e σ H Q'
def EvA (L : Lx) (ow : Ow) (ρ : Rho) (es : List Expr) (Q : List PyData → Prop) : Prop :=
  ∀ X, CxS L X → ∀ (S T : Addr) (σ : L2.St) (G H : Hp) (Q' : List V → Hp → Prop), Kn S T ow ρ σ G H → (∀ ds vs G' H', Gr S G H G' H' → Wd S G' H' → RpL S G' ds vs → Q ds → Q' vs H') → WA X es σ H Q'
structure Pd (L : Lx) (e : Expr) (t : DTE) : Prop where
  run : ∀ ow ρ Q, t ow ρ Q → Ev L ow ρ e Q
structure Td (L : Lx) (e : Expr) (t : DTT) : Prop where
  run : ∀ ow ρ Q, t ow ρ Q → EvT L ow ρ e Q
structure Wdd (L : Lx) (e : Expr) (t : DTT) : Prop where
  run : ∀ ow ρ Q, t ow ρ Q → EvW L ow ρ e Q
structure Ad (L : Lx) (es : List Expr) (t : DTA) : Prop where
  run : ∀ ow ρ Q, t ow ρ Q → EvA L ow ρ es Q

/-- the data in a slot -/
def sel : Rho → Nat → (PyData → Prop) → Prop
  | [], _, _ => False
  | .d x :: _, 0, Q => Q x
  | .u :: _, 0, _ => False
  | .own :: _, 0, _ => False
  | _ :: r, i + 1, Q => sel r i Q
theorem sel_ex : ∀ {ρ : Rho} {i : Nat} {Q : PyData → Prop}, sel ρ i Q → ∃ x, ρ[i]? = some (.d x) ∧ Q x
  | .d x :: _, 0, _, h => ⟨x, rfl, h⟩
  | .u :: _, 0, _, h => h.elim
  | .own :: _, 0, _, h => h.elim
  | .d _ :: r, i + 1, _, h => by
    obtain ⟨x, e, q⟩ := sel_ex (ρ := r) h
    exact ⟨x, by simpa using e, q⟩
  | .u :: r, i + 1, _, h => by
    obtain ⟨x, e, q⟩ := sel_ex (ρ := r) h
    exact ⟨x, by simpa using e, q⟩
  | .own :: r, i + 1, _, h => by
    obtain ⟨x, e, q⟩ := sel_ex (ρ := r) h
    exact ⟨x, by simpa using e, q⟩
section
variable {L : Lx} {e a b c : Expr} {es : List Expr} {ta tb tc : DTE} {pos : Pos} {S T : Addr} {G H : Hp} {ρ : Rho} {σ : L2.St} {ow : Ow}
def dVar (i : Nat) (_ : Ow) (ρ : Rho) (Q : PyData → Prop) : Prop := sel ρ i Q
def dC (d : PyData) (_ : Ow) (_ : Rho) (Q : PyData → Prop) : Prop := Q d
theorem Kn.var {i : Nat} {x : PyData} (k : Kn S T ow ρ σ G H) (e : ρ[i]? = some (.d x)) : ∃ v, σ[i]? = some (some v) ∧ Rp S G x v := by
  obtain ⟨o, e1, v, e2, r⟩ := k.rs.at_ i _ e
  exact ⟨v, by rw [e1, e2], r⟩
theorem pd_var {i : Nat} {x : Str} (hN : L.N[i]? = some x) (hv : Vis L.sc x) (hd : (x == ("__debug__" : Str)) = false := by decide) (hcd : (x == ("__classdict__" : Str)) = false := by decide) : Pd L (.Name x pos) (dVar i) :=
  ⟨fun ow ρ Q h X hX S T σ G H Q' k q => by
    obtain ⟨x', e, hq⟩ := sel_ex h
    obtain ⟨v, e1, r⟩ := k.var e
    exact WE.of (pe_var (i := i) (by rw [hX.n]; exact hN) (by rw [hX.sc]; exact hv) hd hcd) ⟨v, e1, q x' v G H (Gr.refl S G H) k.wd r hq⟩⟩
theorem pd_int {i : Int} {j : Nat} : Pd L (.Constant (.int i) j pos) (dC (.int i)) := ⟨fun ow ρ Q h X hX S T σ G H Q' k q => WE.of pe_int (q _ _ G H (Gr.refl S G H) k.wd (.int i) h)⟩
theorem pd_bl {i : Bool} {j : Nat} : Pd L (.Constant (.bool i) j pos) (dC (.bool i)) := ⟨fun ow ρ Q h X hX S T σ G H Q' k q => WE.of pe_bl (q _ _ G H (Gr.refl S G H) k.wd (.bl i) h)⟩
theorem pd_str {i : Str} {j : Nat} : Pd L (.Constant (.str i) j pos) (dC (.str i)) := ⟨fun ow ρ Q h X hX S T σ G H Q' k q => WE.of pe_str (q _ _ G H (Gr.refl S G H) k.wd (.str i) h)⟩
theorem pd_non {j : Nat} : Pd L (.Constant .none j pos) (dC .none) := ⟨fun ow ρ Q h X hX S T σ G H Q' k q => WE.of pe_non (q _ _ G H (Gr.refl S G H) k.wd .non h)⟩
/-- a module's int -/
theorem pd_glob {x : Str} {i : Int} {t : Tok} (hg : L.sc.names.lookup x = some .globalImplicit) (hm : L.g.mg x = some (.int i t)) (hd : (x == ("__debug__" : Str)) = false := by decide) : Pd L (.Name x pos) (dC (.int i)) :=
  ⟨fun ow ρ Q h X hX S T σ G H Q' k q => WE.of (pe_glob (v := .int i) (by show X.env.scope.names.lookup x = _; rw [hX.sc]; exact hg) (by rw [hX.mg]; exact hm) ⟨t, rfl⟩ hd) (q _ _ G H (Gr.refl S G H) k.wd (.int i) h)⟩

/-! ### two places -/
abbrev RD := PyData → PyData → (PyData → Prop) → Prop
def OpD (L : Lx) (f : Value → Value → Sem Value) (rd : RD) : Prop :=
  ∀ X, CxS L X → ∃ r, OpR X f r ∧ ∀ (S : Addr) (G H : Hp) (x y : PyData) (v u : V) (Q : PyData → Prop) (Q' : VK), Wd S G H → Rp S G x v → Rp S G y u → rd x y Q →
    (∀ d z G' H', Gr S G H G' H' → Wd S G' H' → Rp S G' d z → Q d → Q' z H') → r v u H Q'
def dBin (rd : RD) (ta tb : DTE) (ow : Ow) (ρ : Rho) (Q : PyData → Prop) : Prop := ta ow ρ fun x => tb ow ρ fun y => rd x y Q
theorem ev_two {rd : RD} {r : R2} {X : Cx} {Q : PyData → Prop} {Q' : VK} (hX : CxS L X) (ha : Pd L a ta) (hb : Pd L b tb) (k : Kn S T ow ρ σ G H) (h : dBin rd ta tb ow ρ Q)
    (hr : ∀ (G1 H1 : Hp) (x y : PyData) (v u : V), Gr S G H G1 H1 → Wd S G1 H1 → Rp S G1 x v → Rp S G1 y u → rd x y Q → r v u H1 Q') : tOp r (WE X a) (WE X b) σ H Q' :=
  ha.run _ _ _ h X hX S T σ G H _ k fun x v G1 H1 g1 w1 r1 h1 => hb.run _ _ _ h1 X hX S T σ G1 H1 _ (k.step g1 w1) fun y u G2 H2 g2 w2 r2 h2 =>
    hr G2 H2 x y v u (g1.trans g2) w2 (r1.mono g2.grow) r2 h2
theorem pd_bin {op : Operator} {rd : RD} (ho : OpD L (binaryOp op) rd) (ha : Pd L a ta) (hb : Pd L b tb) : Pd L (.BinOp a op b pos) (dBin rd ta tb) := ⟨fun ow ρ Q h X hX S T σ G H Q' k q => by
  obtain ⟨r, hr, hq⟩ := ho X hX
  exact WE.of (pe_op hr we we) (ev_two hX ha hb k h fun G1 H1 x y v u g1 w1 r1 r2 h2 => hq S G1 H1 x y v u _ _ w1 r1 r2 h2 fun d z G2 H2 g2 w2 r3 h3 => q d z G2 H2 (g1.trans g2) w2 r3 h3)⟩
theorem pd_cmp {op : CmpOp} {rd : RD} (ho : OpD L (compareOp op) rd) (ha : Pd L a ta) (hb : Pd L b tb) (hm : behindInMarks op b = false) : Pd L (.Compare a [op] [b] pos) (dBin rd ta tb) := ⟨fun ow ρ Q h X hX S T σ G H Q' k q => by
  obtain ⟨r, hr, hq⟩ := ho X hX
  exact WE.of (pe_cmpR hr we we hm) (ev_two hX ha hb k h fun G1 H1 x y v u g1 w1 r1 r2 h2 => hq S G1 H1 x y v u _ _ w1 r1 r2 h2 fun d z G2 H2 g2 w2 r3 h3 => q d z G2 H2 (g1.trans g2) w2 r3 h3)⟩
def boolD (x : PyData) (Q : Bool → Prop) : Prop := match x with
  | .bool b => Q b
  | _ => False
theorem boolD_ex {x : PyData} {Q : Bool → Prop} (h : boolD x Q) : ∃ b, x = .bool b ∧ Q b := by
  cases x with
  | bool b => exact ⟨b, rfl, h⟩
  | _ => exact False.elim h
def dTB (te : DTE) (ow : Ow) (ρ : Rho) (Q : Bool → Prop) : Prop := te ow ρ fun x => boolD x Q
theorem td_cmp {op : CmpOp} {rd : RD} (ho : OpD L (compareOp op) rd) (ha : Pd L a ta) (hb : Pd L b tb) (hm : behindInMarks op b = false) : Td L (.Compare a [op] [b] pos) (dTB (dBin rd ta tb)) := ⟨fun ow ρ Q h X hX S T σ G H Q' k q => by
  obtain ⟨r, hr, hq⟩ := ho X hX
  refine WT.of (pt_cmpR hr we we hm) (ev_two (Q := fun x => boolD x Q) hX ha hb k h fun G1 H1 x y v u g1 w1 r1 r2 h2 => hq S G1 H1 x y v u _ _ w1 r1 r2 h2 fun d z G2 H2 g2 w2 r3 h3 => ?_)
  obtain ⟨b, rfl, h4⟩ := boolD_ex h3
  cases r3
  exact ⟨b, rfl, q b G2 H2 (g1.trans g2) w2 h4⟩⟩
/-- a < b < c -/
def dChain (rd rd' : RD) (ta tb tc : DTE) (ow : Ow) (ρ : Rho) (Q : PyData → Prop) : Prop := ta ow ρ fun x => tb ow ρ fun y => rd x y fun z => boolD z fun k => if k = true then tc ow ρ fun w => rd' y w Q else Q (.bool false)
theorem chain_run {rd rd' : RD} {r r' : R2} {X : Cx} {Q : PyData → Prop} {Q' : VK} (hX : CxS L X) (ha : Pd L a ta) (hb : Pd L b tb) (hc : Pd L c tc) (k : Kn S T ow ρ σ G H) (h : dChain rd rd' ta tb tc ow ρ Q)
    (hr : ∀ (S : Addr) (G H : Hp) (x y : PyData) (v u : V) (Q : PyData → Prop) (Q' : VK), Wd S G H → Rp S G x v → Rp S G y u → rd x y Q → (∀ d z G' H', Gr S G H G' H' → Wd S G' H' → Rp S G' d z → Q d → Q' z H') → r v u H Q')
    (hr' : ∀ (S : Addr) (G H : Hp) (x y : PyData) (v u : V) (Q : PyData → Prop) (Q' : VK), Wd S G H → Rp S G x v → Rp S G y u → rd' x y Q → (∀ d z G' H', Gr S G H G' H' → Wd S G' H' → Rp S G' d z → Q d → Q' z H') → r' v u H Q')
    (q : ∀ d v G' H', Gr S G H G' H' → Wd S G' H' → Rp S G' d v → Q d → Q' v H') : tChain r r' (WE X a) (WE X b) (WE X c) σ H Q' := by
  refine ha.run _ _ _ h X hX S T σ G H _ k fun x v G1 H1 g1 w1 r1 h1 => hb.run _ _ _ h1 X hX S T σ G1 H1 _ (k.step g1 w1) fun y u G2 H2 g2 w2 r2 h2 => ?_
  refine hr S G2 H2 x y v u _ _ w2 (r1.mono g2.grow) r2 h2 fun d z G3 H3 g3 w3 r3 h3 => ?_
  obtain ⟨bb, rfl, h4⟩ := boolD_ex h3
  cases r3
  refine ⟨bb, rfl, ?_⟩
  have g123 := (g1.trans g2).trans g3
  cases bb with
  | true =>
    refine hc.run _ _ _ (show tc ow ρ _ from h4) X hX S T σ G3 H3 _ (k.step g123 w3) fun d5 z5 G5 H5 g5 w5 r5 h5 => ?_
    exact hr' S G5 H5 y d5 u z5 _ _ w5 (r2.mono (g3.trans g5).grow) r5 h5 fun d6 z6 G6 H6 g6 w6 r6 h6 => q d6 z6 G6 H6 ((g123.trans g5).trans g6) w6 r6 h6
  | false => exact q _ _ G3 H3 g123 w3 (.bl false) h4
theorem pd_chain {op op' : CmpOp} {rd rd' : RD} (ho : OpD L (compareOp op) rd) (ho' : OpD L (compareOp op') rd') (ha : Pd L a ta) (hb : Pd L b tb) (hc : Pd L c tc)
    (h1 : ∀ {X : Cx} {r r' : R2} {p : Pos}, OpR X (compareOp op) r → OpR X (compareOp op') r' → PE X (.Compare a [op, op'] [b, c] p) (tChain r r' (WE X a) (WE X b) (WE X c)) := by intro X r r' p i j; exact pe_chain i j we we we) :
    Pd L (.Compare a [op, op'] [b, c] pos) (dChain rd rd' ta tb tc) := ⟨fun ow ρ Q h X hX S T σ G H Q' k q => by
  obtain ⟨r, i, hr⟩ := ho X hX
  obtain ⟨r', j, hr'⟩ := ho' X hX
  exact WE.of (h1 i j) (chain_run hX ha hb hc k h hr hr' q)⟩
theorem td_chain {op op' : CmpOp} {rd rd' : RD} (ho : OpD L (compareOp op) rd) (ho' : OpD L (compareOp op') rd') (ha : Pd L a ta) (hb : Pd L b tb) (hc : Pd L c tc)
    (h1 : ∀ {X : Cx} {r r' : R2} {p : Pos}, OpR X (compareOp op) r → OpR X (compareOp op') r' → PT X (.Compare a [op, op'] [b, c] p) (tTest (tChain r r' (WE X a) (WE X b) (WE X c))) := by intro X r r' p i j; exact pt_chain i j we we we) :
    Td L (.Compare a [op, op'] [b, c] pos) (dTB (dChain rd rd' ta tb tc)) := ⟨fun ow ρ Q h X hX S T σ G H Q' k q => by
  obtain ⟨r, i, hr⟩ := ho X hX
  obtain ⟨r', j, hr'⟩ := ho' X hX
  refine WT.of (h1 i j) (chain_run (Q := fun x => boolD x Q) hX ha hb hc k h hr hr' fun d v G' H' g w rr hq => ?_)
  obtain ⟨b, rfl, h4⟩ := boolD_ex hq
  cases rr
  exact ⟨b, rfl, q b G' H' g w h4⟩⟩
end
end Qm

namespace Qm
open PySem PySem.Spec PyProof.Rows L2

/-! ### and, or, not -/
section
variable {L : Lx} {e a b c : Expr} {es rest : List Expr} {ta tb tc : DTE} {tA tB : DTT} {pos : Pos} {S T : Addr} {G H : Hp} {ρ : Rho} {σ : L2.St} {ow : Ow} {op : BoolOp}
def dAnd (ta tb : DTE) (ow : Ow) (ρ : Rho) (Q : PyData → Prop) : Prop := ta ow ρ fun x => boolD x fun c => if c = true then tb ow ρ Q else Q (.bool false)
def dOr (ta tb : DTE) (ow : Ow) (ρ : Rho) (Q : PyData → Prop) : Prop := ta ow ρ fun x => boolD x fun c => if c = true then Q (.bool true) else tb ow ρ Q
theorem pd_one (ha : Pd L a ta) : Pd L (.BoolOp op [a] pos) ta := ⟨fun ow ρ Q h X hX S T σ G H Q' k q => WE.of (pe_one we) (ha.run _ _ _ h X hX S T σ G H Q' k q)⟩
theorem pd_and (ha : Pd L a ta) (hb : Pd L (.BoolOp .And (b :: rest) pos) tb) : Pd L (.BoolOp .And (a :: b :: rest) pos) (dAnd ta tb) := ⟨fun ow ρ Q h X hX S T σ G H Q' k q => by
  refine WE.of (pe_and we we) (ha.run _ _ _ h X hX S T σ G H _ k fun x v G1 H1 g1 w1 r1 h1 => ?_)
  obtain ⟨c, rfl, h2⟩ := boolD_ex h1
  cases r1
  refine ⟨c, rfl, ?_⟩
  cases c with
  | true => exact hb.run _ _ _ (show tb ow ρ Q from h2) X hX S T σ G1 H1 Q' (k.step g1 w1) fun y u G2 H2 g2 w2 r2 h3 => q y u G2 H2 (g1.trans g2) w2 r2 h3
  | false => exact q _ _ G1 H1 g1 w1 (.bl false) h2⟩
theorem pd_or (ha : Pd L a ta) (hb : Pd L (.BoolOp .Or (b :: rest) pos) tb) : Pd L (.BoolOp .Or (a :: b :: rest) pos) (dOr ta tb) := ⟨fun ow ρ Q h X hX S T σ G H Q' k q => by
  refine WE.of (pe_or we we) (ha.run _ _ _ h X hX S T σ G H _ k fun x v G1 H1 g1 w1 r1 h1 => ?_)
  obtain ⟨c, rfl, h2⟩ := boolD_ex h1
  cases r1
  refine ⟨c, rfl, ?_⟩
  cases c with
  | true => exact q _ _ G1 H1 g1 w1 (.bl true) h2
  | false => exact hb.run _ _ _ (show tb ow ρ Q from h2) X hX S T σ G1 H1 Q' (k.step g1 w1) fun y u G2 H2 g2 w2 r2 h3 => q y u G2 H2 (g1.trans g2) w2 r2 h3⟩
def dNotV (ta : DTE) (ow : Ow) (ρ : Rho) (Q : PyData → Prop) : Prop := ta ow ρ fun x => boolD x fun c => Q (.bool (!c))
theorem pd_not (ha : Pd L a ta) : Pd L (.UnaryOp .Not a pos) (dNotV ta) := ⟨fun ow ρ Q h X hX S T σ G H Q' k q => by
  refine WE.of (pe_not we) (ha.run _ _ _ h X hX S T σ G H _ k fun x v G1 H1 g1 w1 r1 h1 => ?_)
  obtain ⟨c, rfl, h2⟩ := boolD_ex h1
  cases r1
  exact ⟨c, rfl, q _ _ G1 H1 g1 w1 (.bl (!c)) h2⟩⟩
/-- tests -/
def tAndD (t u : DTT) (ow : Ow) (ρ : Rho) (Q : Bool → Prop) : Prop := t ow ρ fun c => if c = true then u ow ρ Q else Q false
def tOrD (t u : DTT) (ow : Ow) (ρ : Rho) (Q : Bool → Prop) : Prop := t ow ρ fun c => if c = true then Q true else u ow ρ Q
def tNotD (t : DTT) (ow : Ow) (ρ : Rho) (Q : Bool → Prop) : Prop := t ow ρ fun c => Q (!c)
theorem Wdd.td (h : Wdd L e tA) : Td L e tA := ⟨fun ow ρ Q q X hX S T σ G H Q' k f => fun pins s I => h.run _ _ _ q X hX S T σ G H Q' k f (eval e X.env) pins s I⟩
theorem wd_and1 (ha : Td L a tA) : Wdd L (.BoolOp .And [a] pos) tA := ⟨fun ow ρ Q h X hX S T σ G H Q' k q => WW.of (pw_and1 wt) (ha.run _ _ _ h X hX S T σ G H Q' k q)⟩
theorem wd_or1 (ha : Td L a tA) : Wdd L (.BoolOp .Or [a] pos) tA := ⟨fun ow ρ Q h X hX S T σ G H Q' k q => WW.of (pw_or1 wt) (ha.run _ _ _ h X hX S T σ G H Q' k q)⟩
theorem wd_and (ha : Td L a tA) (hb : Wdd L (.BoolOp .And (b :: rest) pos) tB) : Wdd L (.BoolOp .And (a :: b :: rest) pos) (tAndD tA tB) := ⟨fun ow ρ Q h X hX S T σ G H Q' k q => by
  refine WW.of (pw_and wt ww) (ha.run _ _ _ h X hX S T σ G H _ k fun c G1 H1 g1 w1 h1 => ?_)
  cases c with
  | true => exact hb.run _ _ _ (show tB ow ρ Q from h1) X hX S T σ G1 H1 Q' (k.step g1 w1) fun y G2 H2 g2 w2 h3 => q y G2 H2 (g1.trans g2) w2 h3
  | false => exact q _ G1 H1 g1 w1 h1⟩
theorem wd_or (ha : Td L a tA) (hb : Wdd L (.BoolOp .Or (b :: rest) pos) tB) : Wdd L (.BoolOp .Or (a :: b :: rest) pos) (tOrD tA tB) := ⟨fun ow ρ Q h X hX S T σ G H Q' k q => by
  refine WW.of (pw_or wt ww) (ha.run _ _ _ h X hX S T σ G H _ k fun c G1 H1 g1 w1 h1 => ?_)
  cases c with
  | true => exact q _ G1 H1 g1 w1 h1
  | false => exact hb.run _ _ _ (show tB ow ρ Q from h1) X hX S T σ G1 H1 Q' (k.step g1 w1) fun y G2 H2 g2 w2 h3 => q y G2 H2 (g1.trans g2) w2 h3⟩
theorem td_not (ha : Td L a tA) : Td L (.UnaryOp .Not a pos) (tNotD tA) := ⟨fun ow ρ Q h X hX S T σ G H Q' k q => WT.of (pt_not wt) (ha.run _ _ _ h X hX S T σ G H _ k fun c G1 H1 g1 w1 h1 => q _ G1 H1 g1 w1 h1)⟩
/-- a value's truth -/
def truD (x : PyData) (Q : Bool → Prop) : Prop := match x with
  | .none => Q false
  | .bool b => Q b
  | .int i => Q (i != 0)
  | .list ds => Q (!ds.isEmpty)
  | .tuple ds => Q (!ds.isEmpty)
  | _ => False
def dTru (te : DTE) (ow : Ow) (ρ : Rho) (Q : Bool → Prop) : Prop := te ow ρ fun x => truD x Q
theorem RpL.isEmpty {S : Addr} {G : Hp} {ds : List PyData} {vs : List V} (r : RpL S G ds vs) : vs.isEmpty = ds.isEmpty := by
  cases r <;> rfl
theorem td_tru (ha : Pd L a ta) (he : ∀ env whole, isTrue a env whole = (do let v ← whole; standAt a.pos; holding [v] (truthy v))) : Td L a (dTru ta) := ⟨fun ow ρ Q h X hX S T σ G H Q' k q => by
  refine WT.of (pt_truth we (he X.env)) (ha.run _ _ _ h X hX S T σ G H _ k fun x v G1 H1 g1 w1 r1 h1 => ?_)
  cases r1 with
  | non => exact ⟨false, rfl, q _ G1 H1 g1 w1 h1⟩
  | bl b => exact ⟨b, rfl, q _ G1 H1 g1 w1 h1⟩
  | int i => exact ⟨_, rfl, q _ G1 H1 g1 w1 h1⟩
  | str x => exact False.elim h1
  | lst e r => exact ⟨_, .inl ⟨_, SqL.of (w1.sub _ _ e), rfl⟩, q _ G1 H1 g1 w1 (by rw [r.isEmpty]; exact h1)⟩
  | tup e r => exact ⟨_, .inr (.inl ⟨_, SqT.of (w1.sub _ _ e), rfl⟩), q _ G1 H1 g1 w1 (by rw [r.isEmpty]; exact h1)⟩
  | hnd => exact False.elim h1⟩
end

/-! ### arguments, displays -/
section
variable {L : Lx} {e a b c : Expr} {es rest : List Expr} {ta tb tc : DTE} {tr : DTA} {pos : Pos}
def dNil (_ : Ow) (_ : Rho) (Q : List PyData → Prop) : Prop := Q []
def dCons (ta : DTE) (tr : DTA) (ow : Ow) (ρ : Rho) (Q : List PyData → Prop) : Prop := ta ow ρ fun x => tr ow ρ fun xs => Q (x :: xs)
theorem ad_nil : Ad L [] dNil := ⟨fun ow ρ Q h X hX S T σ G H Q' k q => WA.of pa_nil (q [] [] G H (Gr.refl S G H) k.wd .nil h)⟩
theorem ad_cons (ha : Pd L e ta) (hr : Ad L es tr) (hs : ∀ env, starEach (e :: es) env = (false, eval e env) :: starEach es env := by intro _; rfl) : Ad L (e :: es) (dCons ta tr) := ⟨fun ow ρ Q h X hX S T σ G H Q' k q => by
  refine WA.of (pa_cons we wa (hs X.env)) (ha.run _ _ _ h X hX S T σ G H _ k fun x v G1 H1 g1 w1 r1 h1 => ?_)
  exact hr.run _ _ _ h1 X hX S T σ G1 H1 _ (k.step g1 w1) fun xs vs G2 H2 g2 w2 r2 h2 => q (x :: xs) (v :: vs) G2 H2 (g1.trans g2) w2 (.cons (r1.mono g2.grow) r2) h2⟩
/-- a new tuple, a new list -/
theorem new_tup {S : Addr} {G H : Hp} {ds : List PyData} {vs : List V} {Q' : VK} (w : Wd S G H) (r : RpL S G ds vs) (q : ∀ v G' H', Gr S G H G' H' → Wd S G' H' → Rp S G' (.tuple ds) v → Q' v H') : ∀ p, H p = none → Q' (.ref p) (upd H p (.tup vs)) :=
  fun p n => q (.ref p) (upd G p (.tup vs)) _ (Gr.new w n) (w.new n) (.tup upd_same (r.mono (same_new (w.sub.free n))))
theorem new_lst {S : Addr} {G H : Hp} {ds : List PyData} {vs : List V} {Q' : VK} (w : Wd S G H) (r : RpL S G ds vs) (q : ∀ v G' H', Gr S G H G' H' → Wd S G' H' → Rp S G' (.list ds) v → Q' v H') : ∀ p, H p = none → Q' (.ref p) (upd H p (.lst vs)) :=
  fun p n => q (.ref p) (upd G p (.lst vs)) _ (Gr.new w n) (w.new n) (.lst upd_same (r.mono (same_new (w.sub.free n))))
theorem small_line {n : Nat} (h : n ≤ 100000) : n ≤ sizeLine := Nat.le_trans h (by decide)
def dTup (t : DTA) (ow : Ow) (ρ : Rho) (Q : PyData → Prop) : Prop := t ow ρ fun xs => xs.length ≤ 100000 ∧ Q (.tuple xs)
def dLst (t : DTA) (ow : Ow) (ρ : Rho) (Q : PyData → Prop) : Prop := t ow ρ fun xs => xs.length ≤ 100000 ∧ Q (.list xs)
theorem pd_tup {k : Nat} (h : Ad L es tr) : Pd L (.Tuple es k pos) (dTup tr) := ⟨fun ow ρ Q q0 X hX S T σ G H Q' k q => WE.of (pe_tup wa) (h.run _ _ _ q0 X hX S T σ G H _ k fun ds vs G1 H1 g1 w1 r1 h1 =>
  ⟨small_line (by rw [r1.length]; exact h1.1), new_tup w1 r1 fun v G2 H2 g2 w2 r2 => q _ v G2 H2 (g1.trans g2) w2 r2 h1.2⟩)⟩
theorem pd_lst (h : Ad L es tr) : Pd L (.List es pos) (dLst tr) := ⟨fun ow ρ Q q0 X hX S T σ G H Q' k q => WE.of (pe_lst wa) (h.run _ _ _ q0 X hX S T σ G H _ k fun ds vs G1 H1 g1 w1 r1 h1 =>
  ⟨small_line (by rw [r1.length]; exact h1.1), new_lst w1 r1 fun v G2 H2 g2 w2 r2 => q _ v G2 H2 (g1.trans g2) w2 r2 h1.2⟩)⟩
end

/-! ### operators -/
section
variable {L : Lx}
def rdAdd (x : PyData) (y : PyData) (Q : PyData → Prop) : Prop := match x, y with
  | .int i, .int j => Q (.int (i + j))
  | .tuple a, .tuple b => a.length + b.length ≤ 100000 ∧ Q (.tuple (a ++ b))
  | .list a, .list b => a.length + b.length ≤ 100000 ∧ Q (.list (a ++ b))
  | _, _ => False
theorem od_add : OpD L (binaryOp .Add) rdAdd := fun X hX => ⟨_, op_add.or (op_catA.or op_cat), fun S G H x y v u Q Q' w rx ry h q => by
  cases rx with
  | int i =>
    cases ry with
    | int j => exact .inl ⟨i, j, rfl, rfl, q _ _ G H (Gr.refl S G H) w (.int _) h⟩
    | _ => exact False.elim h
  | tup e1 r1 =>
    cases ry with
    | tup e2 r2 =>
      rename_i a vs ds b us es
      have h1 : ds.length + es.length ≤ 100000 := h.1
      refine .inr (.inl ⟨_, _, _, _, rfl, rfl, SqT.of (w.sub _ _ e1), SqT.of (w.sub _ _ e2), small_line (by rw [r1.length, r2.length]; exact h1), fun z => ?_, fun _ z => ?_, fun _ _ => ?_⟩)
      · subst z
        cases r1
        exact q _ _ G H (Gr.refl S G H) w (.tup e2 r2) h.2
      · subst z
        cases r2
        have h2 := h.2
        rw [List.append_nil] at h2
        exact q _ _ G H (Gr.refl S G H) w (.tup e1 r1) h2
      · exact new_tup w (r1.append r2) fun v G2 H2 g2 w2 r3 => q _ v G2 H2 g2 w2 r3 h.2
    | _ => exact False.elim h
  | lst e1 r1 =>
    cases ry with
    | lst e2 r2 =>
      rename_i a vs ds b us es
      have h1 : ds.length + es.length ≤ 100000 := h.1
      exact .inr (.inr ⟨_, _, _, _, rfl, rfl, w.sub _ _ e1, w.sub _ _ e2, small_line (by rw [r1.length, r2.length]; exact h1), new_lst w (r1.append r2) fun v G2 H2 g2 w2 r3 => q _ v G2 H2 g2 w2 r3 h.2⟩)
    | _ => exact False.elim h
  | _ => exact False.elim h⟩
def rdI (C : Int → Int → Prop) (g : Int → Int → PyData) (x : PyData) (y : PyData) (Q : PyData → Prop) : Prop := match x, y with
  | .int i, .int j => C i j ∧ Q (g i j)
  | _, _ => False
theorem od_int {f : Value → Value → Sem Value} {C : Int → Int → Prop} {g : Int → Int → Int} (ho : ∀ X, CxS L X → OpR X f (rI C fun i j => .int (g i j))) : OpD L f (rdI C fun i j => .int (g i j)) := fun X hX => ⟨_, ho X hX, fun S G H x y v u Q Q' w rx ry h q => by
  cases rx with
  | int i =>
    cases ry with
    | int j => exact ⟨i, j, rfl, rfl, h.1, q _ _ G H (Gr.refl S G H) w (.int _) h.2⟩
    | _ => exact False.elim h
  | _ => exact False.elim h⟩
def rdI0 (g : Int → Int → PyData) (x : PyData) (y : PyData) (Q : PyData → Prop) : Prop := match x, y with
  | .int i, .int j => Q (g i j)
  | _, _ => False
theorem od_int0 {f : Value → Value → Sem Value} {g : Int → Int → Int} (ho : ∀ X, CxS L X → OpR X f (rI0 fun i j => .int (g i j))) : OpD L f (rdI0 fun i j => .int (g i j)) := fun X hX => ⟨_, ho X hX, fun S G H x y v u Q Q' w rx ry h q => by
  cases rx with
  | int i =>
    cases ry with
    | int j => exact ⟨i, j, rfl, rfl, q _ _ G H (Gr.refl S G H) w (.int _) h⟩
    | _ => exact False.elim h
  | _ => exact False.elim h⟩
theorem od_boo0 {f : Value → Value → Sem Value} {g : Int → Int → Bool} (ho : ∀ X, CxS L X → OpR X f (rI0 fun i j => .bl (g i j))) : OpD L f (rdI0 fun i j => .bool (g i j)) := fun X hX => ⟨_, ho X hX, fun S G H x y v u Q Q' w rx ry h q => by
  cases rx with
  | int i =>
    cases ry with
    | int j => exact ⟨i, j, rfl, rfl, q _ _ G H (Gr.refl S G H) w (.bl _) h⟩
    | _ => exact False.elim h
  | _ => exact False.elim h⟩
theorem od_sub : OpD L (binaryOp .Sub) (rdI0 fun i j => .int (i - j)) := od_int0 fun _ _ => op_sub
theorem od_fdiv : OpD L (binaryOp .FloorDiv) (rdI CDiv fun i j => .int (i / j)) := od_int fun _ _ => op_fdiv
theorem od_mod : OpD L (binaryOp .Mod) (rdI (fun _ j => 0 < j) fun i j => .int (i % j)) := od_int fun _ _ => op_mod
theorem od_lt : OpD L (compareOp .Lt) (rdI0 fun i j => .bool (decide (i < j))) := od_boo0 fun _ _ => op_lt
theorem od_le : OpD L (compareOp .LtE) (rdI0 fun i j => .bool (decide (i ≤ j))) := od_boo0 fun _ _ => op_le
theorem od_gt : OpD L (compareOp .Gt) (rdI0 fun i j => .bool (decide (j < i))) := od_boo0 fun _ _ => op_gt
theorem od_ge : OpD L (compareOp .GtE) (rdI0 fun i j => .bool (decide (j ≤ i))) := od_boo0 fun _ _ => op_ge
def rdEq (x : PyData) (y : PyData) (Q : PyData → Prop) : Prop := SeqAt.shaped x = true ∧ SeqAt.shaped y = true ∧ Q (.bool (PyData.eqv x y))
def rdNe (x : PyData) (y : PyData) (Q : PyData → Prop) : Prop := SeqAt.shaped x = true ∧ SeqAt.shaped y = true ∧ Q (.bool (!PyData.eqv x y))
theorem dp_of {K : PySem.W.Frag} {S : Addr} {G H : Hp} {x : PyData} {v : V} (w : Wd S G H) (r : Rp S G x v) (s : SeqAt.shaped x = true) : Dp K H v x := Rp.dp x v (SeqAt.canLay_of_shaped s) (Rp.mono w.sub x v r)
theorem od_eq : OpD L (compareOp .Eq) rdEq := fun X hX => ⟨_, op_eqD hX.room.units, fun S G H x y v u Q Q' w rx ry h q =>
  ⟨x, y, dp_of w rx h.1, dp_of w ry h.2.1, h.1, h.2.1, q _ _ G H (Gr.refl S G H) w (.bl _) h.2.2⟩⟩
theorem od_ne : OpD L (compareOp .NotEq) rdNe := fun X hX => ⟨_, op_neD hX.room.units, fun S G H x y v u Q Q' w rx ry h q =>
  ⟨x, y, dp_of w rx h.1, dp_of w ry h.2.1, h.1, h.2.1, q _ _ G H (Gr.refl S G H) w (.bl _) h.2.2⟩⟩
def rdIn (x : PyData) (y : PyData) (Q : PyData → Prop) : Prop := match y with
  | .list ds => SeqAt.shaped x = true ∧ SeqAt.shaped (.list ds) = true ∧ Q (.bool (ds.any fun z => PyData.eqv z x))
  | _ => False
def rdNotIn (x : PyData) (y : PyData) (Q : PyData → Prop) : Prop := match y with
  | .list ds => SeqAt.shaped x = true ∧ SeqAt.shaped (.list ds) = true ∧ Q (.bool (!ds.any fun z => PyData.eqv z x))
  | _ => False
theorem units65 {k : Nat} {A : Around} (r : Room k A) : A.units + 65 < cLine := by
  have := r.un
  omega
theorem od_in : OpD L (compareOp .In) rdIn := fun X hX => ⟨_, op_inD (units65 hX.room), fun S G H x y v u Q Q' w rx ry h q => by
  cases y with
  | list ds => exact ⟨x, ds, dp_of w rx h.1, dp_of w ry h.2.1, h.1, h.2.1, q _ _ G H (Gr.refl S G H) w (.bl _) h.2.2⟩
  | _ => exact False.elim h⟩
theorem od_notIn : OpD L (compareOp .NotIn) rdNotIn := fun X hX => ⟨_, op_notInD (units65 hX.room), fun S G H x y v u Q Q' w rx ry h q => by
  cases y with
  | list ds => exact ⟨x, ds, dp_of w rx h.1, dp_of w ry h.2.1, h.1, h.2.1, q _ _ G H (Gr.refl S G H) w (.bl _) h.2.2⟩
  | _ => exact False.elim h⟩
def isNoneD : PyData → Bool
  | .none => true
  | _ => false
def rdIs (x : PyData) (y : PyData) (Q : PyData → Prop) : Prop := match y with
  | .none => Q (.bool (isNoneD x))
  | _ => False
theorem od_is : OpD L (compareOp .Is) rdIs := fun X hX => ⟨_, op_isN, fun S G H x y v u Q Q' w rx ry h q => by
  cases ry with
  | non =>
    refine ⟨rfl, ?_⟩
    have e : decide (v = V.non) = isNoneD x := by
      cases rx <;> first | rfl | exact decide_eq_false (fun z => nomatch z)
    rw [e]
    exact q _ _ G H (Gr.refl S G H) w (.bl _) h
  | _ => exact False.elim h⟩
end
end Qm

namespace Qm
open PySem PySem.Spec PyProof.Rows L2

/-! ### calls of what is built in, with one argument -/
abbrev RU := PyData → (PyData → Prop) → Prop
def dUn (rd : RU) (ta : DTE) (ow : Ow) (ρ : Rho) (Q : PyData → Prop) : Prop := ta ow ρ fun x => rd x Q
def CallD (L : Lx) (f : Value) (rd : RU) : Prop :=
  ∀ X, CxS L X → ∃ r, CallR X f r ∧ ∀ (S : Addr) (G H : Hp) (x : PyData) (v : V) (Q : PyData → Prop) (Q' : VK), Wd S G H → Rp S G x v → rd x Q →
    (∀ d z G' H', Gr S G H G' H' → Wd S G' H' → Rp S G' d z → Q d → Q' z H') → r [v] H Q'
section
variable {L : Lx} {e a b c : Expr} {es rest : List Expr} {ta tb tc : DTE} {tr : DTA} {pos p p0 p1 p2 : Pos} {x : Str} {id T : String} {rd : RU}
theorem gl_of {X : Cx} (hX : CxS L X) (h : L.sc.names.lookup x = some .globalImplicit) : Gl X x := by
  show X.env.scope.names.lookup x = _
  rw [hX.sc]
  exact h
theorem mg_of0 {X : Cx} {o : Option Value} (hX : CxS L X) (h : L.g.mg x = o) : X.mg x = o := by
  rw [hX.mg]
  exact h
theorem pd_callB (hc : CallD L (.builtin id) rd) (hg : L.sc.names.lookup x = some .globalImplicit) (hm : L.g.mg x = none) (hv : bootBuiltins x = some (.builtin id)) (ha : Pd L e ta) (hn : x ≠ "__name__" := by decide) (hdb : (x == ("__debug__" : Str)) = false := by decide)
    (hs : ∀ env, starEach [e] env = [(false, eval e env)] := by intro _; rfl) : Pd L (.Call (.Name x p) [e] [] pos) (dUn rd ta) := ⟨fun ow ρ Q h X hX S T σ G H Q' k q => by
  obtain ⟨r, hr, hq⟩ := hc X hX
  refine WE.of (pe_callB hr (gl_of hX hg) (mg_of0 hX hm) hv (pa_cons we pa_nil (hs X.env)) hn hdb (hs X.env) rfl) (ha.run _ _ _ h X hX S T σ G H _ k fun x v G1 H1 g1 w1 r1 h1 => ?_)
  exact hq S G1 H1 x v _ _ w1 r1 h1 fun d z G2 H2 g2 w2 r2 h2 => q d z G2 H2 (g1.trans g2) w2 r2 h2⟩
theorem pd_callTy (hc : CallD L (.type T) rd) (hg : L.sc.names.lookup x = some .globalImplicit) (hm : L.g.mg x = none) (hv : bootBuiltins x = some (.type T)) (ha : Pd L e ta) (hn : x ≠ "__name__" := by decide) (hdb : (x == ("__debug__" : Str)) = false := by decide)
    (hs : ∀ env, starEach [e] env = [(false, eval e env)] := by intro _; rfl) : Pd L (.Call (.Name x p) [e] [] pos) (dUn rd ta) := ⟨fun ow ρ Q h X hX S T σ G H Q' k q => by
  obtain ⟨r, hr, hq⟩ := hc X hX
  refine WE.of (pe_callTy hr (gl_of hX hg) (mg_of0 hX hm) hv (pa_cons we pa_nil (hs X.env)) hn hdb (hs X.env) rfl) (ha.run _ _ _ h X hX S T σ G H _ k fun x v G1 H1 g1 w1 r1 h1 => ?_)
  exact hq S G1 H1 x v _ _ w1 r1 h1 fun d z G2 H2 g2 w2 r2 h2 => q d z G2 H2 (g1.trans g2) w2 r2 h2⟩
def rdLen (x : PyData) (Q : PyData → Prop) : Prop := match x with
  | .tuple ds => Q (.int ds.length)
  | .list ds => Q (.int ds.length)
  | _ => False
theorem cd_len : CallD L (.builtin "len") rdLen := fun X hX => ⟨_, call_len_seq, fun S G H x v Q Q' w r h q => by
  cases r with
  | lst e r => exact ⟨_, _, rfl, .inl (SqL.of (w.sub _ _ e)), by rw [r.length]; exact q _ _ G H (Gr.refl S G H) w (.int _) h⟩
  | tup e r => exact ⟨_, _, rfl, .inr (SqT.of (w.sub _ _ e)), by rw [r.length]; exact q _ _ G H (Gr.refl S G H) w (.int _) h⟩
  | _ => exact False.elim h⟩
def allD (o : Option (List Bool)) (Q : PyData → Prop) : Prop := match o with
  | some bs => Q (.bool (bs.all fun b => b))
  | none => False
def rdAll (x : PyData) (Q : PyData → Prop) : Prop := match x with
  | .list ds => allD (boolL ds) Q
  | _ => False
theorem cd_all : CallD L (.builtin "all") rdAll := fun X hX => ⟨_, cr_all hX.calm, fun S G H x v Q Q' w r h q => by
  cases r with
  | lst e r =>
    rename_i a vs ds
    have h' : allD (boolL ds) Q := h
    cases hb : boolL ds with
    | none => rw [hb] at h'; exact False.elim h'
    | some bs =>
      rw [hb] at h'
      have ev := rpl_bools r hb
      subst ev
      exact ⟨_, bs, rfl, SqL.of (w.sub _ _ e), q _ _ G H (Gr.refl S G H) w (.bl _) h'⟩
  | _ => exact False.elim h⟩
def rdTuple (x : PyData) (Q : PyData → Prop) : Prop := match x with
  | .tuple ds => Q (.tuple ds)
  | .list ds => Q (.tuple ds)
  | _ => False
theorem cd_tuple : CallD L (.type "tuple") rdTuple := fun X hX => ⟨_, call_tuple_of, fun S G H x v Q Q' w r h q => by
  cases r with
  | lst e r => exact ⟨_, _, rfl, .inl ⟨SqL.of (w.sub _ _ e), new_tup w r fun v G2 H2 g2 w2 r2 => q _ v G2 H2 g2 w2 r2 h⟩⟩
  | tup e r => exact ⟨_, _, rfl, .inr ⟨SqT.of (w.sub _ _ e), q _ _ G H (Gr.refl S G H) w (.tup e r) h⟩⟩
  | _ => exact False.elim h⟩
def rdList (x : PyData) (Q : PyData → Prop) : Prop := match x with
  | .tuple ds => Q (.list ds)
  | .list ds => Q (.list ds)
  | _ => False
theorem cd_list : CallD L (.type "list") rdList := fun X hX => ⟨_, call_list_of, fun S G H x v Q Q' w r h q => by
  cases r with
  | lst e r => exact ⟨_, _, rfl, .inl (SqL.of (w.sub _ _ e)), new_lst w r fun v G2 H2 g2 w2 r2 => q _ v G2 H2 g2 w2 r2 h⟩
  | tup e r => exact ⟨_, _, rfl, .inr (SqT.of (w.sub _ _ e)), new_lst w r fun v G2 H2 g2 w2 r2 => q _ v G2 H2 g2 w2 r2 h⟩
  | _ => exact False.elim h⟩

/-! ### isinstance -/
def tyN : PyData → String
  | .none => "NoneType"
  | .bool _ => "bool"
  | .int _ => "int"
  | .str _ => "str"
  | .list _ => "list"
  | .tuple _ => "tuple"
  | .dict _ => "list"
def isIntD : PyData → Bool
  | .bool _ => true
  | .int _ => true
  | _ => false
def isBoolD : PyData → Bool
  | .bool _ => true
  | _ => false
def isStrD : PyData → Bool
  | .str _ => true
  | _ => false
def isTupD : PyData → Bool
  | .tuple _ => true
  | _ => false
theorem kit_int : ∀ d, kitB (tyN d) "int" = some (isIntD d)
  | .none => (by decide +kernel : kitB "NoneType" "int" = some false)
  | .bool _ => (by decide +kernel : kitB "bool" "int" = some true)
  | .int _ => (by decide +kernel : kitB "int" "int" = some true)
  | .str _ => (by decide +kernel : kitB "str" "int" = some false)
  | .list _ => (by decide +kernel : kitB "list" "int" = some false)
  | .tuple _ => (by decide +kernel : kitB "tuple" "int" = some false)
  | .dict _ => (by decide +kernel : kitB "list" "int" = some false)
theorem kit_bool : ∀ d, kitB (tyN d) "bool" = some (isBoolD d)
  | .none => (by decide +kernel : kitB "NoneType" "bool" = some false)
  | .bool _ => (by decide +kernel : kitB "bool" "bool" = some true)
  | .int _ => (by decide +kernel : kitB "int" "bool" = some false)
  | .str _ => (by decide +kernel : kitB "str" "bool" = some false)
  | .list _ => (by decide +kernel : kitB "list" "bool" = some false)
  | .tuple _ => (by decide +kernel : kitB "tuple" "bool" = some false)
  | .dict _ => (by decide +kernel : kitB "list" "bool" = some false)
theorem kit_str : ∀ d, kitB (tyN d) "str" = some (isStrD d)
  | .none => (by decide +kernel : kitB "NoneType" "str" = some false)
  | .bool _ => (by decide +kernel : kitB "bool" "str" = some false)
  | .int _ => (by decide +kernel : kitB "int" "str" = some false)
  | .str _ => (by decide +kernel : kitB "str" "str" = some true)
  | .list _ => (by decide +kernel : kitB "list" "str" = some false)
  | .tuple _ => (by decide +kernel : kitB "tuple" "str" = some false)
  | .dict _ => (by decide +kernel : kitB "list" "str" = some false)
theorem kit_tuple : ∀ d, kitB (tyN d) "tuple" = some (isTupD d)
  | .none => (by decide +kernel : kitB "NoneType" "tuple" = some false)
  | .bool _ => (by decide +kernel : kitB "bool" "tuple" = some false)
  | .int _ => (by decide +kernel : kitB "int" "tuple" = some false)
  | .str _ => (by decide +kernel : kitB "str" "tuple" = some false)
  | .list _ => (by decide +kernel : kitB "list" "tuple" = some false)
  | .tuple _ => (by decide +kernel : kitB "tuple" "tuple" = some true)
  | .dict _ => (by decide +kernel : kitB "list" "tuple" = some false)
theorem tyx_of {K : PySem.W.Frag} {S : Addr} {G H : Hp} {d : PyData} {v : V} (w : Wd S G H) (r : Rp S G d v) : TyX K H v (.type (tyN d)) := by
  cases r with
  | non => exact .base .non
  | bl b => exact .base (.bl b)
  | int i => exact .base (.int i)
  | str x => exact .base (.str x)
  | lst e r => exact .base (.lst (w.sub _ _ e))
  | tup e r => exact .base (.tup (w.sub _ _ e))
  | hnd =>
    obtain ⟨_, _, _, _, _, _, h, _⟩ := w.strm
    exact .base (.lst h)
def rdIsi (pr : PyData → Bool) (x : PyData) (Q : PyData → Prop) : Prop := Q (.bool (pr x))
theorem pd_isi {pr : PyData → Bool} (hk : ∀ d, kitB (tyN d) T = some (pr d)) (hgi : L.sc.names.lookup ("isinstance" : Str) = some .globalImplicit) (hmi : L.g.mg "isinstance" = none) (hg : L.sc.names.lookup x = some .globalImplicit) (hm : L.g.mg x = none)
    (hv : bootBuiltins x = some (.type T)) (ha : Pd L e ta) (hn : x ≠ "__name__" := by decide) (hdb : (x == ("__debug__" : Str)) = false := by decide)
    (hs : ∀ env, starEach [e, .Name x p1] env = (false, eval e env) :: starEach [.Name x p1] env := by intro _; rfl) : Pd L (.Call (.Name "isinstance" p) [e, .Name x p1] [] pos) (dUn (rdIsi pr) ta) := ⟨fun ow ρ Q h X hX S T' σ G H Q' k q => by
  refine WE.of (pe_callB call_isi (gl_of hX hgi) (mg_of0 hX hmi) (by decide +kernel) (pa_cons we (pa_cons (pe_bltn (v := .ty T) (gl_of hX hg) (mg_of0 hX hm) hv rfl hn hdb) pa_nil) (hs X.env)) (by decide) (by decide) (hs X.env) rfl) (ha.run _ _ _ h X hX S T' σ G H _ k fun x v G1 H1 g1 w1 r1 h1 => ?_)
  exact ⟨v, .ty T, _, _, _, rfl, .ty T, tyx_of w1 r1, kit_ty (hk x), q _ _ G1 H1 g1 w1 (.bl _) h1⟩⟩

/-! ### subscripts -/
def optD (o : Option PyData) (Q : PyData → Prop) : Prop := match o with
  | some d => Q d
  | none => False
theorem optD_ex {o : Option PyData} {Q : PyData → Prop} (h : optD o Q) : ∃ d, o = some d ∧ Q d := by
  cases o with
  | none => exact False.elim h
  | some d => exact ⟨d, rfl, h⟩
def rdIx (x : PyData) (y : PyData) (Q : PyData → Prop) : Prop := match x, y with
  | .tuple ds, .int i => optD (atI ds i) Q
  | .list ds, .int i => optD (atI ds i) Q
  | _, _ => False
theorem RpL.atI {S : Addr} {G : Hp} {ds : List PyData} {vs : List V} {i : Int} {d : PyData} (r : RpL S G ds vs) (h : L2.atI ds i = some d) : ∃ v, L2.atI vs i = some v ∧ Rp S G d v := by
  unfold L2.atI at h ⊢
  rw [r.length]
  cases e : ixN ds.length i with
  | none => rw [e] at h; cases h
  | some j =>
    rw [e] at h
    exact r.get (show ds[j]? = some d from h)
theorem pd_ix (ha : Pd L a ta) (hb : Pd L b tb) (hs : PlainIx b) : Pd L (.Subscript a b pos) (dBin rdIx ta tb) := ⟨fun ow ρ Q h X hX S T σ G H Q' k q => by
  refine WE.of (pe_ix ix_seq we we hs) (ev_two hX ha hb k h fun G1 H1 x y v u g1 w1 r1 r2 h2 => ?_)
  cases r1 with
  | lst e r =>
    cases r2 with
    | int i =>
      obtain ⟨d, e1, h3⟩ := optD_ex h2
      obtain ⟨z, e2, r3⟩ := r.atI e1
      exact .inl ⟨_, _, i, z, rfl, rfl, SqL.of (w1.sub _ _ e), e2, q d z G1 H1 g1 w1 r3 h3⟩
    | _ => exact False.elim h2
  | tup e r =>
    cases r2 with
    | int i =>
      obtain ⟨d, e1, h3⟩ := optD_ex h2
      obtain ⟨z, e2, r3⟩ := r.atI e1
      exact .inr (.inl ⟨_, _, i, z, rfl, rfl, SqT.of (w1.sub _ _ e), e2, q d z G1 H1 g1 w1 r3 h3⟩)
    | _ => exact False.elim h2
  | _ => exact False.elim h2⟩

/-! ### slices of tuples -/
abbrev DTO := Ow → Rho → (Option Int → Prop) → Prop
structure Od (L : Lx) (o : Option Expr) (t : DTO) : Prop where
  run : ∀ ow ρ Q, t ow ρ Q → ∀ X, CxS L X → ∀ (S T : Addr) (σ : L2.St) (G H : Hp) (Q' : Option Int → Hp → Prop), Kn S T ow ρ σ G H → (∀ i G' H', Gr S G H G' H' → Wd S G' H' → Q i → Q' i H') →
    ∀ (pins : List (Addr × Obj)) (s : Shared), Inv X pins σ H s → wpAny (model X.prog X.w) X.A (evalPart o X.env) (fun u s' => ∃ o' H', Inv X pins σ H' s' ∧ IsPart u o' ∧ Q' o' H') X.xe s
def dNoPart (_ : Ow) (_ : Rho) (Q : Option Int → Prop) : Prop := Q none
def intD (x : PyData) (Q : Int → Prop) : Prop := match x with
  | .int i => Q i
  | _ => False
def dPart (te : DTE) (ow : Ow) (ρ : Rho) (Q : Option Int → Prop) : Prop := te ow ρ fun x => intD x fun i => Q (some i)
theorem od_none : Od L none dNoPart := ⟨fun ow ρ Q h X hX S T σ G H Q' k q pins s I => po_none.run pins s σ H Q' I (q none G H (Gr.refl S G H) k.wd h)⟩
theorem od_some (ha : Pd L a ta) : Od L (some a) (dPart ta) := ⟨fun ow ρ Q h X hX S T σ G H Q' k q pins s I => (po_some we).run pins s σ H Q' I (ha.run _ _ _ h X hX S T σ G H _ k fun x v G1 H1 g1 w1 r1 h1 => by
  cases r1 with
  | int i => exact ⟨i, rfl, q _ G1 H1 g1 w1 h1⟩
  | _ => exact False.elim h1)⟩
def cutD (xs : List PyData) (lo hi : Option Int) : List PyData := (xs.drop (HT.sIx xs.length 0 lo)).take (HT.sIx xs.length xs.length hi - HT.sIx xs.length 0 lo)
theorem RpL.cut {S : Addr} {G : Hp} {ds : List PyData} {vs : List V} (lo hi : Option Int) (r : RpL S G ds vs) : RpL S G (cutD ds lo hi) (cutV vs lo hi) := by
  unfold cutD cutV
  rw [r.length]
  exact (r.drop _).take _
def tupD (x : PyData) (Q : List PyData → Prop) : Prop := match x with
  | .tuple ds => Q ds
  | _ => False
def dSl (ta : DTE) (tl th : DTO) (ow : Ow) (ρ : Rho) (Q : PyData → Prop) : Prop := ta ow ρ fun x => tl ow ρ fun lo => th ow ρ fun hi => tupD x fun ds => Q (.tuple (cutD ds lo hi))
theorem cut_whole {xs : List PyData} {lo hi : Option Int} (h : HT.sIx xs.length 0 lo = 0 ∧ HT.sIx xs.length xs.length hi = xs.length) : cutD xs lo hi = xs := by
  unfold cutD
  rw [h.1, h.2, List.drop_zero, Nat.sub_zero, List.take_length]
def WO (X : Cx) (o : Option Expr) : TO := fun σ H Q => ∀ (pins : List (Addr × Obj)) (s : Shared), Inv X pins σ H s → wpAny (model X.prog X.w) X.A (evalPart o X.env) (fun u s' => ∃ o' H', Inv X pins σ H' s' ∧ IsPart u o' ∧ Q o' H') X.xe s
theorem wo {X : Cx} {o : Option Expr} : PO X o (WO X o) := ⟨fun pins s _ _ _ I h => h pins s I⟩
theorem pd_slice {lo hi : Option Expr} {tl th : DTO} (ha : Pd L a ta) (hl : Od L lo tl) (hh : Od L hi th) : Pd L (.Subscript a (.Slice lo hi none p2) pos) (dSl ta tl th) := ⟨fun ow ρ Q h X hX S T σ G H Q' k q => by
  refine WE.of (pe_slice sl_tupA we wo wo) (ha.run _ _ _ h X hX S T σ G H _ k fun x v G1 H1 g1 w1 r1 h1 => ?_)
  refine hl.run _ _ _ h1 X hX S T σ G1 H1 _ (k.step g1 w1) fun l G2 H2 g2 w2 h2 => ?_
  refine hh.run _ _ _ h2 X hX S T σ G2 H2 _ ((k.step g1 w1).step g2 w2) fun u G3 H3 g3 w3 h3 => ?_
  have g13 := (g1.trans g2).trans g3
  cases r1 with
  | tup e r =>
    have e3 := (g2.trans g3).grow _ _ e
    have r3 := RpL.mono (g2.trans g3).grow _ _ r
    refine ⟨_, _, rfl, SqT.of (w3.sub _ _ e3), fun z => ?_, fun _ => ?_⟩
    · have h4 := h3
      rw [r.length] at z
      exact q _ _ G3 H3 g13 w3 (.tup e3 r3) (by rw [← cut_whole z]; exact h4)
    · exact new_tup w3 (r3.cut l u) fun v G4 H4 g4 w4 r4 => q _ v G4 H4 (g13.trans g4) w4 r4 h3
  | _ => exact False.elim h3⟩
end

/-! ### defs: data in, data out -/
abbrev Fn := List PyData → (PyData → Prop) → Prop
def spD (fn : Fn) : Sp := fun vs H Q _ => ∃ (S : Addr) (G : Hp) (ds : List PyData) (q : PyData → Prop), Wd S G H ∧ RpL S G ds vs ∧ fn ds q ∧ ∀ d v G' H', Gr S G H G' H' → Wd S G' H' → Rp S G' d v → q d → Q v H'
structure FD (g : Gm) (k : Nat) (x : Str) (fn : Fn) : Prop where
  ex : ∃ (f : Addr) (fd : FuncData) (ps : List Str), FnOk g.P g.w g.K g.mg g.base CX0 k f fd ps (spD fn) ∧ g.mg x = some (.ref f) ∧ PySem.W.keepIn g.K (.ref f) = true ∧ Binds g.K fd ps []
def dCall (fn : Fn) (tr : DTA) (ow : Ow) (ρ : Rho) (Q : PyData → Prop) : Prop := tr ow ρ fun ds => fn ds Q
theorem pd_call {L : Lx} {x : Str} {fn : Fn} {j : Nat} {e : Expr} {es : List Expr} {tr : DTA} {p pos : Pos} (F : FD L.g j x fn) (hj : j ≤ L.k) (hg : L.sc.names.lookup x = some .globalImplicit) (hr : Ad L (e :: es) tr) (hdb : (x == ("__debug__" : Str)) = false := by decide)
    (hs : ∀ env, starEach (e :: es) env = (false, eval e env) :: starEach es env := by intro _; rfl) (hp : ∀ env, (backTo pos (starEach es env)).any (·.1) = false := by intro _; rfl) : Pd L (.Call (.Name x p) (e :: es) [] pos) (dCall fn tr) := ⟨fun ow ρ Q h X hX S T σ G H Q' k q => by
  obtain ⟨f, fd, ps, F, hm, hk, hb⟩ := F.ex
  have F' : FnOk X.prog X.w X.K X.mg X.base CX0 L.k f fd ps (spD fn) := by
    rw [hX.p, hX.w, hX.K, hX.mg, hX.base]
    exact F.mono hj
  refine WE.of (pe_call F' hX.room (gl_of hX hg) (mg_of0 hX hm) (by rw [hX.K]; exact hk) (by rw [hX.K]; exact hb) .nil pass0 wa hdb (hs X.env) (hp X.env)) (hr.run _ _ _ h X hX S T σ G H _ k fun ds vs G1 H1 g1 w1 r1 h1 => ?_)
  rw [List.append_nil]
  exact ⟨S, G1, ds, Q, w1, r1, h1, fun d v G2 H2 g2 w2 r2 h2 => q d v G2 H2 (g1.trans g2) w2 r2 h2⟩⟩
end Qm

namespace Qm
open PySem PySem.Spec PyProof.Rows L2

/-! ### statements by data -/
structure De where
  nx : Ow → Rho → Prop
  rt : PyData → Prop
  bk : Ow → Rho → Prop := fun _ _ => False
  ct : Ow → Rho → Prop := fun _ _ => False
abbrev DTS := De → Ow → Rho → Prop
def OwF (H0 : Hp) (T : Addr) : Ow → Prop
  | .no => True
  | .l _ => H0 T = none
  | .d _ _ => H0 T = none
structure Kf (S : Addr) (Gb G0 H0 : Hp) (T : Addr) (ow : Ow) (ρ : Rho) (σ : L2.St) (G H : Hp) : Prop where
  lb : Same Gb G
  gr : Gr S G0 H0 G H
  fr : OwF H0 T ow
  kn : Kn S T ow ρ σ G H
structure Dn (S : Addr) (Gb G0 H0 : Hp) (D : De) (D' : Ends) : Prop where
  nx : ∀ T ow ρ σ G H, Kf S Gb G0 H0 T ow ρ σ G H → D.nx ow ρ → D'.nx σ H
  rt : ∀ d v G H, Gr S G0 H0 G H → Wd S G H → Rp S G d v → D.rt d → D'.rt v H
  bk : ∀ T ow ρ σ G H, Kf S Gb G0 H0 T ow ρ σ G H → D.bk ow ρ → D'.bk σ H
  ct : ∀ T ow ρ σ G H, Kf S Gb G0 H0 T ow ρ σ G H → D.ct ow ρ → D'.ct σ H
structure Sd (L : Lx) (st : Stmt) (t : DTS) : Prop where
  run : ∀ D ow ρ, t D ow ρ → ∀ X, CxS L X → ∀ (S : Addr) (Gb G0 H0 : Hp) (T : Addr) (σ : L2.St) (G H : Hp) (D' : Ends), Kf S Gb G0 H0 T ow ρ σ G H → Dn S Gb G0 H0 D D' → WS X st D' σ H
structure Ss (L : Lx) (sts : List Stmt) (t : DTS) : Prop where
  run : ∀ D ow ρ, t D ow ρ → ∀ X, CxS L X → ∀ (S : Addr) (Gb G0 H0 : Hp) (T : Addr) (σ : L2.St) (G H : Hp) (D' : Ends), Kf S Gb G0 H0 T ow ρ σ G H → Dn S Gb G0 H0 D D' → WSs X sts D' σ H
section
variable {S T : Addr} {Gb G0 H0 G H G' H' : Hp} {ow : Ow} {ρ : Rho} {σ : L2.St}
theorem Kf.step (k : Kf S Gb G0 H0 T ow ρ σ G H) (g : Gr S G H G' H') (w : Wd S G' H') : Kf S Gb G0 H0 T ow ρ σ G' H' := ⟨k.lb.trans g.grow, k.gr.trans g, k.fr, k.kn.step g w⟩
theorem Kf.rs (k : Kf S Gb G0 H0 T ow ρ σ G H) {ρ' : Rho} {σ' : L2.St} (r : RS S T G ρ' σ') : Kf S Gb G0 H0 T ow ρ' σ' G H := ⟨k.lb, k.gr, k.fr, k.kn.wd, k.kn.ow, r⟩
end
section
variable {L : Lx} {st : Stmt} {rest sts a b : List Stmt} {t u : DTS} {e c : Expr} {te : DTE} {tc : DTT} {pos : Pos}
def dNext (D : De) (ow : Ow) (ρ : Rho) : Prop := D.nx ow ρ
def dSeq (t u : DTS) (D : De) (ow : Ow) (ρ : Rho) : Prop := t { D with nx := u D } ow ρ
theorem ss_nil : Ss L [] dNext := ⟨fun D ow ρ h X hX S Gb G0 H0 T σ G H D' k d => WSs.of pss_nil (d.nx _ _ _ _ _ _ k h)⟩
theorem ss_cons (h1 : Sd L st t) (h2 : Ss L rest u) : Ss L (st :: rest) (dSeq t u) := ⟨fun D ow ρ h X hX S Gb G0 H0 T σ G H D' k d =>
  WSs.of (pss_cons ws wss) (h1.run _ _ _ h X hX S Gb G0 H0 T σ G H _ k ⟨fun T1 ow1 ρ1 σ1 G1 H1 k1 q => h2.run _ _ _ q X hX S Gb G0 H0 T1 σ1 G1 H1 _ k1 d, d.rt, d.bk, d.ct⟩)⟩
theorem ss_one (h1 : Sd L st t) : Ss L [st] t := ⟨fun D ow ρ h X hX S Gb G0 H0 T σ G H D' k d => WSs.of (pss_one ws) (h1.run _ _ _ h X hX S Gb G0 H0 T σ G H _ k d)⟩
/-- a block that the proof never comes to -/
def dNever (_ : De) (_ : Ow) (_ : Rho) : Prop := False
theorem sd_never : Sd L st dNever := ⟨fun D ow ρ h => False.elim h⟩
theorem ss_never : Ss L sts dNever := ⟨fun D ow ρ h => False.elim h⟩
/-- what is known behind a statement said in other words -/
def dCut (t : DTS) (D : De) (ow : Ow) (ρ : Rho) : Prop := ∃ Mid : Ow → Rho → Prop, t { D with nx := Mid } ow ρ ∧ ∀ ow' ρ', Mid ow' ρ' → D.nx ow' ρ'
theorem sd_cut (h : Sd L st t) : Sd L st (dCut t) := ⟨fun D ow ρ q X hX S Gb G0 H0 T σ G H D' k d => by
  obtain ⟨Mid, q1, q2⟩ := q
  exact h.run _ _ _ q1 X hX S Gb G0 H0 T σ G H D' k ⟨fun T1 ow1 ρ1 σ1 G1 H1 k1 q => d.nx _ _ _ _ _ _ k1 (q2 _ _ q), d.rt, d.bk, d.ct⟩⟩
def dRet (te : DTE) (D : De) (ow : Ow) (ρ : Rho) : Prop := te ow ρ D.rt
theorem sd_ret (he : Pd L e te) : Sd L (.Return (some e) pos) (dRet te) := ⟨fun D ow ρ h X hX S Gb G0 H0 T σ G H D' k d =>
  WS.of (ps_ret we) (he.run _ _ _ h X hX S T σ G H _ k.kn fun x v G1 H1 g1 w1 r1 h1 => d.rt x v G1 H1 (k.gr.trans g1) w1 r1 h1)⟩
def dIf (c : DTT) (t u : DTS) (D : De) (ow : Ow) (ρ : Rho) : Prop := c ow ρ fun b => if b = true then t D ow ρ else u D ow ρ
theorem sd_if (hc : Td L c tc) (ha : Ss L a t) (hb : Ss L b u) : Sd L (.If c a b pos) (dIf tc t u) := ⟨fun D ow ρ h X hX S Gb G0 H0 T σ G H D' k d => by
  refine WS.of (ps_if wt wss wss) (hc.run _ _ _ h X hX S T σ G H _ k.kn fun x G1 H1 g1 w1 h1 => ?_)
  cases x with
  | true => exact ha.run _ _ _ (show t D ow ρ from h1) X hX S Gb G0 H0 T σ G1 H1 D' (k.step g1 w1) d
  | false => exact hb.run _ _ _ (show u D ow ρ from h1) X hX S Gb G0 H0 T σ G1 H1 D' (k.step g1 w1) d⟩
end

theorem RS.putD {S T : Addr} {G : Hp} {ρ : Rho} {σ : L2.St} {i : Nat} {x : PyData} {v : V} (h : RS S T G ρ σ) (r : Rp S G x v) : RS S T G (ρ.set i (.d x)) (σ.set i (some v)) := h.put (x := .d x) ⟨v, rfl, r⟩
/-! ### targets -/
abbrev DTG := PyData → Rho → (Rho → Prop) → Prop
structure Gd (L : Lx) (tg : Expr) (ws : List Nat) (g : TG) (t : DTG) : Prop where
  pg : ∀ X, CxS L X → PG X tg g
  rd : ∀ (S T : Addr) (ow : Ow) (σ : L2.St) (G H : Hp) (ρ : Rho) (x : PyData) (v : V) (Q : Rho → Prop) (Q' : L2.St → Hp → Prop), Kn S T ow ρ σ G H → Rp S G x v → t x ρ Q →
    (∀ σ' ρ', RS S T G ρ' σ' → σ'.length = σ.length → (∀ i, i ∉ ws → σ'[i]? = σ[i]?) → Q ρ' → Q' σ' H) → g v σ H Q'
section
variable {L : Lx} {st : Stmt} {rest sts a b : List Stmt} {t u : DTS} {e c : Expr} {te : DTE} {tc : DTT} {pos : Pos}
def gN (i : Nat) (x : PyData) (ρ : Rho) (Q : Rho → Prop) : Prop := Q (ρ.set i (.d x))
def LocD (L : Lx) (x : Str) : Prop := (L.df = true ∧ Loc L.sc x) ∨ L.sc.names.lookup x = some .local
theorem pg_of {X : Cx} {i : Nat} {x : Str} (hX : CxS L X) (hi : L.N[i]? = some x) (hx : LocD L x) : PG X (.Name x pos) (gName i) := by
  have hN : X.N.Nodup := by rw [hX.n]; exact hX.nd
  have hi' : X.N[i]? = some x := by rw [hX.n]; exact hi
  rcases hx with ⟨h1, h2⟩ | h2
  · exact pg_name hN hi' (by rw [hX.sc]; exact h2) (.inl (hX.fn h1 x))
  · have h3 : X.env.scope.names.lookup x = some .local := by rw [hX.sc]; exact h2
    exact pg_name hN hi' (.inl h3) (.inr h3)
theorem gd_name {i : Nat} {x : Str} (hi : L.N[i]? = some x) (hx : LocD L x) : Gd L (.Name x pos) [i] (gName i) (gN i) :=
  ⟨fun X hX => pg_of hX hi hx, fun S T ow σ G H ρ x v Q Q' k r h q =>
    q _ _ (k.rs.putD r) (by rw [List.length_set]) (fun j hj => List.getElem?_set_ne (fun e => hj (by rw [e]; exact List.mem_singleton_self _))) h⟩
def pairD (ds : List PyData) (Q : PyData → PyData → Prop) : Prop := match ds with
  | [a, b] => Q a b
  | _ => False
theorem pairD_ex {ds : List PyData} {Q : PyData → PyData → Prop} (h : pairD ds Q) : ∃ a b, ds = [a, b] ∧ Q a b := by
  match ds, h with
  | [a, b], h => exact ⟨a, b, rfl, h⟩
  | [], h => exact False.elim h
  | [_], h => exact False.elim h
  | _ :: _ :: _ :: _, h => exact False.elim h
theorem tupD_ex {x : PyData} {Q : List PyData → Prop} (h : tupD x Q) : ∃ ds, x = .tuple ds ∧ Q ds := by
  cases x with
  | tuple ds => exact ⟨ds, rfl, h⟩
  | _ => exact False.elim h
def gP (i j : Nat) (x : PyData) (ρ : Rho) (Q : Rho → Prop) : Prop := tupD x fun ds => pairD ds fun a b => Q ((ρ.set i (.d a)).set j (.d b))
theorem gd_pair {i j : Nat} {x y : Str} {p1 p2 : Pos} {k : Nat} (hi : L.N[i]? = some x) (hx : LocD L x) (hj : L.N[j]? = some y) (hy : LocD L y) :
    Gd L (.Tuple [.Name x p1, .Name y p2] k pos) [i, j] (gTup L.g.K 2 (gCons (gName i) (gCons (gName j) gNil))) (gP i j) :=
  ⟨fun X hX => by
    rw [← hX.K]
    exact pg_tup hX.calm (pgs_cons (pg_of hX hi hx) (pgs_cons (pg_of hX hj hy) pgs_nil)), fun S T ow σ G H ρ x v Q Q' k r h q => by
    obtain ⟨ds, rfl, h1⟩ := tupD_ex h
    obtain ⟨a, b, rfl, h2⟩ := pairD_ex h1
    cases r with
    | tup e r =>
      cases r with
      | cons ra r =>
        cases r with
        | cons rb r =>
          cases r
          refine ⟨_, _, rfl, SqT.of (k.wd.sub _ _ e), rfl, _, _, rfl, _, _, rfl, rfl, ?_⟩
          refine q _ _ ((k.rs.putD ra).putD rb) (by rw [List.length_set, List.length_set]) (fun m hm => ?_) h2
          rw [List.getElem?_set_ne (fun e => hm (by simp [e])), List.getElem?_set_ne (fun e => hm (by simp [e]))]⟩
def dAsg (te : DTE) (g : DTG) (D : De) (ow : Ow) (ρ : Rho) : Prop := te ow ρ fun x => g x ρ fun ρ' => D.nx ow ρ'
theorem sd_asg {tg : Expr} {ws : List Nat} {g : TG} {tgd : DTG} (he : Pd L e te) (hg : Gd L tg ws g tgd) (hs : ∀ env, swapsWithSole [tg] e pos.line env = pure false := by intro _; rfl) (hw : ∀ env, swappedStores [tg] e env = pure none := by intro _; rfl)
    (h1 : ∀ env, (assignEach [tg] env).map (·.2) = [assign tg env] := by intro _; rfl) : Sd L (.Assign [tg] e pos) (dAsg te tgd) := ⟨fun D ow ρ h X hX S Gb G0 H0 T σ G H D' k d => by
  refine WS.of (ps_asg we (hg.pg X hX) (hs X.env) (hw X.env) (h1 X.env)) (he.run _ _ _ h X hX S T σ G H _ k.kn fun x v G1 H1 g1 w1 r1 h1 => ?_)
  have k1 := k.step g1 w1
  exact hg.rd S T ow σ G1 H1 ρ x v _ _ k1.kn r1 h1 fun σ' ρ' r _ _ q => d.nx T ow ρ' σ' G1 H1 (k1.rs r) q⟩
end

/-! ### a def -/
def startD (N : List Str) (ds : List PyData) : Rho := ds.map Sl.d ++ List.replicate (N.length - ds.length) .u
theorem rs_start {S T : Addr} {G : Hp} {N : List Str} : ∀ {ds : List PyData} {vs : List V}, RpL S G ds vs → ∀ (m : Nat), RS S T G (ds.map Sl.d ++ List.replicate m .u) (vs.map some ++ List.replicate m none)
  | [], _, h, m => by
    cases h
    refine ⟨by simp, fun i s e => ?_⟩
    simp only [List.map_nil, List.nil_append, List.getElem?_replicate] at e ⊢
    split at e
    · cases e
      rename_i hlt
      exact ⟨none, by rw [if_pos hlt], trivial⟩
    · cases e
  | d :: ds, _, h, m => by
    cases h with
    | cons a b =>
      have ih := rs_start (S := S) (T := T) (G := G) (N := N) b m
      refine ⟨by simp [ih.len, b.length], fun i s e => ?_⟩
      cases i with
      | zero =>
        have e' := Option.some.inj e
        subst e'
        exact ⟨_, rfl, _, rfl, a⟩
      | succ i => exact ih.at_ i s (by simpa using e)
theorem fd_mk {g : Gm} {x qual : Str} {st : Stmt} {f : Addr} {fd : FuncData} {k : Nat} {N ps : List Str} {fn : Fn} {tb : DTS} (F : Fun g.K x qual st f fd) (Sc : FnScope N ps (defScope st)) (hb : Binds g.K fd ps []) (hm : g.mg x = some (.ref f))
    (hlen : ∀ ds q, fn ds q → ds.length = ps.length) (body : Ss ⟨g, N, defScope st, k, true⟩ (defBody st) tb) (hread : ∀ ds q, fn ds q → tb { nx := fun _ _ => q .none, rt := q } .no (startD N ds)) : FD g (k + 1) x fn := by
  refine ⟨f, fd, ps, F.ok Sc (fun vs H Q E h => ?_) (fun cdv A outer s H vs Q E hr h => ?_), hm, F.kp, hb⟩
  · obtain ⟨S, G, ds, q, _, r, h, _⟩ := h
    rw [r.length]
    exact hlen ds q h
  · obtain ⟨S, G, ds, q, w, r, h, fin⟩ := h
    refine ⟨_, wss, ?_⟩
    have hX : CxS ⟨g, N, defScope st, k, true⟩ (cxOf CX0 g.P g.w g.K g.mg g.base N qual (defScope st) f cdv A outer s H E).nox :=
      ⟨rfl, rfl, rfl, rfl, rfl, rfl, Sc.nd, rfl, rfl, hr, fun _ _ => rfl, fun _ => PassesOwn.never⟩
    refine body.run _ _ _ (hread ds q h) _ hX S G G H 0 _ G H _ ⟨Same.refl G, Gr.refl S G H, trivial, w, trivial, ?_⟩ ⟨fun T ow ρ σ G1 H1 k1 h1 => ?_, fun d v G1 H1 g1 w1 r1 h1 => fin d v G1 H1 g1 w1 r1 h1, fun _ _ _ _ _ _ _ h => False.elim h, fun _ _ _ _ _ _ _ h => False.elim h⟩
    · have e : N.length - ds.length = N.length - vs.length := by rw [r.length]
      unfold startD L2.start
      rw [e]
      exact rs_start (N := N) r _
    · exact fin _ _ G1 H1 k1.gr k1.kn.wd .non h1
end Qm

namespace Qm
open PySem PySem.Spec PyProof.Rows L2

/-! ### what is walked -/
abbrev DTI := Ow → Rho → (List PyData → Prop) → Prop
structure ItD (S : Addr) (J : It) (ds : List PyData) (G1 : Hp) : Prop where
  item : ∀ (i : Nat) (G H : Hp) (d : PyData), ds[i]? = some d → Same G1 G → Wd S G H → J.go i H ∧ ∀ v H', J.yld i H v H' → ∃ G', Gr S G H G' H' ∧ Wd S G' H' ∧ Rp S G' d v
  stop : ∀ (G H : Hp), Same G1 G → Wd S G H → J.stop ds.length H
structure Ide (L : Lx) (tg iter : Expr) (t : DTI) : Prop where
  run : ∀ X, CxS L X → ∃ wi, PI X tg iter wi ∧ ∀ ow ρ Q, t ow ρ Q → ∀ (S T : Addr) (σ : L2.St) (G H : Hp) (R : It → Hp → Prop), Kn S T ow ρ σ G H → (∀ J ds G' H', Gr S G H G' H' → Wd S G' H' → ItD S J ds G' → Q ds → R J H') → wi σ H R
section
variable {L : Lx} {tg a b c : Expr} {ta tb tc : DTE} {tr : DTA} {p pos : Pos}
def rangeL (lo c : Int) (n : Nat) : List PyData := (List.range n).map fun (k : Nat) => PyData.int (lo + (k : Int) * c)
theorem rangeL_len {lo c : Int} {n : Nat} : (rangeL lo c n).length = n := by simp [rangeL]
theorem rangeL_get {lo c : Int} {n i : Nat} {d : PyData} (h : (rangeL lo c n)[i]? = some d) : i < n ∧ d = .int (lo + (i : Int) * c) := by
  unfold rangeL at h
  rw [List.getElem?_map] at h
  obtain ⟨k, e, rfl⟩ := Option.map_eq_some_iff.mp h
  obtain ⟨h1, h2⟩ := List.getElem?_eq_some_iff.mp e
  rw [List.length_range] at h1
  rw [List.getElem_range] at h2
  subst h2
  exact ⟨h1, rfl⟩
theorem itd_r {S : Addr} {lo : Int} {n : Nat} {G1 : Hp} : ItD S (Itr lo n) (rangeL lo 1 n) G1 := ⟨fun i G H d e s w => by
  obtain ⟨h1, rfl⟩ := rangeL_get e
  refine ⟨h1, fun v H' y => ?_⟩
  obtain ⟨rfl, rfl⟩ := y
  refine ⟨G, Gr.refl S G _, w, ?_⟩
  rw [Int.mul_one]
  exact .int _, fun G H s w => by
  rw [rangeL_len]
  exact Nat.le_refl _⟩
theorem itd_c {S : Addr} {lo c : Int} {n : Nat} {G1 : Hp} : ItD S (Itc lo c n) (rangeL lo c n) G1 := ⟨fun i G H d e s w => by
  obtain ⟨h1, rfl⟩ := rangeL_get e
  refine ⟨h1, fun v H' y => ?_⟩
  obtain ⟨rfl, rfl⟩ := y
  exact ⟨G, Gr.refl S G _, w, .int _⟩, fun G H s w => by
  rw [rangeL_len]
  exact Nat.le_refl _⟩
def intsD (ds : List PyData) (Q : List Int → Prop) : Prop := match intL ds with
  | some ns => Q ns
  | none => False
theorem intsD_ex {ds : List PyData} {Q : List Int → Prop} (h : intsD ds Q) : ∃ ns, intL ds = some ns ∧ Q ns := by
  unfold intsD at h
  split at h
  · exact ⟨_, by assumption, h⟩
  · exact h.elim
def rg1 (ns : List Int) (Q : List PyData → Prop) : Prop := match ns with
  | [j] => (-(2 ^ 62) ≤ j ∧ j < 2 ^ 62) ∧ Q (rangeL 0 1 j.toNat)
  | _ => False
def rg2 (ns : List Int) (Q : List PyData → Prop) : Prop := match ns with
  | [i, j] => (-(2 ^ 62) ≤ i ∧ i < 2 ^ 62 ∧ -(2 ^ 62) ≤ j ∧ j < 2 ^ 62) ∧ Q (rangeL i 1 (j - i).toNat)
  | _ => False
def rg3 (ns : List Int) (Q : List PyData → Prop) : Prop := match ns with
  | [i, j, c] => ∃ n, RgC i j c n ∧ Q (rangeL i c n)
  | _ => False
def dRng (rg : List Int → (List PyData → Prop) → Prop) (t : DTA) (ow : Ow) (ρ : Rho) (Q : List PyData → Prop) : Prop := t ow ρ fun ds => intsD ds fun ns => rg ns Q
theorem id_range1 (hg : L.sc.names.lookup ("range" : Str) = some .globalImplicit) (hm : L.g.mg "range" = none) (ha : Ad L [a] tr) (hs : ∀ env, starEach [a] env = [(false, eval a env)] := by intro _; rfl) : Ide L tg (.Call (.Name "range" p) [a] [] pos) (dRng rg1 tr) := ⟨fun X hX => by
  refine ⟨_, pi_range1 (gl_of hX hg) (mg_of0 hX hm) wa (hs X.env), fun ow ρ Q h S T σ G H R k q => ?_⟩
  refine ha.run _ _ _ h X hX S T σ G H _ k fun ds vs G1 H1 g1 w1 r1 h1 => ?_
  obtain ⟨ns, e, h2⟩ := intsD_ex h1
  have ev := rpl_ints r1 e
  subst ev
  match ns, h2 with
  | [j], h2 => exact ⟨j, rfl, h2.1.1, h2.1.2, q _ _ G1 H1 g1 w1 itd_r h2.2⟩
  | [], h2 => exact False.elim h2
  | _ :: _ :: _, h2 => exact False.elim h2⟩
theorem id_range2 (hg : L.sc.names.lookup ("range" : Str) = some .globalImplicit) (hm : L.g.mg "range" = none) (ha : Ad L [a, b] tr) (hs : ∀ env, starEach [a, b] env = [(false, eval a env), (false, eval b env)] := by intro _; rfl) (hs2 : ∀ env, starEach [b] env = [(false, eval b env)] := by intro _; rfl) : Ide L tg (.Call (.Name "range" p) [a, b] [] pos) (dRng rg2 tr) := ⟨fun X hX => by
  refine ⟨_, pi_range2 (gl_of hX hg) (mg_of0 hX hm) wa (hs X.env) (hs2 X.env), fun ow ρ Q h S T σ G H R k q => ?_⟩
  refine ha.run _ _ _ h X hX S T σ G H _ k fun ds vs G1 H1 g1 w1 r1 h1 => ?_
  obtain ⟨ns, e, h2⟩ := intsD_ex h1
  have ev := rpl_ints r1 e
  subst ev
  match ns, h2 with
  | [i, j], h2 => exact ⟨i, j, rfl, h2.1, q _ _ G1 H1 g1 w1 itd_r h2.2⟩
  | [], h2 => exact False.elim h2
  | [_], h2 => exact False.elim h2
  | _ :: _ :: _ :: _, h2 => exact False.elim h2⟩
theorem id_range3 (hg : L.sc.names.lookup ("range" : Str) = some .globalImplicit) (hm : L.g.mg "range" = none) (ha : Ad L [a, b, c] tr) (hs : ∀ env, starEach [a, b, c] env = (false, eval a env) :: starEach [b, c] env := by intro _; rfl) (hpl : ∀ env, (backTo pos (starEach [b, c] env)).any (·.1) = false := by intro _; rfl) : Ide L tg (.Call (.Name "range" p) [a, b, c] [] pos) (dRng rg3 tr) := ⟨fun X hX => by
  refine ⟨_, pi_range3 (gl_of hX hg) (mg_of0 hX hm) wa (hs X.env) (hpl X.env), fun ow ρ Q h S T σ G H R k q => ?_⟩
  refine ha.run _ _ _ h X hX S T σ G H _ k fun ds vs G1 H1 g1 w1 r1 h1 => ?_
  obtain ⟨ns, e, h2⟩ := intsD_ex h1
  have ev := rpl_ints r1 e
  subst ev
  match ns, h2 with
  | [i, j, c], h2 =>
    obtain ⟨n, h3, h4⟩ := h2
    exact ⟨i, j, c, n, rfl, h3, q _ _ G1 H1 g1 w1 itd_c h4⟩
  | [], h2 => exact False.elim h2
  | [_], h2 => exact False.elim h2
  | [_, _], h2 => exact False.elim h2
  | _ :: _ :: _ :: _ :: _, h2 => exact False.elim h2⟩
theorem rgc_two {i j : Int} (ha : -(2 ^ 61) ≤ i) (ha' : i < 2 ^ 61) (hb : -(2 ^ 61) ≤ j) (hb' : j < 2 ^ 61) : RgC i j 2 ((j - i + 1) / 2).toNat := by
  have e : Builtin.Range.rangeSize i j 2 = (((j - i + 1) / 2).toNat : Int) := by
    unfold Builtin.Range.rangeSize
    simp only [show (2 : Int) > 0 by decide, if_true]
    split <;> omega
  refine ⟨by decide, by decide, ?_, e⟩
  unfold Builtin.Range.small
  rw [e]
  simp only [Builtin.Range.rangeFitsLong, Bool.and_eq_true, Bool.or_eq_true, decide_eq_true_eq, beq_iff_eq, show (2 : Int) > 0 by decide, if_true]
  omega
theorem itd_l {S : Addr} {K : PySem.W.Frag} {a : Addr} {ds : List PyData} {vs : List V} {G1 : Hp} (e : G1 a = some (.lst vs)) (r : RpL S G1 ds vs) : ItD S (Itl K a) ds G1 := ⟨fun i G H d hd s w => by
  obtain ⟨v, hv, rv⟩ := r.get hd
  have hs : SqL K H a vs := SqL.of (w.sub _ _ (s _ _ e))
  refine ⟨⟨vs, v, hs, hv⟩, fun u H' y => ?_⟩
  obtain ⟨rfl, y⟩ := y
  have e1 := y vs hs
  rw [hv] at e1
  cases e1
  exact ⟨G, Gr.refl S G _, w, rv.mono s⟩, fun G H s w => ⟨vs, SqL.of (w.sub _ _ (s _ _ e)), by rw [r.length]; exact Nat.le_refl _⟩⟩
theorem itd_t {S : Addr} {K : PySem.W.Frag} {a : Addr} {ds : List PyData} {vs : List V} {G1 : Hp} (e : G1 a = some (.tup vs)) (r : RpL S G1 ds vs) : ItD S (Itt K a) ds G1 := ⟨fun i G H d hd s w => by
  obtain ⟨v, hv, rv⟩ := r.get hd
  have hs : SqT K H a vs := SqT.of (w.sub _ _ (s _ _ e))
  refine ⟨⟨vs, v, hs, hv⟩, fun u H' y => ?_⟩
  obtain ⟨rfl, y⟩ := y
  have e1 := y vs hs
  rw [hv] at e1
  cases e1
  exact ⟨G, Gr.refl S G _, w, rv.mono s⟩, fun G H s w => ⟨vs, SqT.of (w.sub _ _ (s _ _ e)), by rw [r.length]; exact Nat.le_refl _⟩⟩
def lstD (x : PyData) (Q : List PyData → Prop) : Prop := match x with
  | .list ds => Q ds
  | _ => False
theorem lstD_ex {x : PyData} {Q : List PyData → Prop} (h : lstD x Q) : ∃ ds, x = .list ds ∧ Q ds := by
  cases x with
  | list ds => exact ⟨ds, rfl, h⟩
  | _ => exact False.elim h
def dIlst (ta : DTE) (ow : Ow) (ρ : Rho) (Q : List PyData → Prop) : Prop := ta ow ρ fun x => lstD x Q
def dItup (ta : DTE) (ow : Ow) (ρ : Rho) (Q : List PyData → Prop) : Prop := ta ow ρ fun x => tupD x Q
theorem id_list (ha : Pd L a ta) : Ide L tg a (dIlst ta) := ⟨fun X hX => by
  refine ⟨_, pi_list we, fun ow ρ Q h S T σ G H R k q => ha.run _ _ _ h X hX S T σ G H _ k fun x v G1 H1 g1 w1 r1 h1 => ?_⟩
  obtain ⟨ds, rfl, h2⟩ := lstD_ex h1
  cases r1 with
  | lst e r => exact ⟨_, rfl, ⟨_, SqL.of (w1.sub _ _ e)⟩, q _ _ G1 H1 g1 w1 (itd_l e r) h2⟩⟩
theorem id_tup (ha : Pd L a ta) : Ide L tg a (dItup ta) := ⟨fun X hX => by
  refine ⟨_, pi_tup we, fun ow ρ Q h S T σ G H R k q => ha.run _ _ _ h X hX S T σ G H _ k fun x v G1 H1 g1 w1 r1 h1 => ?_⟩
  obtain ⟨ds, rfl, h2⟩ := tupD_ex h1
  cases r1 with
  | tup e r => exact ⟨_, rfl, ⟨_, SqT.of (w1.sub _ _ e)⟩, q _ _ G1 H1 g1 w1 (itd_t e r) h2⟩⟩
end

/-! ### for, while -/
section
variable {L : Lx} {tg iter c : Expr} {body : List Stmt} {wi : DTI} {tc : DTT} {ws : List Nat} {g : TG} {tgd : DTG} {tb : DTS} {pos : Pos}
def dFor (wi : DTI) (g : DTG) (tb : DTS) (D : De) (ow : Ow) (ρ : Rho) : Prop := wi ow ρ fun ds => ∃ Iv : Nat → Ow → Rho → Prop, Iv 0 ow ρ ∧
  (∀ (i : Nat) (d : PyData) (ow : Ow) (ρ : Rho), ds[i]? = some d → Iv i ow ρ → g d ρ fun ρ' => tb { nx := Iv (i + 1), rt := D.rt, bk := D.nx, ct := Iv (i + 1) } ow ρ') ∧ ∀ ow ρ, Iv ds.length ow ρ → D.nx ow ρ
theorem sd_for (hd : L.df = true) (hi : Ide L tg iter wi) (hg : Gd L tg ws g tgd) (hb : Ss L body tb) (hs : ∀ env x, foldedSetIterable iter env x = pure x := by intro _ _; rfl) : Sd L (.For tg iter body [] pos) (dFor wi tgd tb) := ⟨fun D ow ρ h X hX S Gb G0 H0 T σ G H D' k d => by
  obtain ⟨w0, hpi, hw⟩ := hi.run X hX
  refine WS.of (ps_for (hX.po hd) hX.calm hpi (hg.pg X hX) wss (hs X.env)) (hw ow ρ _ h S T σ G H _ k.kn fun J ds G1 H1 g1 w1 it h1 => ?_)
  obtain ⟨Iv, i0, turn, fin⟩ := h1
  have lb1 : Same Gb G1 := k.lb.trans g1.grow
  refine ⟨fun i m σ' H' => ∃ T' ow' ρ' G', Kf S Gb G0 H0 T' ow' ρ' σ' G' H' ∧ Same G1 G' ∧ Iv i ow' ρ' ∧ i ≤ ds.length ∧ m = ds.length - i, ⟨_, T, ow, ρ, G1, k.step g1 w1, Same.refl _, i0, Nat.zero_le _, rfl⟩, fun i m σ2 H2 hW => ?_⟩
  obtain ⟨T2, ow2, ρ2, G2, k2, s2, iv, hle, rfl⟩ := hW
  by_cases hlt : i < ds.length
  · have hd2 : ds[i]? = some ds[i] := List.getElem?_eq_getElem hlt
    obtain ⟨hgo, hy⟩ := it.item i G2 H2 _ hd2 s2 k2.kn.wd
    refine .inr ⟨hgo, fun σ' H' => ∃ T' ow' ρ' G', Kf S Gb G0 H0 T' ow' ρ' σ' G' H' ∧ Same G1 G' ∧ Iv (i + 1) ow' ρ', fun σ' H' hN => ?_, fun v H3 y3 => ?_⟩
    · obtain ⟨T', ow', ρ', G', a, b, c⟩ := hN
      exact ⟨ds.length - (i + 1), by omega, T', ow', ρ', G', a, b, c, hlt, rfl⟩
    · obtain ⟨G3, g3, w3, r3⟩ := hy v H3 y3
      have k3 := k2.step g3 w3
      refine hg.rd S T2 ow2 σ2 G3 H3 ρ2 _ v _ _ k3.kn r3 (turn i _ ow2 ρ2 hd2 iv) fun σ4 ρ4 r4 _ _ q4 => ?_
      refine hb.run _ _ _ q4 X hX S G1 G0 H0 T2 σ4 G3 H3 _ ⟨s2.trans g3.grow, (k3.rs r4).gr, (k3.rs r4).fr, (k3.rs r4).kn⟩ ⟨fun T5 ow5 ρ5 σ5 G5 H5 k5 q5 => ?_, d.rt, fun T5 ow5 ρ5 σ5 G5 H5 k5 q5 => ?_, fun T5 ow5 ρ5 σ5 G5 H5 k5 q5 => ?_⟩
      · exact ⟨T5, ow5, ρ5, G5, ⟨lb1.trans k5.lb, k5.gr, k5.fr, k5.kn⟩, k5.lb, q5⟩
      · exact d.nx _ _ _ _ _ _ ⟨lb1.trans k5.lb, k5.gr, k5.fr, k5.kn⟩ q5
      · exact ⟨T5, ow5, ρ5, G5, ⟨lb1.trans k5.lb, k5.gr, k5.fr, k5.kn⟩, k5.lb, q5⟩
  · have e : i = ds.length := by omega
    subst e
    exact .inl ⟨it.stop G2 H2 s2 k2.kn.wd, d.nx _ _ _ _ _ _ k2 (fin _ _ iv)⟩⟩
def dWhile (c : DTT) (tb : DTS) (D : De) (ow : Ow) (ρ : Rho) : Prop := ∃ (Iv : Ow → Rho → Prop) (μ : Ow → Rho → Nat), Iv ow ρ ∧ ∀ ow ρ, Iv ow ρ → c ow ρ fun b =>
  if b = true then tb { nx := fun ow' ρ' => Iv ow' ρ' ∧ μ ow' ρ' < μ ow ρ, rt := D.rt, bk := D.nx, ct := fun ow' ρ' => Iv ow' ρ' ∧ μ ow' ρ' < μ ow ρ } ow ρ else D.nx ow ρ
theorem sd_while (hd : L.df = true) (hc : Td L c tc) (hb : Ss L body tb) : Sd L (.While c body [] pos) (dWhile tc tb) := ⟨fun D ow ρ h X hX S Gb G0 H0 T σ G H D' k d => by
  obtain ⟨Iv, μ, i0, turn⟩ := h
  refine WS.of (ps_while (hX.po hd) wt wss) ⟨fun m σ' H' => ∃ T' ow' ρ' G', Kf S Gb G0 H0 T' ow' ρ' σ' G' H' ∧ Iv ow' ρ' ∧ m = μ ow' ρ', ⟨_, T, ow, ρ, G, k, i0, rfl⟩, fun m σ2 H2 hW => ?_⟩
  obtain ⟨T2, ow2, ρ2, G2, k2, iv, rfl⟩ := hW
  refine hc.run _ _ _ (turn ow2 ρ2 iv) X hX S T2 σ2 G2 H2 _ k2.kn fun b G3 H3 g3 w3 h3 => ?_
  have k3 := k2.step g3 w3
  cases b with
  | true =>
    have h4 : tb _ ow2 ρ2 := h3
    refine iteT ⟨fun σ' H' => ∃ T' ow' ρ' G', Kf S Gb G0 H0 T' ow' ρ' σ' G' H' ∧ Iv ow' ρ' ∧ μ ow' ρ' < μ ow2 ρ2, fun σ' H' hN => ?_, ?_⟩
    · obtain ⟨T', ow', ρ', G', a, b, c⟩ := hN
      exact ⟨_, c, T', ow', ρ', G', a, b, rfl⟩
    · exact hb.run _ _ _ h4 X hX S Gb G0 H0 T2 σ2 G3 H3 _ k3 ⟨fun T5 ow5 ρ5 σ5 G5 H5 k5 q5 => ⟨T5, ow5, ρ5, G5, k5, q5.1, q5.2⟩, d.rt, fun T5 ow5 ρ5 σ5 G5 H5 k5 q5 => d.nx _ _ _ _ _ _ k5 q5, fun T5 ow5 ρ5 σ5 G5 H5 k5 q5 => ⟨T5, ow5, ρ5, G5, k5, q5.1, q5.2⟩⟩
  | false => exact iteF (d.nx _ _ _ _ _ _ k3 h3)⟩
end
end Qm

namespace Qm
open PySem PySem.Spec PyProof.Rows L2

/-! ### comprehensions -/
def Lx.blk (L : Lx) (scope : Scope) : Lx := { L with sc := relS scope L.sc, df := false }
theorem cxs_blk {L : Lx} {X : Cx} {s : Shared} {H : Hp} {scope : Scope} {cl : List (Str × Addr)} {C : Addr} {fp : List Addr} (hX : CxS L X) : CxS (L.blk scope) (X.blk s H scope (compEnvC scope cl C X.env) fp) :=
  ⟨hX.p, hX.w, hX.K, hX.mg, hX.base, hX.n, hX.nd, (by
    show relS scope X.env.scope = _
    rw [hX.sc]
    rfl), hX.calm, hX.room, (fun z => nomatch z), (fun z => nomatch z)⟩
def wipeD (ρ : Rho) : List Nat → Rho
  | [] => ρ
  | v :: vs => (wipeD ρ vs).set v .u
theorem RS.wipe {S T : Addr} {G : Hp} {ρ : Rho} {σ : L2.St} (h : RS S T G ρ σ) : ∀ vs : List Nat, RS S T G (wipeD ρ vs) (L2.wipe σ vs)
  | [] => h
  | v :: vs => (RS.wipe h vs).put (x := .u) trivial
theorem wipe_in {σ : L2.St} {i : Nat} : ∀ {vs : List Nat}, i ∈ vs → i < σ.length → (L2.wipe σ vs)[i]? = some none
  | [], h, _ => by simp at h
  | v :: vs, h, hl => by
    show ((L2.wipe σ vs).set v none)[i]? = _
    by_cases e : v = i
    · subst e
      exact List.getElem?_set_self (by rw [wipe_length]; exact hl)
    · rw [List.getElem?_set_ne e]
      exact wipe_in ((List.mem_cons.mp h).resolve_left (Ne.symm e)) hl
theorem wipe_out {σ : L2.St} {i : Nat} : ∀ {vs : List Nat}, i ∉ vs → (L2.wipe σ vs)[i]? = σ[i]?
  | [], _ => rfl
  | v :: vs, h => by
    show ((L2.wipe σ vs).set v none)[i]? = _
    rw [List.getElem?_set_ne (fun e => h (by rw [e]; exact List.mem_cons_self))]
    exact wipe_out fun z => h (List.mem_cons_of_mem _ z)
theorem wipe_eq {σ σ' : L2.St} {vs : List Nat} (hl : σ'.length = (L2.wipe σ vs).length) (h : ∀ i, i ∉ vs → σ'[i]? = (L2.wipe σ vs)[i]?) : L2.wipe σ' vs = L2.wipe σ vs := by
  apply List.ext_getElem?
  intro i
  by_cases hi : i ∈ vs
  · by_cases hlt : i < σ.length
    · rw [wipe_in hi hlt, wipe_in hi (by rw [hl, wipe_length]; exact hlt)]
    · rw [List.getElem?_eq_none (by rw [wipe_length, hl, wipe_length]; omega), List.getElem?_eq_none (by rw [wipe_length]; omega)]
  · rw [wipe_out hi, h i hi]
/-- a heap's object becomes known -/
theorem Gr.know {S D : Addr} {G1 H1 G' H' : Hp} {o : HO} (w1 : Wd S G1 H1) (g : Gr S G1 H1 G' H') (w : Wd S G' H') (n : H1 D = none) (nd : G' D = none) (e : H' D = some o) : Gr S G1 H1 (upd G' D o) H' ∧ Wd S (upd G' D o) H' := by
  have hs : D ≠ S := w1.ne n
  refine ⟨⟨g.keep, fun b x q => ?_, fun b x q => ?_, g.dom⟩, fun b x q => ?_, ?_, ?_⟩
  · rw [upd_ne (ne_of_none (w1.sub _ _ q) n)]
    exact g.grow _ _ q
  · rw [upd_ne (ne_of_none q n)]
    exact g.old _ _ q
  · by_cases hb : b = D
    · subst hb
      rw [upd_same] at q
      rw [← q]
      exact e
    · rw [upd_ne hb] at q
      exact w.sub _ _ q
  · rw [upd_ne hs.symm]
    exact w.free
  · obtain ⟨c, ns, cell, k, h1, h2⟩ := w.strm
    exact ⟨c, ns, cell, k, by rw [upd_ne (ne_of_none h1 nd)]; exact h1, h2⟩
/-- an object that came behind changes -/
theorem Gr.mut {S D : Addr} {G1 H1 G' H' : Hp} {o u : HO} (g : Gr S G1 H1 G' H') (n : H1 D = none) : Gr S G1 H1 G' (upd H' D o) :=
  ⟨fun b x hb q => by rw [upd_ne (ne_of_none q n)]; exact g.keep b x hb q, g.grow, g.old, fun b x q => by
    obtain ⟨y, e⟩ := g.dom b x q
    exact ⟨y, by rw [upd_ne (ne_of_none q n)]; exact e⟩⟩
section
variable {L : Lx} {tg iter elt : Expr} {wi : DTI} {ws : List Nat} {g : TG} {tgd : DTG} {te : DTE} {pos : Pos} {scope : Scope} {own : List (Str × Nat)} {vs : List Nat}
def dLc (wi : DTI) (g : DTG) (te : DTE) (vs : List Nat) (ow : Ow) (ρ : Rho) (Q : PyData → Prop) : Prop := wi ow ρ fun ds => ds.length ≤ 100000 ∧ ∃ Iv : Nat → List PyData → Prop, Iv 0 [] ∧
  (∀ (i : Nat) (d : PyData) (acc : List PyData), ds[i]? = some d → Iv i acc → acc.length = i → g d (wipeD ρ vs) fun ρ' => te ow ρ' fun x => Iv (i + 1) (acc ++ [x])) ∧ ∀ acc, Iv ds.length acc → acc.length = ds.length → Q (.list acc)
/-- the element's reading, in whatever block -/
def tU (X : Cx) (scope : Scope) (elt : Expr) : TE := fun σ H Q => ∀ (s : Shared) (H0 : Hp) (C : Addr) (cl : List (Str × Addr)) (fp : List Addr), WE (X.blk s H0 scope (compEnvC scope cl C X.env) fp) elt σ H Q
theorem lc_run {X : Cx} {S T : Addr} {ow : Ow} {ρ : Rho} {σ : L2.St} {G H : Hp} {Q : PyData → Prop} {Q' : VK} {w0 : TI} (hX : CxS L X)
    (hw : ∀ ow ρ Q, wi ow ρ Q → ∀ (S T : Addr) (σ : L2.St) (G H : Hp) (R : It → Hp → Prop), Kn S T ow ρ σ G H → (∀ J ds G' H', Gr S G H G' H' → Wd S G' H' → ItD S J ds G' → Q ds → R J H') → w0 σ H R)
    (hg : Gd (L.blk scope) tg ws g tgd) (hws : ∀ i ∈ ws, i ∈ vs) (he : Pd (L.blk scope) elt te) (h : dLc wi tgd te vs ow ρ Q) (k : Kn S T ow ρ σ G H)
    (q : ∀ d v G' H', Gr S G H G' H' → Wd S G' H' → Rp S G' d v → Q d → Q' v H') : tLc w0 g tYes (tU X scope elt) vs σ H Q' := by
  refine hw ow ρ _ h S T σ G H _ k fun J ds G1 H1 g1 w1 it h1 => ?_
  obtain ⟨hz, Iv, i0, turn, fin⟩ := h1
  intro D hD
  have k1 := k.step g1 w1
  have hDS : D ≠ S := w1.ne hD
  refine ⟨fun i m H' => ∃ G' acc avs, Gr S G1 H1 G' H' ∧ Wd S G' H' ∧ G' D = none ∧ H' D = some (.lst avs) ∧ RpL S G' acc avs ∧ Iv i acc ∧ acc.length = i ∧ i ≤ ds.length ∧ m = ds.length - i, ⟨_, G1, [], [], Gr.own hD, w1.own hD, w1.sub.free hD, upd_same, .nil, i0, rfl, Nat.zero_le _, rfl⟩, fun i m H2 hW => ?_⟩
  obtain ⟨G2, acc, avs, g2, w2, nd, eD, ra, iv, hl, hle, rfl⟩ := hW
  by_cases hlt : i < ds.length
  · have hd2 : ds[i]? = some ds[i] := List.getElem?_eq_getElem hlt
    obtain ⟨hgo, hy⟩ := it.item i G2 H2 _ hd2 g2.grow w2
    refine .inr ⟨hgo, fun H' => ∃ G' acc avs, Gr S G1 H1 G' H' ∧ Wd S G' H' ∧ G' D = none ∧ H' D = some (.lst avs) ∧ RpL S G' acc avs ∧ Iv (i + 1) acc ∧ acc.length = i + 1, fun H' hN => ?_, fun v H3 y3 => ?_⟩
    · obtain ⟨G', acc', avs', a, b, c, d, e, f, l⟩ := hN
      exact ⟨ds.length - (i + 1), by omega, G', acc', avs', a, b, c, d, e, f, l, hlt, rfl⟩
    · obtain ⟨G3, g3, w3, r3⟩ := hy v H3 y3
      have g13 := g2.trans g3
      have kb : Kn S T ow (wipeD ρ vs) (L2.wipe σ vs) G3 H3 := ⟨w3, (k1.step g13 w3).ow, (k1.step g13 w3).rs.wipe vs⟩
      refine hg.rd S T ow _ G3 H3 _ _ v _ _ kb r3 (turn i _ acc hd2 iv hl) fun σ4 ρ4 r4 l4 o4 q4 => ?_
      refine ⟨wipe_eq l4 fun j hj => o4 j fun z => hj (hws j z), ?_⟩
      simp only [tYes, if_true]
      intro s0 H0 C cl fp
      refine he.run _ _ _ q4 _ (cxs_blk hX) S T σ4 G3 H3 _ ⟨w3, kb.ow, r4⟩ fun x u G5 H5 g5 w5 r5 h5 => ?_
      have e5 : H5 D = some (.lst avs) := g5.keep _ _ hDS (g3.keep _ _ hDS eD)
      have n5 : G5 D = none := by rw [g5.old _ _ (g3.keep _ _ hDS eD), g3.old _ _ eD]; exact nd
      have la : avs.length = i := by rw [ra.length, hl]
      refine ⟨avs, e5, ?_, G5, acc ++ [x], avs ++ [u], (g13.trans g5).mut (u := .lst avs) hD, w5.mut n5 hDS, n5, upd_same, (ra.mono (g3.trans g5).grow).append (.cons r5 .nil), h5, by rw [List.length_append, hl]; rfl⟩
      have := small_line hz
      omega
  · have e : i = ds.length := by omega
    subst e
    obtain ⟨g6, w6⟩ := Gr.know w1 g2 w2 hD nd eD
    exact .inl ⟨it.stop G2 H2 g2.grow w2, q _ _ _ H2 (g1.trans g6) w6 (.lst upd_same (ra.mono (same_new nd))) (fin acc iv hl)⟩
theorem blk_of {X : Cx} (hX : CxS L X) (h : blkC L.N L.sc scope own = true) : BlkOk X.N X.env.scope scope own := by
  rw [hX.n, hX.sc]
  exact blkOk_by h
theorem pd_lc (hi : Ide L tg iter wi) (ok : blkC L.N L.sc scope own = true) (hg : Gd (L.blk scope) tg ws g tgd) (hws : ∀ i ∈ ws, i ∈ own.map (·.2)) (he : Pd (L.blk scope) elt te) (hs : ∀ env x, foldedSetIterable iter env x = pure x := by intro _ _; rfl) :
    Pd L (.ListComp elt [⟨tg, iter, [], 0⟩] scope pos) (dLc wi tgd te (own.map (·.2))) := ⟨fun ow ρ Q h X hX S T σ G H Q' k q => by
  obtain ⟨w0, hpi, hw⟩ := hi.run X hX
  exact WE.of (pe_lc (te := tU X scope elt) hX.calm (by rw [hX.n]; exact hX.nd) hpi (blk_of hX ok) (fun s H C cl fp => hg.pg _ (cxs_blk hX)) (fun _ _ _ _ _ => pts_nil) (fun s H C cl fp => ⟨fun pins s' _ _ _ I h => h s H C cl fp pins s' I⟩) (hs X.env)) (lc_run hX hw hg hws he h k q)⟩
theorem sd_setLc {i : Nat} {y : Str} {py spos : Pos} (hy : L.N[i]? = some y) (hyl : L.sc.names.lookup y = some .local) (hk : L.sc.kind = .function) (hln : (py.line == pos.line) = true) (ha : (scope.names.any fun (n, k) => n == y && (k == .local || k == .cell)) = false)
    (hi : Ide L tg iter wi) (ok : blkC L.N L.sc scope own = true) (hg : Gd (L.blk scope) tg ws g tgd) (hws : ∀ i ∈ ws, i ∈ own.map (·.2)) (he : Pd (L.blk scope) elt te) (hs : ∀ env x, foldedSetIterable iter env x = pure x := by intro _ _; rfl) :
    Sd L (.Assign [.Name y py] (.ListComp elt [⟨tg, iter, [], 0⟩] scope pos) spos) (dAsg (dLc wi tgd te (own.map (·.2))) (gN i)) := ⟨fun D ow ρ h X hX S Gb G0 H0 T σ G H D' k d => by
  obtain ⟨w0, hpi, hw⟩ := hi.run X hX
  have hyl' : X.env.scope.names.lookup y = some .local := by rw [hX.sc]; exact hyl
  refine WS.of (ps_setLc (te := tU X scope elt) hX.calm (by rw [hX.n]; exact hX.nd) (by rw [hX.n]; exact hy) hyl' (sw_true (by rw [hX.sc]; exact hk) hyl' hln ha) hpi (blk_of hX ok) (fun s H C cl fp => hg.pg _ (cxs_blk hX)) (fun _ _ _ _ _ => pts_nil) (fun s H C cl fp => ⟨fun pins s' _ _ _ I h => h s H C cl fp pins s' I⟩) (hs X.env)) ?_
  exact lc_run (Q' := fun x H1 => gName i x σ H1 D'.nx) hX hw hg hws he h k.kn fun x v G1 H1 g1 w1 r1 h1 => d.nx T ow _ _ G1 H1 ((k.step g1 w1).rs ((k.step g1 w1).kn.rs.putD r1)) h1⟩
end
end Qm

namespace Qm
open PySem PySem.Spec PyProof.Rows L2

/-! ### a def's own list, its own dict -/
def selO : Rho → Nat → Prop → Prop
  | [], _, _ => False
  | .own :: _, 0, P => P
  | .u :: _, 0, _ => False
  | .d _ :: _, 0, _ => False
  | _ :: r, i + 1, P => selO r i P
theorem selO_ex : ∀ {ρ : Rho} {i : Nat} {P : Prop}, selO ρ i P → ρ[i]? = some .own ∧ P
  | .own :: _, 0, _, h => ⟨rfl, h⟩
  | .u :: _, 0, _, h => h.elim
  | .d _ :: _, 0, _, h => h.elim
  | .d _ :: r, i + 1, _, h => by
    obtain ⟨e, q⟩ := selO_ex (ρ := r) h
    exact ⟨by simpa using e, q⟩
  | .u :: r, i + 1, _, h => by
    obtain ⟨e, q⟩ := selO_ex (ρ := r) h
    exact ⟨by simpa using e, q⟩
  | .own :: r, i + 1, _, h => by
    obtain ⟨e, q⟩ := selO_ex (ρ := r) h
    exact ⟨by simpa using e, q⟩
def noOwn : Rho → Bool
  | [] => true
  | .own :: _ => false
  | .u :: r => noOwn r
  | .d _ :: r => noOwn r
theorem noOwn_at : ∀ {ρ : Rho} {i : Nat}, noOwn ρ = true → ρ[i]? ≠ some .own
  | [], i, _ => by simp
  | .own :: _, _, h => nomatch h
  | .u :: r, 0, _ => by simp
  | .d _ :: r, 0, _ => by simp
  | .u :: r, i + 1, h => by
    have := noOwn_at (ρ := r) (i := i) h
    simpa using this
  | .d _ :: r, i + 1, h => by
    have := noOwn_at (ρ := r) (i := i) h
    simpa using this
section
variable {S T T' : Addr} {Gb G0 H0 G H G' H' : Hp} {ow : Ow} {ρ : Rho} {σ : L2.St} {i : Nat}
theorem RS.reT (h : RS S T G ρ σ) (n : noOwn ρ = true) : RS S T' G ρ σ := ⟨h.len, fun j s e => by
  obtain ⟨o, e1, r⟩ := h.at_ j s e
  refine ⟨o, e1, ?_⟩
  cases s with
  | u => trivial
  | d x => exact r
  | own => exact absurd e (noOwn_at n)⟩
theorem Kn.own (k : Kn S T ow ρ σ G H) (e : ρ[i]? = some .own) : σ[i]? = some (some (.ref T)) := by
  obtain ⟨o, e1, r⟩ := k.rs.at_ i _ e
  have r' : o = some (.ref T) := r
  rw [e1, r']
theorem entry_none (k : Kf S Gb G0 H0 T ow ρ σ G H) {p : Addr} (n : H p = none) : H0 p = none := by
  cases q : H0 p with
  | none => rfl
  | some o =>
    obtain ⟨o', e⟩ := k.gr.dom p o q
    rw [n] at e
    cases e
/-- a new own thing -/
theorem Kf.newOwn {p : Addr} {o : HO} {ow' : Ow} (k : Kf S Gb G0 H0 T .no ρ σ G H) (no : noOwn ρ = true) (n : H p = none) (hf : OwF H0 p ow') (ho : OwS S p G (upd H p o) ow') : Kf S Gb G0 H0 p ow' (ρ.set i .own) (σ.set i (some (.ref p))) G (upd H p o) :=
  ⟨k.lb, k.gr.trans (Gr.own n), hf, k.kn.wd.own n, ho, (k.kn.rs.reT no).put (x := .own) rfl⟩
end
theorem mut_gr {S T : Addr} {G0 H0 G H : Hp} {o : HO} (g : Gr S G0 H0 G H) (n : H0 T = none) : Gr S G0 H0 G (upd H T o) := g.mut (u := o) n
section
variable {L : Lx} {e c : Expr} {te td ti tv : DTE} {pos p p0 p1 p2 p3 : Pos} {i : Nat} {x : Str}
/-- x = [] -/
def dNewL (i : Nat) (D : De) (ow : Ow) (ρ : Rho) : Prop := match ow with
  | .no => noOwn ρ = true ∧ D.nx (.l []) (ρ.set i .own)
  | _ => False
theorem sd_newL (hi : L.N[i]? = some x) (hx : LocD L x) : Sd L (.Assign [.Name x p1] (.List [] p2) pos) (dNewL i) := ⟨fun D ow ρ h X hX S Gb G0 H0 T σ G H D' k d => by
  cases ow with
  | no =>
    refine WS.of (ps_asg (pe_lst pa_nil) (pg_of hX hi hx)) ⟨Nat.zero_le _, fun p n => ?_⟩
    exact d.nx p _ _ _ _ _ (k.newOwn (ow' := .l []) h.1 n (entry_none k n) ⟨k.kn.wd.ne n, k.kn.wd.sub.free n, [], upd_same, .nil⟩) h.2
  | _ => exact False.elim h⟩
/-- x.append(e) -/
def dApp (i : Nat) (te : DTE) (D : De) (ow : Ow) (ρ : Rho) : Prop := match ow with
  | .l ds => selO ρ i (te (.l ds) ρ fun y => ds.length ≤ 100000 ∧ D.nx (.l (ds ++ [y])) ρ)
  | _ => False
theorem sd_app (hi : L.N[i]? = some x) (hv : Vis L.sc x) (he : Pd L e te) (hd : (x == ("__debug__" : Str)) = false := by decide) (hcd : (x == ("__classdict__" : Str)) = false := by decide)
    (hbase : ∀ env, attributeBase (.Name x p1) "append" env (eval (.Name x p1) env) = eval (.Name x p1) env := by intro _; rfl)
    (hfew : ∀ env, ((backTo p3 (starEach [e] env)).all (fun x => !x.1) && (backToKw p3 (keywordEach [] env)).all (fun x => x.1.isSome)
      && decide ([e].length + ([] : List Keyword).length + (if ([] : List Keyword).isEmpty then 0 else 1) < 30)) = true := by intro _; rfl)
    (hline : (p2.endLine == p3.line) = true := by rfl) (hs : ∀ env, starEach [e] env = [(false, eval e env)] := by intro _; rfl) :
    Sd L (.Expr (.Call (.Attribute (.Name x p1) "append" p2) [e] [] p3) pos) (dApp i te) := ⟨fun D ow ρ h X hX S Gb G0 H0 T σ G H D' k d => by
  refine WS.of (ps_expr (pe_bm PySem.F.plainAttrs_list PySem.F.slot_list_append PySem.F.type_list_append mt_append (pe_var (i := i) (by rw [hX.n]; exact hi) (by rw [hX.sc]; exact hv) hd hcd) (pa_cons we pa_nil (hs X.env)) (hbase X.env) (hfew X.env) hline (hs X.env) rfl)) ?_
  cases ow with
  | l ds =>
    obtain ⟨e1, h1⟩ := selO_ex h
    have es := k.kn.own e1
    obtain ⟨hTS, hGT, vs, eT, r⟩ := k.kn.ow
    refine ⟨.ref T, es, .inl ⟨rfl, _, SqL.of eT⟩, he.run _ _ _ h1 X hX S T σ G H _ k.kn fun y v G1 H1 g1 w1 r1 h2 => ?_⟩
    have k1 := k.step g1 w1
    obtain ⟨_, hGT1, vs1, eT1, r2⟩ := k1.kn.ow
    have e3 : vs1 = vs := by
      have := g1.keep T _ hTS eT
      rw [eT1] at this
      cases this
      rfl
    subst e3
    refine ⟨T, vs1, v, rfl, rfl, eT1, ?_, ?_⟩
    · rw [r2.length]
      exact Nat.lt_of_le_of_lt h2.1 (by decide)
    · refine d.nx T (.l (ds ++ [y])) _ _ _ _ ⟨k1.lb, mut_gr k1.gr k.fr, k.fr, w1.mut hGT1 hTS, ⟨hTS, hGT1, _, upd_same, r2.append (.cons r1 .nil)⟩, k1.kn.rs⟩ h2.2
  | no => exact False.elim h
  | d n f => exact False.elim h⟩
/-- tuple(x) -/
def dTupO (i : Nat) (ow : Ow) (ρ : Rho) (Q : PyData → Prop) : Prop := match ow with
  | .l ds => selO ρ i (Q (.tuple ds))
  | _ => False
theorem pd_tupO (hg : L.sc.names.lookup ("tuple" : Str) = some .globalImplicit) (hm : L.g.mg "tuple" = none) (hi : L.N[i]? = some x) (hv : Vis L.sc x) (hd : (x == ("__debug__" : Str)) = false := by decide) (hcd : (x == ("__classdict__" : Str)) = false := by decide) :
    Pd L (.Call (.Name "tuple" p) [.Name x p1] [] pos) (dTupO i) := ⟨fun ow ρ Q h X hX S T σ G H Q' k q => by
  refine WE.of (pe_callTy call_tuple_of (gl_of hX hg) (mg_of0 hX hm) (by decide +kernel) (pa_cons (pe_var (i := i) (by rw [hX.n]; exact hi) (by rw [hX.sc]; exact hv) hd hcd) pa_nil)) ?_
  cases ow with
  | l ds =>
    obtain ⟨e1, h1⟩ := selO_ex h
    obtain ⟨hTS, hGT, vs, eT, r⟩ := k.ow
    exact ⟨.ref T, k.own e1, _, _, rfl, .inl ⟨SqL.of eT, new_tup k.wd r fun v G2 H2 g2 w2 r2 => q _ v G2 H2 g2 w2 r2 h1⟩⟩
  | no => exact False.elim h
  | d n f => exact False.elim h⟩
/-- x = {k: v} -/
def dNewD (i : Nat) (tk tv : DTE) (D : De) (ow : Ow) (ρ : Rho) : Prop := match ow with
  | .no => tk .no ρ fun k => intD k fun n => tv .no ρ fun y => noOwn ρ = true ∧ D.nx (.d 1 fun j => if j = n then some y else none) (ρ.set i .own)
  | _ => False
theorem intD_ex {x : PyData} {Q : Int → Prop} (h : intD x Q) : ∃ n, x = .int n ∧ Q n := by
  cases x with
  | int n => exact ⟨n, rfl, h⟩
  | _ => exact False.elim h
theorem sd_newD {ek ev : Expr} (hi : L.N[i]? = some x) (hx : LocD L x) (hk : Pd L ek te) (hv : Pd L ev tv) : Sd L (.Assign [.Name x p1] (.Dict [some ek] [ev] p2) pos) (dNewD i te tv) := ⟨fun D ow ρ h X hX S Gb G0 H0 T σ G H D' k d => by
  cases ow with
  | no =>
    refine WS.of (ps_asg (pe_disp (pps_cons we we pps_nil) rfl rfl (fun z => by cases z) (by show 1 ≤ 15; decide)) (pg_of hX hi hx)) fun p n => ?_
    have k0 : Kn S T .no ρ σ G (upd H p (.dK [])) := k.kn.step (Gr.own n) (k.kn.wd.own n)
    refine hk.run _ _ _ h X hX S T σ G _ _ k0 fun x1 v1 G1 H1 g1 w1 r1 h1 => ?_
    obtain ⟨m, rfl, h2⟩ := intD_ex h1
    cases r1
    refine hv.run _ _ _ h2 X hX S T σ G1 H1 _ (k0.step g1 w1) fun y u G2 H2 g2 w2 r2 h3 => ?_
    have pS : p ≠ S := k.kn.wd.ne n
    have e1 : H1 p = some (.dK []) := g1.keep _ _ pS upd_same
    have e2 : H2 p = some (.dK []) := g2.keep _ _ pS e1
    have n2 : G2 p = none := by rw [g2.old _ _ e1, g1.old _ _ upd_same]; exact k.kn.wd.sub.free n
    refine ⟨e2, [(Sum.inl m, u)], rfl, (by show 1 ≤ 15; decide), ?_⟩
    refine d.nx p (.d 1 fun j => if j = m then some y else none) (ρ.set i .own) _ G2 _ ⟨k.lb.trans (g1.trans g2).grow, mut_gr ((k.gr.trans (Gr.own n)).trans (g1.trans g2)) (entry_none k n), entry_none k n, w2.mut n2 pS, ⟨pS, n2, _, upd_same, Nat.le_refl _, fun j d hj => ?_⟩, ((k.kn.rs.mono (g1.trans g2).grow).reT h3.1).put (x := .own) rfl⟩ h3.2
    by_cases hjm : j = m
    · subst hjm
      have hj := (show (if j = j then some y else _) = some d from hj)
      rw [if_pos rfl] at hj
      cases hj
      exact ⟨u, valV_pos (p := (Sum.inl j, u)) rfl, r2⟩
    · have hj := (show (if j = m then some y else none) = some d from hj)
      rw [if_neg hjm] at hj
      cases hj
  | _ => exact False.elim h⟩
/-- x[k] -/
def dGetO (i : Nat) (tk : DTE) (ow : Ow) (ρ : Rho) (Q : PyData → Prop) : Prop := match ow with
  | .d n f => selO ρ i (tk (.d n f) ρ fun k => intD k fun j => optD (f j) Q)
  | _ => False
theorem pd_getO {ek : Expr} (hi : L.N[i]? = some x) (hv : Vis L.sc x) (hk : Pd L ek te) (hs : ∀ o i, subscripted ek false o i = operate [o, i] (getItem o i)) (hd : (x == ("__debug__" : Str)) = false := by decide) (hcd : (x == ("__classdict__" : Str)) = false := by decide) :
    Pd L (.Subscript (.Name x p1) ek pos) (dGetO i te) := ⟨fun ow ρ Q h X hX S T σ G H Q' k q => by
  refine WE.of (pe_dget (hu_of hX.room) (pe_var (i := i) (by rw [hX.n]; exact hi) (by rw [hX.sc]; exact hv) hd hcd) we hs) ?_
  cases ow with
  | d n f =>
    obtain ⟨e1, h1⟩ := selO_ex h
    refine ⟨.ref T, k.own e1, hk.run _ _ _ h1 X hX S T σ G H _ k fun x1 v1 G1 H1 g1 w1 r1 h2 => ?_⟩
    obtain ⟨m, rfl, h3⟩ := intD_ex h2
    cases r1
    obtain ⟨hTS, hGT, kvs, eT, hl, r⟩ := (k.step g1 w1).ow
    obtain ⟨y, e2, h4⟩ := optD_ex h3
    obtain ⟨u, e3, r3⟩ := r m y e2
    refine ⟨T, u, rfl, ?_, q y u G1 H1 g1 w1 r3 h4⟩
    rw [← e3]
    exact DGet.k (k := Sum.inl m) eT
  | no => exact False.elim h
  | l ds => exact False.elim h⟩
/-- x[k] = v -/
def dPutO (i : Nat) (tk tv : DTE) (D : De) (ow : Ow) (ρ : Rho) : Prop := match ow with
  | .d n f => selO ρ i (tv (.d n f) ρ fun y => tk (.d n f) ρ fun k => intD k fun j => n ≤ 100000 ∧ D.nx (.d (n + 1) fun j' => if j' = j then some y else f j') ρ)
  | _ => False
theorem sd_put {ek ev : Expr} (hi : L.N[i]? = some x) (hv : Vis L.sc x) (hk : Pd L ek te) (he : Pd L ev tv) (hs : ∀ env, swapsWith ev (some (.Subscript (.Name x p1) ek p2)) pos.line env = pure false := by intro _; rfl) (hd : (x == ("__debug__" : Str)) = false := by decide) (hcd : (x == ("__classdict__" : Str)) = false := by decide) :
    Sd L (.Assign [.Subscript (.Name x p1) ek p2] ev pos) (dPutO i te tv) := ⟨fun D ow ρ h X hX S Gb G0 H0 T σ G H D' k d => by
  refine WS.of (ps_dput (hu_of hX.room) (pe_var (i := i) (by rw [hX.n]; exact hi) (by rw [hX.sc]; exact hv) hd hcd) we we (hs X.env)) ?_
  cases ow with
  | d n f =>
    obtain ⟨e1, h1⟩ := selO_ex h
    refine he.run _ _ _ h1 X hX S T σ G H _ k.kn fun y u G1 H1 g1 w1 r1 h2 => ⟨.ref T, (k.kn.step g1 w1).own e1, ?_⟩
    refine hk.run _ _ _ h2 X hX S T σ G1 H1 _ (k.kn.step g1 w1) fun x1 v1 G2 H2 g2 w2 r2 h3 => ?_
    obtain ⟨m, rfl, h4⟩ := intD_ex h3
    cases r2
    have k2 := (k.step g1 w1).step g2 w2
    obtain ⟨hTS, hGT, kvs, eT, hl, r⟩ := k2.kn.ow
    refine ⟨T, _, rfl, DPut.k (k := Sum.inl m) eT (Nat.lt_of_le_of_lt hl (Nat.lt_of_le_of_lt h4.1 (by decide))), ?_⟩
    refine d.nx T (.d (n + 1) fun j' => if j' = m then some y else f j') ρ _ G2 _ ⟨k2.lb, mut_gr k2.gr k.fr, k.fr, w2.mut hGT hTS, ⟨hTS, hGT, _, upd_same, Nat.le_trans (length_putK _ _ _) (Nat.succ_le_succ hl), fun j d hj => ?_⟩, k2.kn.rs⟩ h4.2
    rw [valV_put]
    by_cases hjm : j = m
    · subst hjm
      have hj := (show (if j = j then some y else _) = some d from hj)
      rw [if_pos rfl] at hj
      cases hj
      exact ⟨u, if_pos rfl, r1.mono g2.grow⟩
    · have hj := (show (if j = m then some y else f j) = some d from hj)
      rw [if_neg hjm] at hj
      obtain ⟨v, h5, h6⟩ := r j d hj
      exact ⟨v, by rw [if_neg (fun z => hjm (Sum.inl.inj z))]; exact h5, h6⟩
  | no => exact False.elim h
  | l ds => exact False.elim h⟩
end
end Qm

namespace Qm
open PySem PySem.Spec PyProof.Rows L2

/-! ### t[::-1] -/
theorem slp_back {prog : Program} {w : World} {A : Around} {E : Value → Shared → Prop} {s : Shared} {sl : Addr} {vl vu vs : Value} {n : Nat} {Q : Int × Int × Nat → Shared → Prop} (hs : s.heap.IsSliceOf sl vl vu vs) (pl : IsPart vl none) (pu : IsPart vu none) (ps : IsPart vs (some (-1)))
    (h : Q ((n : Int) - 1, -1, n) s) : wpAny (model prog w) A (Builtin.Slice.sliceApplied (.ref sl) (pure (n : Int))) Q E s := by
  obtain ⟨os, hos, hcs, hds⟩ := id hs
  unfold Builtin.Slice.sliceApplied Builtin.Slice.sliceFields
  refine wpAny_bind (wpAny_bind (wpAny_field hos hds (x := vl) rfl (wpAny_bind (wpAny_field hos hds (x := vu) rfl (wpAny_bind (wpAny_field hos hds (x := vs) rfl (wpAny_pure ?_)))))))
  refine wpAny_bind (HT.slicePart_ ps ?_)
  show wpAny _ _ (if ((-1 : Int) == 0) = true then _ else _) _ _ s
  rw [if_neg (by decide)]
  refine wpAny_bind (HT.slicePart_ pl (wpAny_bind (HT.slicePart_ pu (wpAny_bind (wpAny_pure ?_)))))
  show wpAny _ _ (pure ((n : Int) - 1, (-1 : Int), Builtin.Slice.slicePlaces ((n : Int) - 1) (-1) (-1))) _ _ s
  have e : Builtin.Slice.slicePlaces ((n : Int) - 1) (-1) (-1) = n := by
    unfold Builtin.Slice.slicePlaces
    simp only [show ¬ ((-1 : Int) > 0) by decide, if_false, Int.neg_neg, Int.ediv_one]
    split <;> omega
  rw [e]
  exact wpAny_pure h
theorem pick_back (xs : Array Value) : ((List.range xs.size).filterMap fun (m : Nat) => xs[(((xs.size : Int) - 1) + (m : Int) * (-1)).toNat]?).toArray = xs.toList.reverse.toArray := by
  congr 1
  apply List.ext_getElem?
  intro i
  have aux : ∀ l : List Nat, (∀ m ∈ l, m < xs.size) → l.filterMap (fun (m : Nat) => xs[(((xs.size : Int) - 1) + (m : Int) * (-1)).toNat]?) = l.map fun (m : Nat) => xs.getD (xs.size - 1 - m) .none := by
    intro l
    induction l with
    | nil => intro _; rfl
    | cons m r ih =>
      intro hm
      have hm' : m < xs.size := hm m List.mem_cons_self
      have e1 : (((xs.size : Int) - 1) + (m : Int) * (-1)).toNat = xs.size - 1 - m := by omega
      have hlt : xs.size - 1 - m < xs.size := by omega
      have e2 : xs[(((xs.size : Int) - 1) + (m : Int) * (-1)).toNat]? = some (xs.getD (xs.size - 1 - m) .none) := by
        rw [e1]
        simp [Array.getD, hlt]
      rw [List.filterMap_cons_some (f := fun (m : Nat) => xs[(((xs.size : Int) - 1) + (m : Int) * (-1)).toNat]?) e2, List.map_cons, ih fun j hj => hm j (List.mem_cons_of_mem _ hj)]
  have e := aux (List.range xs.size) fun m hm => List.mem_range.mp hm
  rw [e, List.getElem?_map]
  by_cases hi : i < xs.size
  · rw [List.getElem?_range hi, List.getElem?_reverse (by simpa using hi)]
    have hlt : xs.size - 1 - i < xs.size := by omega
    simp [Array.getD, hlt]
  · rw [List.getElem?_eq_none (by simpa using hi), List.getElem?_eq_none (by simpa using hi)]
    rfl
theorem back_tup {prog : Program} {w : World} {A : Around} {E : Value → Shared → Prop} {s : Shared} {t sl : Addr} {items : Array Value} {vl vu vs : Value} {Q : Value → Shared → Prop} (ht : IsTup s.heap t items) (hs : s.heap.IsSliceOf sl vl vu vs) (pl : IsPart vl none) (pu : IsPart vu none) (ps : IsPart vs (some (-1)))
    (h : Q (.ref s.heap.objs.size) { s with heap := s.heap.push { cls := .type "tuple", data := .seq items.toList.reverse.toArray } }) (hsz : items.size ≤ sizeLine) : wpAny (model prog w) A (getItem (.ref t) (.ref sl)) Q E s := by
  have htake : sizeOk (.seq items.toList.reverse.toArray) := by
    show items.toList.reverse.toArray.size ≤ sizeLine
    rw [List.size_toArray, List.length_reverse, Array.length_toList]
    exact hsz
  obtain ⟨os, hos, hcs, hds⟩ := id hs
  have hTs : s.TypeIs (.ref sl) "slice" := ⟨os, hos, hcs⟩
  unfold getItem
  try with_reducible refine wpAny_holding ?_
  first | refine wpAny_bind (wpAny_pure ?_) | skip
  refine wpAny_bind (wpAny_sequenceKey ht.typeIs (by decide) ?_)
  refine wpAny_bind (wpAny_callSpecial?_slot (name := Str.ofString "__getitem__") ht.typeIs PyProof.Rows.slot_tuple_getitem
    (wpAny_call_entry PyProof.Rows.slot_tuple_getitem ht.typeIs entry_tuple_getitem ?_ (args_tuple_getitem _ _)))
  show wpAny _ _ (Builtin.Tuple.tupleItemsOf (.ref t) >>= _) _ _ s
  refine wpAny_bind (tupleItemsOf_ ht ?_)
  refine wpAny_bind (wpAny_typeOf hTs ?_)
  rw [if_pos (by decide)]
  refine wpAny_bind (slp_back hs pl pu ps ?_)
  have hno : ¬ (((((items.size : Int) - 1) == 0 && (-1 : Int) == 1) && items.size == items.size) = true) := by
    intro q
    rw [Bool.and_eq_true, Bool.and_eq_true] at q
    exact absurd q.1.2 (by decide)
  show wpAny _ _ (if ((((items.size : Int) - 1) == 0 && (-1 : Int) == 1) && items.size == items.size) = true then _ else _) _ _ s
  rw [if_neg hno, pick_back]
  first
    | exact wpAny_bind (m := Builtin.Tuple.tupleExact _) (wpAny_newObj_type (wpAny_pure ⟨_, rfl, wpAny_pure h⟩) htake)
    | exact wpAny_bind (m := Builtin.Tuple.tupleExact _) (wpAny_newObj_type (wpAny_bind (wpAny_pure (wpAny_pure ⟨_, rfl, wpAny_pure h⟩))) htake)
    | exact wpAny_bind (wpAny_bind (m := Builtin.Tuple.tupleExact _) (wpAny_newObj_type (wpAny_pure (wpAny_pure ⟨_, rfl, wpAny_pure h⟩)) htake))
    | exact wpAny_bind (wpAny_bind (m := Builtin.Tuple.tupleExact _) (wpAny_newObj_type (wpAny_pure ⟨_, rfl, wpAny_pure h⟩) htake))
section
variable {X : Cx} {e : Expr} {te : TE} {k : Nat} {p1 p2 p3 pos : Pos}
def tRevT (K : PySem.W.Frag) (te : TE) : TE := fun σ H Q => te σ H fun x H1 => ∃ a xs, x = .ref a ∧ SqT K H1 a xs ∧ ∀ p, H1 p = none → Q (.ref p) (upd H1 p (.tup xs.reverse))
theorem pe_revT (he : PE X e te) : PE X (.Subscript e (.Slice none none (some (.UnaryOp .USub (.Constant (.int 1) k p1) p2)) p3) pos) (tRevT X.K te) := by
  refine ⟨fun pins s σ H Q I h => ?_⟩
  refine Subscript_ (thn (he.run pins s σ H _ I h) fun v s1 ⟨x, H1, I1, r1, q1⟩ => ?_)
  obtain ⟨a, xs, ex, hx, q⟩ := q1
  subst ex
  cases r1
  have hst : PO X (some (.UnaryOp .USub (.Constant (.int 1) k p1) p2)) (tPart (tUn (rU fun i => .int (-i)) (tC (.int 1)))) := po_some (pe_un un_neg pe_int)
  refine wpAny_Slice (thn (po_none.run pins s1 σ H1 (fun o H2 => o = none ∧ H2 = H1) I1 ⟨rfl, rfl⟩) fun vl s2 ⟨l, H2, I2, pl, el, e2⟩ => ?_)
  subst el e2
  refine thn (po_none.run pins s2 σ H2 (fun o H3 => o = none ∧ H3 = H2) I2 ⟨rfl, rfl⟩) fun vu s3 ⟨u, H3, I3, pu, eu, e3⟩ => ?_
  subst eu e3
  refine thn (hst.run pins s3 σ H3 (fun o H4 => o = some (-1) ∧ H4 = H3) I3 ⟨1, rfl, -1, rfl, rfl, rfl⟩) fun vs s4 ⟨o, H4, I4, ps, eo, e4⟩ => ?_
  subst eo e4
  have I5 : Inv X pins σ H4 { s4 with heap := s4.heap.push { cls := .type "slice", data := .fields #[vl, vu, vs] } } := I4.kept (t' := s4.toks) fun b ob q => Heap.get?_push_of_some _ q
  obtain ⟨its, r, ht, hz⟩ := I5.tuple hx
  have hlen := r.length
  show wpAny (model X.prog X.w) X.A (subscriptTail e (.Slice none none (some (.UnaryOp .USub (.Constant (.int 1) k p1) p2)) p3) (.ref a) (.ref s4.heap.objs.size)) (EP X pins σ Q) X.xe { s4 with heap := s4.heap.push { cls := .type "slice", data := .fields #[vl, vu, vs] } }
  refine tail_any (ops := [.ref a, .ref s4.heap.objs.size]) ht.typeIs PyProof.Rows.slot_tuple_getitem.lookup ?_ (by with_unfolding_all rfl)
  refine back_tup ht (Heap.IsSliceOf.new _ vl vu vs) pl pu ps ?_ (by rw [List.size_toArray]; omega)
  refine ⟨.ref _, _, I5.laid (t' := s4.toks) (o := .tup xs.reverse) (fun b ob q => Heap.get?_push_of_some _ q) (Nat.le_refl _) ?_, rfl, q _ (I5.hok.fresh (Nat.le_refl _))⟩
  exact ⟨by rw [List.length_reverse]; exact hz, _, r.reverse, IsTup.new _ _⟩
end
def dRev (ta : DTE) (ow : Ow) (ρ : Rho) (Q : PyData → Prop) : Prop := ta ow ρ fun x => tupD x fun ds => Q (.tuple ds.reverse)
theorem pd_rev {L : Lx} {a : Expr} {ta : DTE} {k : Nat} {p1 p2 p3 pos : Pos} (ha : Pd L a ta) : Pd L (.Subscript a (.Slice none none (some (.UnaryOp .USub (.Constant (.int 1) k p1) p2)) p3) pos) (dRev ta) := ⟨fun ow ρ Q h X hX S T σ G H Q' kn q => by
  refine WE.of (pe_revT we) (ha.run _ _ _ h X hX S T σ G H _ kn fun x v G1 H1 g1 w1 r1 h1 => ?_)
  cases r1 with
  | tup e r => exact ⟨_, _, rfl, SqT.of (w1.sub _ _ e), new_tup w1 r.reverse fun v G2 H2 g2 w2 r2 => q _ v G2 H2 (g1.trans g2) w2 r2 h1⟩
  | _ => exact False.elim h1⟩

/-! ### sum of a tuple of ints -/
theorem sum_tup {prog : Program} {w : World} {A : Around} {E : Value → Shared → Prop} {s : Shared} {l : Addr} {its : List Value} {ns : List Int} {Q : Value → Shared → Prop} (hh : A.handled = none) (hl : IsTup s.heap l its.toArray) (hi : IntsAre its ns)
    (h : ∀ h' tk t', (∀ b o, s.heap.get? b = some o → h'.get? b = some o) → Q (.int ns.sum t') { s with heap := h', toks := tk }) : wpAny (model prog w) A (call (.builtin "sum") [.ref l]) Q E s := by
  obtain ⟨xs, e⟩ := hi.allInts.items
  have hn : numsOf (intItems xs).toList = ns := by rw [← e]; exact hi.numsOf
  rw [nums_intItems] at hn
  rw [e] at hl
  have ht : s.heap.IsTuple l (intItems xs) := hl
  have hlt : l < s.heap.objs.size := hl.lt
  refine call_sum_walkG (wpAny_pyIter_tuple ht ?_)
  refine ⟨_, _, _, _, _, _, numAt xs, rfl, Walks.tuple (A := A.in1) hh _ l (Nat.ne_of_lt hlt) (intItems xs), ⟨⟨_, Heap.get?_push_size _ rfl, rfl, rfl⟩, ht.at fun o q => Heap.get?_push_of_some _ q⟩, fun b hb => ?_, (fun _ _ => intItems_at), fun h' tk t' hk => ?_⟩
  · rw [Heap.size_push]
    have hb' : b = s.heap.objs.size ∨ b = l := by simpa using hb
    rcases hb' with z | z
    · rw [z]; exact Nat.lt_succ_self _
    · rw [z]; exact Nat.lt_succ_of_lt hlt
  · have := h h' tk t' fun b o q => hk b o (fun hm => by
      have e1 : b = s.heap.objs.size := by simpa using hm
      rw [e1] at q
      exact absurd (Heap.lt_size q) (Nat.lt_irrefl _)) (Heap.get?_push_of_some _ q)
    rw [show (intItems xs).size = xs.size by simp [intItems], preSum_eq, List.take_of_length_le (by simp), hn]
    exact this
def rSumT (K : PySem.W.Frag) : List V → Hp → VK → Prop := fun vs H Q => ∃ (a : Addr) (ns : List Int), vs = [V.ref a] ∧ SqT K H a (ns.map V.int) ∧ Q (.int ns.sum) H
theorem cr_sumT {X : Cx} (hc : X.calm = true) : CallR X (.builtin "sum") (rSumT X.K) := by
  intro pins s σ H vs us Q I r h
  obtain ⟨a, ns, rfl, hs, q⟩ := h
  obtain ⟨its, rv, hl, _⟩ := I.tuple hs
  rw [Vals.ref1 r]
  exact sum_tup (I.ok.hd hc) hl rv.ints fun h' tk t' hk => ⟨.int _, H, I.kept hk, ⟨_, rfl⟩, q⟩
def rdSum (x : PyData) (Q : PyData → Prop) : Prop := tupD x fun ds => intsD ds fun ns => Q (.int ns.sum)
theorem cd_sum {L : Lx} : CallD L (.builtin "sum") rdSum := fun X hX => ⟨_, cr_sumT hX.calm, fun S G H x v Q Q' w r h q => by
  obtain ⟨ds, rfl, h1⟩ := tupD_ex h
  obtain ⟨ns, e, h2⟩ := intsD_ex h1
  cases r with
  | tup ee r =>
    have ev := rpl_ints r e
    subst ev
    exact ⟨_, ns, rfl, SqT.of (w.sub _ _ ee), q _ _ G H (Gr.refl S G H) w (.int _) h2⟩⟩
end Qm

namespace Qm
open PySem PySem.Spec PyProof.Rows L2

/-! ### t * 0, t * 1 -/
theorem mul_one_tup (l : Addr) (items : Array Value) (n : Nat) (dd : Option Addr) (sl : Array (Option Value)) (u : Tok) :
    Meets (Builtin.«tuple.__mul__» ⟨[.ref l, .int 1 u], []⟩) (fun _ R s => s.heap.get? l = some { cls := .type "tuple", dict := dd, data := .seq items n, slots := sl } ∧ R (.ok (.ret (Value.ref l))) s) :=
  .of_wp fun prog w A R s h => by
    obtain ⟨hp, g, d, tk, os⟩ := s
    obtain ⟨hl, h⟩ := h
    have f1 := AutoSeq1.idx_int
    have c1 : (items.isEmpty || (1 : Int) == 1) = true := by simp
    wp_walk using AutoSeq1.wpAny_loadPart' hl
    repeat (first
      | (refine wpAny_ite_true (by rw [c1]) ?_; wp_walk using AutoSeq1.wpAny_loadPart' hl)
      | (refine wpAny_ite_true (decide_eq_true (by rw [c1])) ?_; wp_walk using AutoSeq1.wpAny_loadPart' hl))
    exact ⟨_, rfl, h⟩
theorem mul_nil_tup (l : Addr) (items : Array Value) (n : Nat) (dd : Option Addr) (sl : Array (Option Value)) (u : Tok) (hi : items.isEmpty = false) :
    Meets (Builtin.«tuple.__mul__» ⟨[.ref l, .int 0 u], []⟩) (fun _ R s => s.heap.get? l = some { cls := .type "tuple", dict := dd, data := .seq items n, slots := sl } ∧
      R (.ok (.ret (Value.ref s.heap.objs.size))) { s with heap := s.heap.push { cls := Value.type "tuple", data := Data.seq #[] }, toks := s.toks }) :=
  .of_wp fun prog w A R s h => by
    obtain ⟨hp, g, d, tk, os⟩ := s
    obtain ⟨hl, h⟩ := h
    have f1 := AutoSeq1.idx_int
    have c1 : (items.isEmpty || (0 : Int) == 1) = false := by rw [hi]; rfl
    have c2 : (decide ((0 : Int) ≤ 0) || items.isEmpty) = true := by simp
    wp_walk using AutoSeq1.wpAny_loadPart' hl
    exact ⟨_, rfl, h⟩
def rRepS (K : PySem.W.Frag) : R2 := fun x y H Q => ∃ l k xs, x = .ref l ∧ y = .int k ∧ SqT K H l xs ∧ xs ≠ [] ∧ ((k = 1 ∧ Q (.ref l) H) ∨ (k = 0 ∧ ∀ p, H p = none → Q (.ref p) (upd H p (.tup []))))
theorem op_repS {X : Cx} : OpR X (binaryOp .Mult) (rRepS X.K) := by
  intro pins s σ H x y v u Q I rx ry h
  obtain ⟨l, k, xs, rfl, rfl, hT, hne, q⟩ := h
  cases rx
  obtain ⟨t, rfl⟩ := ry
  obtain ⟨its, r, ⟨⟨cls, dd, data, sl⟩, ho, hc, n, hd⟩, hs⟩ := I.tuple hT
  simp only at hc hd
  subst hc hd
  have hi : its.toArray.isEmpty = false := by
    cases r with
    | nil => exact absurd rfl hne
    | cons a b => rfl
  rcases q with ⟨rfl, q⟩ | ⟨rfl, q⟩
  · refine wpAny_binaryOp_repeat_ref (T := "tuple") (U := "int") (by decide) ⟨_, ho, rfl⟩ (fun s' => typeIs_int s' 1 t) noFill_tuple_mul F.fills_int_mul F.slot_int_rmul repeat_tuple F.slot_int_index.lookup
      (call_meets F.slot_int_rmul (typeIs_int s 1 t) F.entry_int_rmul (F.args_int_rmul_2 _ _) (int_rmul_tuple 1 t l its.toArray n dd sl)
        ⟨ho, rfl, ⟨_, ho, rfl⟩, call_meets F.slot_tuple_mul ⟨_, ho, rfl⟩ F.entry_tuple_mul (F.args_tuple_mul_2 _ _) (mul_one_tup l its.toArray n dd sl t) ⟨ho, ?_⟩⟩)
    exact ⟨.ref l, H, I, rfl, q⟩
  · refine wpAny_binaryOp_repeat_ref (T := "tuple") (U := "int") (by decide) ⟨_, ho, rfl⟩ (fun s' => typeIs_int s' 0 t) noFill_tuple_mul F.fills_int_mul F.slot_int_rmul repeat_tuple F.slot_int_index.lookup
      (call_meets F.slot_int_rmul (typeIs_int s 0 t) F.entry_int_rmul (F.args_int_rmul_2 _ _) (int_rmul_tuple 0 t l its.toArray n dd sl)
        ⟨ho, rfl, ⟨_, ho, rfl⟩, call_meets F.slot_tuple_mul ⟨_, ho, rfl⟩ F.entry_tuple_mul (F.args_tuple_mul_2 _ _) (mul_nil_tup l its.toArray n dd sl t hi) ⟨ho, ?_⟩⟩)
    exact ⟨.ref s.heap.objs.size, _, I.laid (t' := s.toks) (o := .tup []) (fun b ob q => Heap.get?_push_of_some _ q) (Nat.le_refl _) ⟨Nat.zero_le _, [], .nil, IsTup.new _ _⟩, rfl, q _ (I.hok.fresh (Nat.le_refl _))⟩
def rdMul (x : PyData) (y : PyData) (Q : PyData → Prop) : Prop := match x, y with
  | .int i, .int j => (-(2 ^ 64) < i ∧ i < 2 ^ 64) ∧ Q (.int (i * j))
  | .tuple a, .int k => (a ≠ [] ∧ 0 ≤ k ∧ k ≤ 1000 ∧ a.length ≤ 1000) ∧ Q (.tuple (List.replicate k.toNat a).flatten)
  | .list a, .int k => (0 ≤ k ∧ k ≤ 1000 ∧ a.length ≤ 1000) ∧ Q (.list (List.replicate k.toNat a).flatten)
  | _, _ => False
theorem od_mul {L : Lx} : OpD L (binaryOp .Mult) rdMul := fun X hX => ⟨_, op_mul.or (op_repS.or (op_repT.or op_rep)), fun S G H x y v u Q Q' w rx ry h q => by
  cases rx with
  | int i =>
    cases ry with
    | int j => exact .inl ⟨i, j, rfl, rfl, .inl h.1, q _ _ G H (Gr.refl S G H) w (.int _) h.2⟩
    | _ => exact False.elim h
  | tup e1 r1 =>
    cases ry with
    | int k =>
      rename_i a vs ds
      obtain ⟨⟨h0, h1, h2, h3⟩, h4⟩ : (ds ≠ [] ∧ 0 ≤ k ∧ k ≤ 1000 ∧ ds.length ≤ 1000) ∧ Q (.tuple (List.replicate k.toNat ds).flatten) := h
      have hvs : vs ≠ [] := fun z => by
        subst z
        cases r1
        exact h0 rfl
      by_cases hk1 : k = 1
      · subst hk1
        refine .inr (.inl ⟨_, _, _, rfl, rfl, SqT.of (w.sub _ _ e1), hvs, .inl ⟨rfl, q _ _ G H (Gr.refl S G H) w (.tup e1 r1) ?_⟩⟩)
        have e : (List.replicate (1 : Int).toNat ds).flatten = ds := by simp
        rw [e] at h4
        exact h4
      · by_cases hk0 : k = 0
        · subst hk0
          exact .inr (.inl ⟨_, _, _, rfl, rfl, SqT.of (w.sub _ _ e1), hvs, .inr ⟨rfl, new_tup w .nil fun v G2 H2 g2 w2 r3 => q _ v G2 H2 g2 w2 r3 h4⟩⟩)
        · exact .inr (.inr (.inl ⟨_, _, _, rfl, rfl, SqT.of (w.sub _ _ e1), hvs, by omega, h2, by rw [r1.length]; exact h3, new_tup w (r1.rep k.toNat) fun v G2 H2 g2 w2 r3 => q _ v G2 H2 g2 w2 r3 h4⟩))
    | _ => exact False.elim h
  | lst e1 r1 =>
    cases ry with
    | int k =>
      rename_i a vs ds
      obtain ⟨⟨h1, h2, h3⟩, h4⟩ : (0 ≤ k ∧ k ≤ 1000 ∧ ds.length ≤ 1000) ∧ Q (.list (List.replicate k.toNat ds).flatten) := h
      refine .inr (.inr (.inr ⟨_, _, _, rfl, rfl, w.sub _ _ e1, by omega, by omega, ?_, new_lst w (r1.rep k.toNat) fun v G2 H2 g2 w2 r3 => q _ v G2 H2 g2 w2 r3 h4⟩))
      rw [r1.length, sizeLine_eq]
      have a1 : ds.length * k.toNat ≤ 1000 * 1000 := Nat.mul_le_mul h3 (by omega)
      omega
    | _ => exact False.elim h
  | _ => exact False.elim h⟩

/-! ### enumerate(t), t a tuple -/
theorem meets_enum_one {v : Value} {o : Obj} {H : Heap → Prop} (B : Begins v o H) :
    Meets (Builtin.«enumerate.__new__» ⟨[.type "enumerate", v], []⟩) (fun _ R s => H s.heap ∧
      R (.ok (.ret (.ref (s.heap.push o).objs.size))) { s with heap := (s.heap.push o).push { cls := .type "enumerate", data := .fields #[.none, .bool false, .ref s.heap.objs.size, rawInt 0, .none, .none] } }) :=
  .of_wp fun prog w A R s h => by
    obtain ⟨hp, g, d, tk, os⟩ := s
    obtain ⟨h1, h⟩ := h
    have hsub := sub_enumerate
    have q1 : ∀ {A' : Around} {E : Value → Shared → Prop} {Q : Value → Shared → Prop}, Q (.ref hp.objs.size) ⟨hp.push o, g, d, tk, os⟩ → wpAny (model prog w) A' (pyIter v) Q E ⟨hp, g, d, tk, os⟩ :=
      fun q => B.iter prog w _ _ ⟨hp, g, d, tk, os⟩ _ h1 q
    wp_walk using q1
    refine wpAny_stack_any fun st => wpAny_pure ?_
    split
    · rename_i c _ _ _ _ _
      cases (c == Value.type "enumerate")
      · wp_walk using q1
        exact ⟨_, rfl, h⟩
      · wp_walk using q1
        exact ⟨_, rfl, h⟩
    · wp_walk using q1
      exact ⟨_, rfl, h⟩
theorem enum_one {prog : Program} {w : World} {A : Around} {E : Value → Shared → Prop} {s : Shared} {v : Value} {o : Obj} {H : Heap → Prop} {Q : Value → Shared → Prop} (B : Begins v o H) (h1 : H s.heap)
    (h : ∀ h', IsEnum h' (s.heap.objs.size + 1) s.heap.objs.size 0 .none → h'.get? s.heap.objs.size = some o → (∀ b o, s.heap.get? b = some o → h'.get? b = some o) → Q (.ref (s.heap.objs.size + 1)) { s with heap := h' }) :
    wpAny (model prog w) A (call (.type "enumerate") [v]) Q E s := by
  refine callType_new F.called_enumerate (by decide) (F.typeCall_enumerate_1 _) (F.newCall_enumerate_1 _) (fun obj => F.args_object_init_2 obj _) F.entry_enumerate_new (meets_enum_one B) ⟨h1, ?_⟩
  have hz : (s.heap.push o).objs.size = s.heap.objs.size + 1 := Heap.size_push ..
  show _ ∧ _
  rw [hz]
  have he : IsEnum ((s.heap.push o).push { cls := .type "enumerate", data := .fields #[.none, .bool false, .ref s.heap.objs.size, rawInt 0, .none, .none] }) (s.heap.objs.size + 1) s.heap.objs.size 0 .none := by
    have z := Heap.get?_push_size (s.heap.push o) (o := { cls := .type "enumerate", data := .fields #[.none, .bool false, .ref s.heap.objs.size, rawInt 0, .none, .none] }) rfl
    rw [hz] at z
    exact z
  exact ⟨⟨_, he, rfl⟩, h _ he (Heap.get?_push_of_some _ (Heap.get?_push_size _ B.free)) fun b o x => Heap.get?_push_of_some _ (Heap.get?_push_of_some _ x)⟩
/-- the tuple at a, each item in a new pair -/
def Itet (K : PySem.W.Frag) (a : Addr) : It :=
  ⟨fun i H => ∃ (xs : List V) (x : V), SqT K H a xs ∧ xs[i]? = some x, fun i H v H' => ∃ T x, v = .ref T ∧ H T = none ∧ H' = upd H T (.tup [.int (i : Nat), x]) ∧ ∀ xs, SqT K H a xs → xs[i]? = some x, fun i H => ∃ xs : List V, SqT K H a xs ∧ xs.length = i⟩
theorem tup_ne_it {h : Heap} {a it : Addr} {items : Array Value} {i : Nat} (ht : IsTup h a items) (hi : h.IsTupleIter it a i) : a ≠ it := fun e => by
  subst e
  obtain ⟨o, ho, hc, _⟩ := ht
  obtain ⟨o', ho', hc', _⟩ := hi
  rw [ho] at ho'
  cases ho'
  rw [hc] at hc'
  exact absurd hc' (by decide)
theorem tup_ne_en {h : Heap} {a e it : Addr} {items : Array Value} {i : Int} {old : Value} (ht : IsTup h a items) (hi : IsEnum h e it i old) : e ≠ a := fun z => by
  subst z
  obtain ⟨o, ho, hc, _⟩ := ht
  have hi' := hi
  unfold IsEnum at hi'
  rw [ho] at hi'
  have e2 := Option.some.inj hi'
  rw [e2] at hc
  have hc' : Value.type "enumerate" = Value.type "tuple" := hc
  exact absurd hc' (by decide)
theorem turn_enumT {P : Program} {w : World} {K : PySem.W.Frag} {elts : List Expr} {kk : Nat} {tpos : Pos} (a e it : Addr) :
    Turn P w K (.Tuple elts kk tpos) (Itet K a) [e, it] e (fun i h => (∃ old, IsEnum h e it ((i : Nat) : Int) old) ∧ h.IsTupleIter it a i ∧ e ≠ it) where
  mem := by simp
  obj := fun i h st b hb => by
    obtain ⟨⟨old, he⟩, ⟨o, ho, hc, hd⟩, _⟩ := st
    have e' : b = e ∨ b = it := by simpa using hb
    rcases e' with z | z
    · rw [z]; exact ⟨_, he, fun v q => nomatch q⟩
    · rw [z]; exact ⟨o, ho, fun v q => by rw [hd] at q; cases q⟩
  keep := fun i h h' st k => let ⟨⟨old, he⟩, hi, hne⟩ := st; ⟨⟨old, k e (by simp) _ he⟩, hi.at fun o q => k it (by simp) o q, hne⟩
  item := by
    intro X hP hw hK hc i pins s σ H E I hf st hg
    subst hP hw hK
    obtain ⟨⟨old, he⟩, hit, hne⟩ := st
    obtain ⟨xs, x, hq, hx⟩ := hg
    obtain ⟨its, rv, p, hz⟩ := I.tuple hq
    obtain ⟨u0, hu0, ru0⟩ := rv.get hx
    have hat : s.heap.IsTuple a its.toArray := p
    have hlt : i < its.toArray.size := by
      obtain ⟨z, _⟩ := List.getElem?_eq_some_iff.mp hu0
      simpa using z
    have nai : a ≠ it := tup_ne_it p hit
    have nea : e ≠ a := tup_ne_en p he
    have hel : e < s.heap.objs.size := Heap.lt_size he
    have hil : it < s.heap.objs.size := by obtain ⟨_, q, _⟩ := hit; exact Heap.lt_size q
    refine wpAny_pyNext_enum_itemD (Draws.tuple (A := X.A.in1) (I.ok.hd hc) it a nai its.toArray) he ⟨hit, hat⟩ hlt hne (by simp [hne, nea]) fun u h' tk hPu ho hst' hT hsz hk => ?_
    have ru : RelV x u := by
      have e1 : its.toArray[i]? = some u := hPu
      have e2 : its.toArray[i]? = some u0 := by simpa using hu0
      rw [e1] at e2
      cases e2
      exact ru0
    refine ⟨_, rfl, wpAny_letOwnedTupleGo_enum (s := { s with heap := h', toks := tk + 1 }) ho fun h'' he' sb => ?_⟩
    have hT2 : h''.get? s.heap.objs.size = some { cls := .type "tuple", data := .seq #[.int i tk, u] } := (sb.2 _ (Nat.ne_of_gt hel)).trans hT
    have new : ObjOk X.prog X.w (upd H s.heap.objs.size (.tup [.int (i : Nat), x])) h'' s.heap.objs.size (.tup [.int (i : Nat), x]) :=
      ⟨by show 2 ≤ sizeLine; decide, [.int i tk, u], .cons ⟨_, rfl⟩ (.cons ru .nil), ⟨_, hT2, rfl, _, rfl⟩⟩
    have I1 : Inv X pins σ (upd H s.heap.objs.size (.tup [.int (i : Nat), x])) { s with heap := h'', toks := tk + 1 } :=
      I.turnedNew (ch := [e, it]) (fun b ob hb q => (sb.2 b (fun z => hb (by simp [z]))).trans (hk b ob (fun z => hb (by simp [z])) (fun z => hb (by simp [z])) q)) hf (Nat.le_refl _) new
    refine ⟨.ref s.heap.objs.size, _, I1, rfl, ⟨_, x, rfl, I.hok.fresh (Nat.le_refl _), rfl, fun ys hy => by rw [I.tuple_inj hy hq]; exact hx⟩, ⟨⟨u, ?_⟩, hst'.1.at fun o q => (sb.2 it (Ne.symm hne)).trans q, hne⟩, fun b hb => ?_⟩
    · have e1 : ((i + 1 : Nat) : Int) = (i : Int) + 1 := by omega
      rw [e1]; exact he'
    · have hb' : b < s.heap.objs.size := by
        have e' : b = e ∨ b = it := by simpa using hb
        rcases e' with z | z
        · rw [z]; exact hel
        · rw [z]; exact hil
      rw [upd_ne (Nat.ne_of_lt hb')]
      exact (hf b hb).1
  done := by
    intro X hP hw hK hc i pins s σ H E I hf st hg
    subst hP hw hK
    obtain ⟨⟨old, he⟩, hit, hne⟩ := st
    obtain ⟨xs, hq, hx⟩ := hg
    obtain ⟨its, rv, p, hz⟩ := I.tuple hq
    obtain ⟨f0, f1, f2, f3, f4, f5⟩ := hf it (by simp)
    have hl := rv.length
    have nai : a ≠ it := tup_ne_it p hit
    have hat : s.heap.IsTuple a its.toArray := p
    have hi : i = its.toArray.size := by rw [List.size_toArray]; omega
    subst hi
    exact wpAny_pyNext_enum_endD (Draws.tuple (A := X.A.in1) (I.ok.hd hc) it a nai its.toArray) he ⟨hit, hat⟩ fun h' eb => ⟨rfl, I.turned (t' := s.toks) (fun b o hb q => eb b o hb q) f0 f1 f3 f4 f5⟩
  self := fun A i s Q E st h => let ⟨⟨_, he⟩, _⟩ := st; wpAny_pyIter_enum he h
def iEnumT (K : PySem.W.Frag) (ta : TA) : TI := fun σ H R => ta σ H fun vs H1 => ∃ a xs, vs = [.ref a] ∧ SqT K H1 a xs ∧ R (Itet K a) H1
theorem pi_enumT {X : Cx} {e : Expr} {ta : TA} {p pos tpos : Pos} {elts : List Expr} {kk : Nat} (hg : Gl X "enumerate") (hm : X.mg "enumerate" = none) (ha : PA X [e] ta) (hs : starEach [e] X.env = [(false, eval e X.env)] := by rfl) :
    PI X (.Tuple elts kk tpos) (.Call (.Name "enumerate" p) [e] [] pos) (iEnumT X.K ta) := by
  refine ⟨fun pins s σ H R I h => ?_⟩
  refine Call_ (ld_blt I hg hm boot_enumerate (PyProof.Rows.callWith_type1 (thn (ha.run pos pins s σ H _ I h) fun us s1 ⟨vs, H1, I1, r1, q1⟩ => ?_) hs rfl))
  obtain ⟨a, xs, ex, hq, q⟩ := q1
  subst ex
  obtain ⟨its, rv, pt, hz⟩ := I1.tuple hq
  have e1 := Vals.ref1 r1
  subst e1
  have hat : s1.heap.IsTuple a its.toArray := pt
  refine enum_one (begins_tuple a its.toArray) hat fun h' he hit hk => wpAny_pyIter_enum he ?_
  have I2 : Inv X pins σ H1 { s1 with heap := h' } := I1.kept (t' := s1.toks) hk
  refine ⟨s1.heap.objs.size + 1, [s1.heap.objs.size + 1, s1.heap.objs.size], _, _, H1, rfl, I2, turn_enumT a (s1.heap.objs.size + 1) s1.heap.objs.size, ⟨⟨.none, he⟩, ⟨_, hit, rfl, rfl⟩, Nat.succ_ne_self _⟩, fun b hb => ?_, q⟩
  have e' : b = s1.heap.objs.size + 1 ∨ b = s1.heap.objs.size := by simpa using hb
  have hle : s1.heap.objs.size ≤ b := by
    rcases e' with z | z
    · rw [z]; exact Nat.le_add_right _ _
    · rw [z]; exact Nat.le_refl _
  exact I1.fpOk hle (I1.hok.fresh hle)
def enumL (ds : List PyData) : List PyData := ds.mapIdx fun (i : Nat) d => PyData.tuple [.int (i : Int), d]
theorem itd_e {S : Addr} {K : PySem.W.Frag} {a : Addr} {ds : List PyData} {vs : List V} {G1 : Hp} (e : G1 a = some (.tup vs)) (r : RpL S G1 ds vs) : ItD S (Itet K a) (enumL ds) G1 := ⟨fun i G H d hd s w => by
  unfold enumL at hd
  rw [List.getElem?_mapIdx] at hd
  obtain ⟨d0, h0, rfl⟩ := Option.map_eq_some_iff.mp hd
  obtain ⟨v, hv, rv⟩ := r.get h0
  have hs : SqT K H a vs := SqT.of (w.sub _ _ (s _ _ e))
  refine ⟨⟨vs, v, hs, hv⟩, fun u H' y => ?_⟩
  obtain ⟨T, x, rfl, n, rfl, y⟩ := y
  have e1 := y vs hs
  rw [hv] at e1
  cases e1
  have n0 : G T = none := w.sub.free n
  exact ⟨upd G T (.tup [.int (i : Int), v]), Gr.new w n, w.new n, .tup upd_same (.cons (.int _) (.cons ((rv.mono s).mono (same_new n0)) .nil))⟩, fun G H s w => by
  have el : (enumL ds).length = ds.length := by simp [enumL]
  rw [el]
  exact ⟨vs, SqT.of (w.sub _ _ (s _ _ e)), r.length⟩⟩
def dIenum (ta : DTE) (ow : Ow) (ρ : Rho) (Q : List PyData → Prop) : Prop := ta ow ρ fun x => tupD x fun ds => Q (enumL ds)
theorem id_enum {L : Lx} {a : Expr} {ta : DTE} {elts : List Expr} {kk : Nat} {p pos tpos : Pos} (hg : L.sc.names.lookup ("enumerate" : Str) = some .globalImplicit) (hm : L.g.mg "enumerate" = none) (ha : Pd L a ta) (hs : ∀ env, starEach [a] env = [(false, eval a env)] := by intro _; rfl) :
    Ide L (.Tuple elts kk tpos) (.Call (.Name "enumerate" p) [a] [] pos) (dIenum ta) := ⟨fun X hX => by
  refine ⟨_, pi_enumT (gl_of hX hg) (mg_of0 hX hm) (pa_cons we pa_nil (hs X.env)) (hs X.env), fun ow ρ Q h S T σ G H R k q => ha.run _ _ _ h X hX S T σ G H _ k fun x v G1 H1 g1 w1 r1 h1 => ?_⟩
  obtain ⟨ds, rfl, h2⟩ := tupD_ex h1
  cases r1 with
  | tup e r => exact ⟨_, _, rfl, SqT.of (w1.sub _ _ e), q _ _ G1 H1 g1 w1 (itd_e e r) h2⟩⟩
end Qm

namespace Qm
open PySem PySem.Spec PyProof.Rows L2
def topS (i : Nat) : Stmt := PySem.Challenge.pw_quiremarks_k27_whole_any_evidence_of_seq.main.body.getD i (.Pass ⟨0, 0, 0, 0⟩)
theorem blk_ok {N : List Str} {sc scope : Scope} {own : List (Str × Nat)} (h : blkC N sc scope own = true) : blkC N sc scope own = true := h
def rdNeg (x : PyData) (Q : PyData → Prop) : Prop := intD x fun i => Q (.int (-i))
theorem pd_neg {L : Lx} {a : Expr} {ta : DTE} {pos : Pos} (ha : Pd L a ta) : Pd L (.UnaryOp .USub a pos) (dUn rdNeg ta) := ⟨fun ow ρ Q h X hX S T σ G H Q' k q => by
  refine WE.of (pe_un un_neg we) (ha.run _ _ _ h X hX S T σ G H _ k fun x v G1 H1 g1 w1 r1 h1 => ?_)
  obtain ⟨i, rfl, h2⟩ := intD_ex h1
  cases r1
  exact ⟨i, rfl, q _ _ G1 H1 g1 w1 (.int _) h2⟩⟩
def dDrop (te : DTE) (D : De) (ow : Ow) (ρ : Rho) : Prop := te ow ρ fun _ => D.nx ow ρ
theorem sd_expr {L : Lx} {e : Expr} {te : DTE} {pos : Pos} (he : Pd L e te) (hs : ∀ env, swapsWith e none pos.line env = pure false := by intro _; rfl) : Sd L (.Expr e pos) (dDrop te) := ⟨fun D ow ρ h X hX S Gb G0 H0 T σ G H D' k d =>
  WS.of (ps_expr we (hs X.env)) (he.run _ _ _ h X hX S T σ G H _ k.kn fun x v G1 H1 g1 w1 r1 h1 => d.nx T ow ρ σ G1 H1 (k.step g1 w1) h1)⟩
/-- a comprehension whose element is a function of the item -/
theorem lc_map {wi : DTI} {g : DTG} {te : DTE} {vs : List Nat} {ow : Ow} {ρ : Rho} {Q : PyData → Prop} (ds : List PyData) (f : PyData → PyData) (hw : ∀ R : List PyData → Prop, R ds → wi ow ρ R) (hl : ds.length ≤ 100000)
    (h : ∀ (i : Nat) (d : PyData), ds[i]? = some d → ∀ R : PyData → Prop, R (f d) → g d (wipeD ρ vs) fun ρ' => te ow ρ' R) (q : Q (.list (ds.map f))) : dLc wi g te vs ow ρ Q := by
  refine hw _ ⟨hl, fun i acc => acc = (ds.take i).map f, by simp, fun i d acc hd e _ => h i d hd _ ?_, fun acc e _ => ?_⟩
  · subst e
    rw [List.take_add_one, hd, List.map_append]
    rfl
  · subst e
    rw [List.take_length]
    exact q
/-- .. an element told by what is true of it -/
theorem lc_each {wi : DTI} {g : DTG} {te : DTE} {vs : List Nat} {ow : Ow} {ρ : Rho} {Q : PyData → Prop} (ds : List PyData) (P : PyData → Prop) (hw : ∀ R : List PyData → Prop, R ds → wi ow ρ R) (hl : ds.length ≤ 100000)
    (h : ∀ (i : Nat) (d : PyData), ds[i]? = some d → ∀ R : PyData → Prop, (∀ x, P x → R x) → g d (wipeD ρ vs) fun ρ' => te ow ρ' R) (q : ∀ xs : List PyData, xs.length = ds.length → (∀ x ∈ xs, P x) → Q (.list xs)) : dLc wi g te vs ow ρ Q := by
  refine hw _ ⟨hl, fun i acc => ∀ x ∈ acc, P x, by simp, fun i d acc hd e _ => h i d hd _ fun x hx y hy => ?_, fun acc e hle => q acc hle e⟩
  rcases List.mem_append.mp hy with hy | hy
  · exact e y hy
  · rw [List.mem_singleton.mp hy]
    exact hx
/-- all([.. for ..]) -/
theorem lc_all {wi : DTI} {g : DTG} {te : DTE} {vs : List Nat} {ow : Ow} {ρ : Rho} {Q : PyData → Prop} (ds : List PyData) (f : PyData → Bool) (hw : ∀ R : List PyData → Prop, R ds → wi ow ρ R) (hl : ds.length ≤ 100000)
    (h : ∀ (i : Nat) (d : PyData), ds[i]? = some d → ∀ R : PyData → Prop, R (.bool (f d)) → g d (wipeD ρ vs) fun ρ' => te ow ρ' R) (q : Q (.bool (ds.all f))) : dLc wi g te vs ow ρ (fun x => rdAll x Q) := by
  refine lc_map ds (fun d => .bool (f d)) hw hl h ?_
  show allD (boolL (ds.map fun d => PyData.bool (f d))) Q
  have e : boolL (ds.map fun d => PyData.bool (f d)) = some (ds.map f) := by
    clear h hw hl q
    induction ds with
    | nil => rfl
    | cons d r ih =>
      show (boolL (r.map fun d => PyData.bool (f d))).map (f d :: ·) = _
      rw [ih]
      rfl
  rw [e]
  show Q (.bool ((ds.map f).all fun b => b))
  rw [List.all_map]
  exact q
theorem itT {c : Prop} [Decidable c] {A B : Prop} (h : c) (a : A) : if c then A else B := by
  rw [if_pos h]
  exact a
theorem itF {c : Prop} [Decidable c] {A B : Prop} (h : ¬ c) (b : B) : if c then A else B := by
  rw [if_neg h]
  exact b
theorem dT {p : Prop} [Decidable p] (h : p) : decide p = true := decide_eq_true h
theorem dF {p : Prop} [Decidable p] (h : ¬ p) : ¬ decide p = true := by
  rw [decide_eq_false h]
  exact Bool.false_ne_true
theorem nT {p : Prop} [Decidable p] (h : ¬ p) : (!decide p) = true := by
  rw [decide_eq_false h]
  rfl
theorem nF {p : Prop} [Decidable p] (h : p) : ¬ (!decide p) = true := by
  rw [decide_eq_true h]
  exact Bool.false_ne_true
theorem bF {b : Bool} (h : b = true) : ¬ (!b) = true := by
  rw [h]
  exact Bool.false_ne_true
/-- a for over known items -/
theorem for_run {wi : DTI} {g : DTG} {tb : DTS} {D : De} {ow : Ow} {ρ : Rho} (ds : List PyData) (hw : ∀ R : List PyData → Prop, R ds → wi ow ρ R) (Iv : Nat → Ow → Rho → Prop) (h0 : Iv 0 ow ρ)
    (hs : ∀ (i : Nat) (d : PyData) (ow : Ow) (ρ : Rho), ds[i]? = some d → Iv i ow ρ → g d ρ fun ρ' => tb { nx := Iv (i + 1), rt := D.rt, bk := D.nx, ct := Iv (i + 1) } ow ρ') (he : ∀ ow ρ, Iv ds.length ow ρ → D.nx ow ρ) : dFor wi g tb D ow ρ :=
  hw _ ⟨Iv, h0, hs, he⟩

/-! ### the mathematics' words -/
abbrev tI (ns : List Int) : PyData := .tuple (ns.map PyData.int)
def gi (s : List Int) (i : Int) : Int := (s[i.toNat]?).getD 0
theorem atI_int {s : List Int} {i : Int} (h0 : 0 ≤ i) (h1 : i < s.length) : atI (s.map PyData.int) i = some (.int (gi s i)) := by
  obtain ⟨j, rfl⟩ := Int.eq_ofNat_of_zero_le h0
  have hj : j < s.length := by omega
  refine atI_nat ?_
  rw [List.getElem?_map, List.getElem?_eq_getElem hj]
  show some (PyData.int s[j]) = some (PyData.int ((s[j]?).getD 0))
  rw [List.getElem?_eq_getElem hj]
  rfl
theorem gi_mem {s : List Int} {i : Int} (h0 : 0 ≤ i) (h1 : i < s.length) : gi s i ∈ s := by
  obtain ⟨j, rfl⟩ := Int.eq_ofNat_of_zero_le h0
  have hj : j < s.length := by omega
  show (s[j]?).getD 0 ∈ s
  rw [List.getElem?_eq_getElem hj]
  exact List.getElem_mem hj
theorem sIx_int (n d : Nat) (i : Int) (h : 0 ≤ i) : HT.sIx n d (some i) = min i.toNat n := by
  obtain ⟨j, rfl⟩ := Int.eq_ofNat_of_zero_le h
  exact HT.sIx_nat n d j
theorem cut_ints {s : List Int} {i j : Int} (h0 : 0 ≤ i) (h1 : 0 ≤ j) : cutD (s.map PyData.int) (some i) (some j) = ((s.drop i.toNat).take (j.toNat - i.toNat)).map PyData.int := by
  unfold cutD
  rw [List.length_map, sIx_int _ _ _ h0, sIx_int _ _ _ h1, ← List.map_drop, ← List.map_take]
  congr 1
  by_cases h : i.toNat ≤ s.length
  · rw [show min i.toNat s.length = i.toNat by omega]
    by_cases h' : j.toNat ≤ s.length
    · rw [show min j.toNat s.length = j.toNat by omega]
    · rw [show min j.toNat s.length = s.length by omega, List.take_of_length_le (l := s.drop i.toNat) (i := s.length - i.toNat) (by rw [List.length_drop]; exact Nat.le_refl _), List.take_of_length_le (l := s.drop i.toNat) (i := j.toNat - i.toNat) (by rw [List.length_drop]; omega)]
  · rw [show min i.toNat s.length = s.length by omega, List.drop_of_length_le (l := s) (i := s.length) (Nat.le_refl _), List.drop_of_length_le (l := s) (i := i.toNat) (by omega), List.take_nil, List.take_nil]
structure Pap (p : List Int) : Prop where
  len1 : 1 ≤ p.length
  len6 : p.length ≤ 6
  rng : ∀ m ∈ p, 0 ≤ m ∧ m < p.length
  inv : ∀ m : Int, 0 ≤ m → m < p.length → gi p (gi p m) = m
def Mks (p s : List Int) : Prop := ∀ m ∈ s, 0 ≤ m ∧ m < p.length
def isWhole : PyData → Int → Int → Bool
  | .int i, lo, hi => decide (lo ≤ i) && decide (i ≤ hi)
  | _, _, _ => false
theorem shp_int (i : Int) : SeqAt.shaped (.int i) = true := by simp [SeqAt.shaped, PyData.canLay0, PyData.depth]
theorem eqv_int (i j : Int) : PyData.eqv (.int i) (.int j) = decide (i = j) := by
  rw [PyData.eqv, Bool.beq_eq_decide_eq]
theorem boolD_b (b : Bool) (Q : Bool → Prop) : boolD (.bool b) Q = Q b := rfl
theorem intD_i (i : Int) (Q : Int → Prop) : intD (.int i) Q = Q i := rfl
theorem tupD_t (ds : List PyData) (Q : List PyData → Prop) : tupD (.tuple ds) Q = Q ds := rfl
theorem lstD_l (ds : List PyData) (Q : List PyData → Prop) : lstD (.list ds) Q = Q ds := rfl
theorem pairD_2 (a b : PyData) (Q : PyData → PyData → Prop) : pairD [a, b] Q = Q a b := rfl
theorem truD_n (Q : Bool → Prop) : truD .none Q = Q false := rfl
theorem truD_b (b : Bool) (Q : Bool → Prop) : truD (.bool b) Q = Q b := rfl
theorem truD_i (i : Int) (Q : Bool → Prop) : truD (.int i) Q = Q (i != 0) := rfl
theorem truD_l (ds : List PyData) (Q : Bool → Prop) : truD (.list ds) Q = Q (!ds.isEmpty) := rfl
theorem truD_t (ds : List PyData) (Q : Bool → Prop) : truD (.tuple ds) Q = Q (!ds.isEmpty) := rfl
section
variable (a b ds : List PyData) (i j : Int) (Q : PyData → Prop) (x y : PyData)
theorem rdLen_t : rdLen (.tuple ds) Q = Q (.int ds.length) := rfl
theorem rdLen_l : rdLen (.list ds) Q = Q (.int ds.length) := rfl
theorem rdTuple_t : rdTuple (.tuple ds) Q = Q (.tuple ds) := rfl
theorem rdTuple_l : rdTuple (.list ds) Q = Q (.tuple ds) := rfl
theorem rdList_t : rdList (.tuple ds) Q = Q (.list ds) := rfl
theorem rdList_l : rdList (.list ds) Q = Q (.list ds) := rfl
theorem rdIx_t : rdIx (.tuple ds) (.int i) Q = optD (atI ds i) Q := rfl
theorem rdIx_l : rdIx (.list ds) (.int i) Q = optD (atI ds i) Q := rfl
theorem rdMul_i : rdMul (.int i) (.int j) Q = ((-(2 ^ 64) < i ∧ i < 2 ^ 64) ∧ Q (.int (i * j))) := rfl
theorem rdMul_t : rdMul (.tuple a) (.int i) Q = ((a ≠ [] ∧ 0 ≤ i ∧ i ≤ 1000 ∧ a.length ≤ 1000) ∧ Q (.tuple (List.replicate i.toNat a).flatten)) := rfl
theorem rdMul_l : rdMul (.list a) (.int i) Q = ((0 ≤ i ∧ i ≤ 1000 ∧ a.length ≤ 1000) ∧ Q (.list (List.replicate i.toNat a).flatten)) := rfl
theorem rdAdd_i : rdAdd (.int i) (.int j) Q = Q (.int (i + j)) := rfl
theorem rdAdd_t : rdAdd (.tuple a) (.tuple b) Q = (a.length + b.length ≤ 100000 ∧ Q (.tuple (a ++ b))) := rfl
theorem rdAdd_l : rdAdd (.list a) (.list b) Q = (a.length + b.length ≤ 100000 ∧ Q (.list (a ++ b))) := rfl
theorem rdI_i (C : Int → Int → Prop) (g : Int → Int → PyData) : rdI C g (.int i) (.int j) Q = (C i j ∧ Q (g i j)) := rfl
theorem rdI0_i (g : Int → Int → PyData) : rdI0 g (.int i) (.int j) Q = Q (g i j) := rfl
theorem rdIn_l : rdIn x (.list ds) Q = (SeqAt.shaped x = true ∧ SeqAt.shaped (.list ds) = true ∧ Q (.bool (ds.any fun z => PyData.eqv z x))) := rfl
theorem rdNotIn_l : rdNotIn x (.list ds) Q = (SeqAt.shaped x = true ∧ SeqAt.shaped (.list ds) = true ∧ Q (.bool (!ds.any fun z => PyData.eqv z x))) := rfl
theorem rdIs_n : rdIs x .none Q = Q (.bool (isNoneD x)) := rfl
theorem rdSum_t : rdSum (.tuple ds) Q = intsD ds fun ns => Q (.int ns.sum) := rfl
theorem optD_s : optD (some x) Q = Q x := rfl
end
theorem intsD_map {ns : List Int} {Q : List Int → Prop} : intsD (ns.map .int) Q = Q ns := by
  unfold intsD
  rw [intL_map]
theorem intsD_1 (a : Int) (Q : List Int → Prop) : intsD [.int a] Q = Q [a] := rfl
theorem intsD_2 (a b : Int) (Q : List Int → Prop) : intsD [.int a, .int b] Q = Q [a, b] := rfl
theorem intsD_3 (a b c : Int) (Q : List Int → Prop) : intsD [.int a, .int b, .int c] Q = Q [a, b, c] := rfl
theorem rg1_1 (j : Int) (Q : List PyData → Prop) : rg1 [j] Q = ((-(2 ^ 62) ≤ j ∧ j < 2 ^ 62) ∧ Q (rangeL 0 1 j.toNat)) := rfl
theorem rg2_2 (i j : Int) (Q : List PyData → Prop) : rg2 [i, j] Q = ((-(2 ^ 62) ≤ i ∧ i < 2 ^ 62 ∧ -(2 ^ 62) ≤ j ∧ j < 2 ^ 62) ∧ Q (rangeL i 1 (j - i).toNat)) := rfl
theorem rg3_3 (i j c : Int) (Q : List PyData → Prop) : rg3 [i, j, c] Q = ∃ n, RgC i j c n ∧ Q (rangeL i c n) := rfl
section
variable {a b c : PyData} {r : List PyData}
theorem atI_0 : atI (a :: r) 0 = some a := atI_nat (j := 0) rfl
theorem atI_1 : atI (a :: b :: r) 1 = some b := atI_nat (j := 1) rfl
theorem atI_2 : atI (a :: b :: c :: r) 2 = some c := atI_nat (j := 2) rfl
theorem atI_l1 : atI [a] (-1) = some a := rfl
theorem atI_l2 : atI [a, b] (-1) = some b := rfl
theorem atI_l3 : atI [a, b, c] (-1) = some c := rfl
end
theorem isIntD_int (i : Int) : isIntD (.int i) = true := rfl
theorem isIntD_bool (i : Bool) : isIntD (.bool i) = true := rfl
theorem isBoolD_int (i : Int) : isBoolD (.int i) = false := rfl
theorem isBoolD_bool (i : Bool) : isBoolD (.bool i) = true := rfl
theorem isTupD_tup (i : List PyData) : isTupD (.tuple i) = true := rfl
theorem isStrD_str (i : Str) : isStrD (.str i) = true := rfl
local macro_rules | `(tactic| walk_at "rd") => `(tactic| simp only [dRet, dDrop, dAnd, dOr, dUn, rdIsi, dVar, dC, sel, dNotV, dChain, dBin, rdEq, rdNe, rdNeg, dTB, tAndD, tOrD, tNotD, dTru, dNil, dCons, dTup, dLst, dSl, dNoPart, dPart, dRev, dNext, dSeq, dIf, dAsg, gN, gP, dCall, dNever, dNewL, dApp, dTupO, dNewD, dGetO, dPutO, selO, noOwn, dRng, dIlst, dItup, dIenum, boolD_b, intD_i, tupD_t, lstD_l, pairD_2, truD_n, truD_b, truD_i, truD_l, truD_t, rdLen_t, rdLen_l, rdTuple_t, rdTuple_l, rdList_t, rdList_l, rdIx_t, rdIx_l, rdMul_i, rdMul_t, rdMul_l, rdAdd_i, rdAdd_t, rdAdd_l, rdI_i, rdI0_i, rdIn_l, rdNotIn_l, rdIs_n, rdSum_t, intsD_map, intsD_1, intsD_2, intsD_3, rg1_1, rg2_2, rg3_3, optD_s, atI_0, atI_1, atI_2, atI_l1, atI_l2, atI_l3, startD, List.map, List.length, List.cons_append, List.nil_append, Nat.reduceAdd, Nat.reduceSub, Nat.sub_self, List.replicate, List.append_nil, List.set, Nat.zero_add, wipeD, if_true, if_false, reduceIte, Bool.not_true, Bool.not_false, Bool.false_eq_true, List.length_map, shp_int, eqv_int, true_and, and_true, CDiv, Int.reduceLT, Int.reduceLE, Int.reducePow, Int.reduceNeg, Int.reduceMul, isIntD_int, isBoolD_int, isBoolD_bool, isIntD_bool, isTupD_tup, isStrD_str])

/-! ### is_whole -/
def fn_is_whole : Fn := fun ds q => ∃ d lo hi, ds = [d, .int lo, .int hi] ∧ q (.bool (isWhole d lo hi))
abbrev st_is_whole : Stmt := topS 6
abbrev N_is_whole : List Str := ["value", "low", "high"]
theorem sc_is_whole : FnScope N_is_whole ["value", "low", "high"] (defScope st_is_whole) := ⟨rfl, rfl, rfl, by decide +kernel, rfl, by decide +kernel, by decide +kernel⟩
theorem ok_is_whole {g : Gm} {f : Addr} {fd : FuncData} (F : Fun g.K "is_whole" "is_whole" st_is_whole f fd) (hb : Binds g.K fd ["value", "low", "high"] []) (hm : g.mg "is_whole" = some (.ref f)) (m_bool : g.mg "bool" = none) (m_int : g.mg "int" = none) (m_isinstance : g.mg "isinstance" = none) : FD g 1 "is_whole" fn_is_whole := by
  refine fd_mk (k := 0) F sc_is_whole hb hm ?_
    (ss_one (sd_ret (pd_and (pd_isi kit_int rfl m_isinstance rfl m_int (by decide +kernel) (pd_var (i := 0) rfl (.inl rfl))) (pd_and (pd_not (pd_isi kit_bool rfl m_isinstance rfl m_bool (by decide +kernel) (pd_var (i := 0) rfl (.inl rfl)))) (pd_one (pd_chain od_le od_le (pd_var (i := 1) rfl (.inl rfl)) (pd_var (i := 0) rfl (.inl rfl)) (pd_var (i := 2) rfl (.inl rfl)))))))) ?_
  · rintro ds q ⟨d, lo, hi, rfl, _⟩
    rfl
  · rintro ds q ⟨d, lo, hi, rfl, h⟩
    walk_at "rd"
    cases d with
    | int i =>
      walk_at "rd"
      simp only [isWhole] at h
      by_cases h1 : lo ≤ i
      · simpa [h1] using h
      · simpa [h1] using h
    | _ => simpa [isWhole, isIntD, isBoolD] using h

/-! ### is_paper -/
def fn_is_paper : Fn := fun ds q => ∃ p, ds = [tI p] ∧ Pap p ∧ q (.bool true)
abbrev st_is_paper : Stmt := topS 7
abbrev N_is_paper : List Str := ["value", "mark"]
theorem sc_is_paper : FnScope N_is_paper ["value"] (defScope st_is_paper) := ⟨rfl, rfl, rfl, by decide +kernel, rfl, by decide +kernel, by decide +kernel⟩
theorem ok_is_paper {g : Gm} {f : Addr} {fd : FuncData} (F : Fun g.K "is_paper" "is_paper" st_is_paper f fd) (hb : Binds g.K fd ["value"] []) (hm : g.mg "is_paper" = some (.ref f)) (m_all : g.mg "all" = none) (m_isinstance : g.mg "isinstance" = none) (m_len : g.mg "len" = none) (m_range : g.mg "range" = none) (m_tuple : g.mg "tuple" = none) {t_MOST_MARKS : Tok} (m_MOST_MARKS : g.mg "MOST_MARKS" = some (.int 6 t_MOST_MARKS)) (h_is_whole : FD g 1 "is_whole" fn_is_whole) : FD g 2 "is_paper" fn_is_paper := by
  refine fd_mk (k := 1) F sc_is_paper hb hm ?_
    (ss_cons (sd_if (Wdd.td (wd_or (td_not (td_tru (pd_isi kit_tuple rfl m_isinstance rfl m_tuple (by decide +kernel) (pd_var (i := 0) rfl (.inr (.inl rfl)))) (fun _ _ => rfl))) (wd_or1 (td_not (td_chain od_le od_le pd_int (pd_callB cd_len rfl m_len (by decide +kernel) (pd_var (i := 0) rfl (.inr (.inl rfl)))) (pd_glob rfl m_MOST_MARKS)))))) (ss_one (sd_ret pd_bl)) ss_nil)
      (ss_cons (sd_if (td_not (td_tru (pd_callB cd_all rfl m_all (by decide +kernel) (pd_lc (own := [("mark", 1)]) (id_tup (pd_var (i := 0) rfl (.inr (.inl rfl)))) (blk_ok (N := N_is_paper) (sc := defScope st_is_paper) (by decide +kernel)) (gd_name (i := 1) rfl (.inr rfl)) (fun _ h => h) (pd_call h_is_whole (show (1 : Nat) ≤ 1 by decide) rfl (ad_cons (pd_var (i := 1) rfl (.inl rfl)) (ad_cons pd_int (ad_cons (pd_bin od_sub (pd_callB cd_len rfl m_len (by decide +kernel) (pd_var (i := 0) rfl (.inr (.inl rfl)))) pd_int) ad_nil)))))) (fun _ _ => rfl))) (ss_one (sd_ret pd_bl)) ss_nil)
      (ss_one (sd_ret (pd_callB cd_all rfl m_all (by decide +kernel) (pd_lc (own := [("mark", 1)]) (id_range1 rfl m_range (ad_cons (pd_callB cd_len rfl m_len (by decide +kernel) (pd_var (i := 0) rfl (.inr (.inl rfl)))) ad_nil)) (blk_ok (N := N_is_paper) (sc := defScope st_is_paper) (by decide +kernel)) (gd_name (i := 1) rfl (.inr rfl)) (fun _ h => h) (pd_cmp od_eq (pd_ix (pd_var (i := 0) rfl (.inr (.inl rfl))) (pd_ix (pd_var (i := 0) rfl (.inr (.inl rfl))) (pd_var (i := 1) rfl (.inl rfl)) (fun _ _ => rfl)) (fun _ _ => rfl)) (pd_var (i := 1) rfl (.inl rfl)) (nomark _)))))))) ?_
  · rintro ds q ⟨p, rfl, _⟩
    rfl
  · rintro ds q ⟨p, rfl, hp, h⟩
    walk_at "rd"
    have l1 := hp.len1
    have l6 := hp.len6
    refine itT (dT (by omega)) (itF (nF (by omega)) ?_)
    refine lc_all (p.map .int) (fun d => isWhole d 0 (p.length - 1)) (fun R h => ?_) (by rw [List.length_map]; omega) (fun i d hd R hR => ?_) (itF (bF ?_) ?_)
    · walk_at "rd"
      exact h
    · walk_at "rd"
      exact ⟨_, _, _, rfl, hR⟩
    · rw [List.all_map, List.all_eq_true]
      intro m hm
      obtain ⟨h0, h1⟩ := hp.rng m hm
      simp [isWhole, h0]
      omega
    · refine lc_all (rangeL 0 1 p.length) (fun d => true) (fun R h => ?_) (by rw [rangeL_len]; omega) (fun i d hd R hR => ?_) ?_
      · walk_at "rd"
        exact ⟨⟨by omega, by omega⟩, h⟩
      · obtain ⟨hi, rfl⟩ := rangeL_get hd
        have e0 : (0 : Int) + (i : Int) * 1 = (i : Int) := by omega
        have hi0 : (0 : Int) ≤ (i : Int) := by omega
        have hi1 : (i : Int) < p.length := by omega
        obtain ⟨h0, h1⟩ := hp.rng _ (gi_mem hi0 hi1)
        rw [e0]
        walk_at "rd"
        rw [atI_int hi0 hi1]
        walk_at "rd"
        rw [atI_int h0 h1]
        walk_at "rd"
        rw [hp.inv _ hi0 hi1, decide_eq_true rfl]
        exact hR
      · have e : (rangeL 0 1 p.length).all (fun _ => true) = true := by simp
        rw [e]
        exact h

/-! ### are_marks, is_sequence, check_paper, check_sequence -/
def fn_are_marks : Fn := fun ds q => ∃ p s, ds = [tI p, tI s] ∧ Mks p s ∧ s.length ≤ 16 ∧ q (.bool true)
abbrev st_are_marks : Stmt := topS 8
abbrev N_are_marks : List Str := ["paper", "value", "mark"]
theorem sc_are_marks : FnScope N_are_marks ["paper", "value"] (defScope st_are_marks) := ⟨rfl, rfl, rfl, by decide +kernel, rfl, by decide +kernel, by decide +kernel⟩
theorem ok_are_marks {g : Gm} {f : Addr} {fd : FuncData} (F : Fun g.K "are_marks" "are_marks" st_are_marks f fd) (hb : Binds g.K fd ["paper", "value"] []) (hm : g.mg "are_marks" = some (.ref f)) (m_all : g.mg "all" = none) (m_isinstance : g.mg "isinstance" = none) (m_len : g.mg "len" = none) (m_tuple : g.mg "tuple" = none) (h_is_whole : FD g 1 "is_whole" fn_is_whole) : FD g 2 "are_marks" fn_are_marks := by
  refine fd_mk (k := 1) F sc_are_marks hb hm ?_
    (ss_one (sd_ret (pd_and (pd_isi kit_tuple rfl m_isinstance rfl m_tuple (by decide +kernel) (pd_var (i := 1) rfl (.inl rfl))) (pd_one (pd_callB cd_all rfl m_all (by decide +kernel) (pd_lc (own := [("mark", 2)]) (id_tup (pd_var (i := 1) rfl (.inl rfl))) (blk_ok (N := N_are_marks) (sc := defScope st_are_marks) (by decide +kernel)) (gd_name (i := 2) rfl (.inr rfl)) (fun _ h => h) (pd_call h_is_whole (show (1 : Nat) ≤ 1 by decide) rfl (ad_cons (pd_var (i := 2) rfl (.inl rfl)) (ad_cons pd_int (ad_cons (pd_bin od_sub (pd_callB cd_len rfl m_len (by decide +kernel) (pd_var (i := 0) rfl (.inr (.inl rfl)))) pd_int) ad_nil)))))))))) ?_
  · rintro ds q ⟨p, s, rfl, _⟩
    rfl
  · rintro ds q ⟨p, s, rfl, hs, hl, h⟩
    walk_at "rd"
    refine lc_all (s.map .int) (fun d => isWhole d 0 (p.length - 1)) (fun R h => ?_) (by rw [List.length_map]; omega) (fun i d hd R hR => ?_) ?_
    · walk_at "rd"
      exact h
    · walk_at "rd"
      exact ⟨_, _, _, rfl, hR⟩
    · have e : (s.map PyData.int).all (fun d => isWhole d 0 (p.length - 1)) = true := by
        rw [List.all_map, List.all_eq_true]
        intro m hm
        obtain ⟨h0, h1⟩ := hs m hm
        simp [isWhole, h0]
        omega
      rw [e]
      exact h
def fn_is_sequence : Fn := fun ds q => ∃ p s, ds = [tI p, tI s] ∧ Mks p s ∧ s.length ≤ 16 ∧ q (.bool true)
abbrev st_is_sequence : Stmt := topS 9
abbrev N_is_sequence : List Str := ["paper", "value"]
theorem sc_is_sequence : FnScope N_is_sequence ["paper", "value"] (defScope st_is_sequence) := ⟨rfl, rfl, rfl, by decide +kernel, rfl, by decide +kernel, by decide +kernel⟩
theorem ok_is_sequence {g : Gm} {f : Addr} {fd : FuncData} (F : Fun g.K "is_sequence" "is_sequence" st_is_sequence f fd) (hb : Binds g.K fd ["paper", "value"] []) (hm : g.mg "is_sequence" = some (.ref f)) (m_len : g.mg "len" = none) {t_MOST_LEAVES : Tok} (m_MOST_LEAVES : g.mg "MOST_LEAVES" = some (.int 16 t_MOST_LEAVES)) (h_are_marks : FD g 2 "are_marks" fn_are_marks) : FD g 3 "is_sequence" fn_is_sequence := by
  refine fd_mk (k := 2) F sc_is_sequence hb hm ?_
    (ss_one (sd_ret (pd_and (pd_call h_are_marks (show (2 : Nat) ≤ 2 by decide) rfl (ad_cons (pd_var (i := 0) rfl (.inl rfl)) (ad_cons (pd_var (i := 1) rfl (.inl rfl)) ad_nil))) (pd_one (pd_cmp od_le (pd_callB cd_len rfl m_len (by decide +kernel) (pd_var (i := 1) rfl (.inl rfl))) (pd_glob rfl m_MOST_LEAVES) (nomark _)))))) ?_
  · rintro ds q ⟨p, s, rfl, _⟩
    rfl
  · rintro ds q ⟨p, s, rfl, hs, hl, h⟩
    walk_at "rd"
    refine ⟨p, s, rfl, hs, hl, ?_⟩
    rw [decide_eq_true (show (s.length : Int) ≤ 16 by omega)]
    exact h
def fn_check_paper : Fn := fun ds q => ∃ p, ds = [tI p] ∧ Pap p ∧ q .none
abbrev st_check_paper : Stmt := topS 10
abbrev N_check_paper : List Str := ["paper"]
theorem sc_check_paper : FnScope N_check_paper ["paper"] (defScope st_check_paper) := ⟨rfl, rfl, rfl, by decide +kernel, rfl, by decide +kernel, by decide +kernel⟩
theorem ok_check_paper {g : Gm} {f : Addr} {fd : FuncData} (F : Fun g.K "check_paper" "check_paper" st_check_paper f fd) (hb : Binds g.K fd ["paper"] []) (hm : g.mg "check_paper" = some (.ref f)) (h_is_paper : FD g 2 "is_paper" fn_is_paper) : FD g 3 "check_paper" fn_check_paper := by
  refine fd_mk (k := 2) F sc_check_paper hb hm ?_
    (ss_one (sd_if (td_not (td_tru (pd_call h_is_paper (show (2 : Nat) ≤ 2 by decide) rfl (ad_cons (pd_var (i := 0) rfl (.inl rfl)) ad_nil)) (fun _ _ => rfl))) (ss_one sd_never) ss_nil)) ?_
  · rintro ds q ⟨p, rfl, _⟩
    rfl
  · rintro ds q ⟨p, rfl, hp, h⟩
    walk_at "rd"
    exact ⟨p, rfl, hp, h⟩
def fn_check_sequence : Fn := fun ds q => ∃ p s, ds = [tI p, tI s] ∧ Pap p ∧ Mks p s ∧ s.length ≤ 16 ∧ q .none
abbrev st_check_sequence : Stmt := topS 11
abbrev N_check_sequence : List Str := ["paper", "sequence"]
theorem sc_check_sequence : FnScope N_check_sequence ["paper", "sequence"] (defScope st_check_sequence) := ⟨rfl, rfl, rfl, by decide +kernel, rfl, by decide +kernel, by decide +kernel⟩
theorem ok_check_sequence {g : Gm} {f : Addr} {fd : FuncData} (F : Fun g.K "check_sequence" "check_sequence" st_check_sequence f fd) (hb : Binds g.K fd ["paper", "sequence"] []) (hm : g.mg "check_sequence" = some (.ref f)) (h_check_paper : FD g 3 "check_paper" fn_check_paper) (h_is_sequence : FD g 3 "is_sequence" fn_is_sequence) : FD g 4 "check_sequence" fn_check_sequence := by
  refine fd_mk (k := 3) F sc_check_sequence hb hm ?_
    (ss_cons (sd_expr (pd_call h_check_paper (show (3 : Nat) ≤ 3 by decide) rfl (ad_cons (pd_var (i := 0) rfl (.inl rfl)) ad_nil)))
      (ss_one (sd_if (td_not (td_tru (pd_call h_is_sequence (show (3 : Nat) ≤ 3 by decide) rfl (ad_cons (pd_var (i := 0) rfl (.inl rfl)) (ad_cons (pd_var (i := 1) rfl (.inl rfl)) ad_nil))) (fun _ _ => rfl))) (ss_one sd_never) ss_nil))) ?_
  · rintro ds q ⟨p, s, rfl, _⟩
    rfl
  · rintro ds q ⟨p, s, rfl, hp, hs, hl, h⟩
    walk_at "rd"
    exact ⟨p, rfl, hp, p, s, rfl, hs, hl, h⟩
end Qm


namespace Qm
open PySem PySem.Spec PyProof.Rows L2
local macro_rules | `(tactic| walk_at "rd") => `(tactic| simp only [dRet, dDrop, dAnd, dOr, dUn, rdIsi, dVar, dC, sel, dNotV, dChain, dBin, rdEq, rdNe, rdNeg, dTB, tAndD, tOrD, tNotD, dTru, dNil, dCons, dTup, dLst, dSl, dNoPart, dPart, dRev, dNext, dSeq, dIf, dAsg, gN, gP, dCall, dNever, dNewL, dApp, dTupO, dNewD, dGetO, dPutO, selO, noOwn, dRng, dIlst, dItup, dIenum, boolD_b, intD_i, tupD_t, lstD_l, pairD_2, truD_n, truD_b, truD_i, truD_l, truD_t, rdLen_t, rdLen_l, rdTuple_t, rdTuple_l, rdList_t, rdList_l, rdIx_t, rdIx_l, rdMul_i, rdMul_t, rdMul_l, rdAdd_i, rdAdd_t, rdAdd_l, rdI_i, rdI0_i, rdIn_l, rdNotIn_l, rdIs_n, rdSum_t, intsD_map, intsD_1, intsD_2, intsD_3, rg1_1, rg2_2, rg3_3, optD_s, atI_0, atI_1, atI_2, atI_l1, atI_l2, atI_l3, startD, List.map, List.length, List.cons_append, List.nil_append, Nat.reduceAdd, Nat.reduceSub, Nat.sub_self, List.replicate, List.append_nil, List.set, Nat.zero_add, wipeD, if_true, if_false, reduceIte, Bool.not_true, Bool.not_false, Bool.false_eq_true, List.length_map, shp_int, eqv_int, true_and, and_true, CDiv, Int.reduceLT, Int.reduceLE, Int.reducePow, Int.reduceNeg, Int.reduceMul, isIntD_int, isBoolD_int, isBoolD_bool, isIntD_bool, isTupD_tup, isStrD_str])

/-! ### gatherings -/
def gatB (p s : List Int) : Bool := decide (0 < s.length) && decide (s.length % 2 = 0) && (List.range (s.length / 2)).all fun (i : Nat) => decide (gi p (gi s (i : Int)) = gi s ((s.length : Int) - 1 - (i : Int)))
theorem gatB_iff {p s : List Int} : gatB p s = true ↔ 0 < s.length ∧ s.length % 2 = 0 ∧ ∀ i : Nat, i < s.length / 2 → gi p (gi s (i : Int)) = gi s ((s.length : Int) - 1 - (i : Int)) := by
  unfold gatB
  simp only [Bool.and_eq_true, decide_eq_true_eq, List.all_eq_true, List.mem_range, and_assoc]
inductive Cfl (p s : List Int) : PyData → Prop
  | gat (h : gatB p s = true) : Cfl p s .none
  | nil (h : s.length = 0) : Cfl p s (.tuple [])
  | odd (i : Int) (h : s.length % 2 = 1) : Cfl p s (.tuple [.int i])
  | bad (i : Nat) (h : s.length % 2 = 0) (hi : i < s.length / 2) (hb : ¬ gi p (gi s (i : Int)) = gi s ((s.length : Int) - 1 - (i : Int))) : Cfl p s (.tuple [.int (i : Int), .int ((s.length : Int) - 1 - (i : Int))])
theorem cfl_none {p s : List Int} {d : PyData} (h : Cfl p s d) : isNoneD d = gatB p s := by
  cases h with
  | gat h => rw [h]; rfl
  | nil h =>
    cases e : gatB p s with
    | false => rfl
    | true => have := (gatB_iff.mp e).1; omega
  | odd i h =>
    cases e : gatB p s with
    | false => rfl
    | true => have := (gatB_iff.mp e).2.1; omega
  | bad i h hi hb =>
    cases e : gatB p s with
    | false => rfl
    | true => exact absurd ((gatB_iff.mp e).2.2 i hi) hb
def fn_conflict_of : Fn := fun ds q => ∃ p s, ds = [tI p, tI s] ∧ Mks p s ∧ s.length ≤ 16 ∧ ∀ d, Cfl p s d → q d
abbrev st_conflict_of : Stmt := topS 13
abbrev N_conflict_of : List Str := ["paper", "sequence", "many", "leaf"]
theorem sc_conflict_of : FnScope N_conflict_of ["paper", "sequence"] (defScope st_conflict_of) := ⟨rfl, rfl, rfl, by decide +kernel, rfl, by decide +kernel, by decide +kernel⟩
theorem ok_conflict_of {g : Gm} {f : Addr} {fd : FuncData} (F : Fun g.K "conflict_of" "conflict_of" st_conflict_of f fd) (hb : Binds g.K fd ["paper", "sequence"] []) (hm : g.mg "conflict_of" = some (.ref f)) (m_len : g.mg "len" = none) (m_range : g.mg "range" = none) : FD g 1 "conflict_of" fn_conflict_of := by
  refine fd_mk (k := 0) F sc_conflict_of hb hm ?_
    (ss_cons (sd_asg (pd_callB cd_len rfl m_len (by decide +kernel) (pd_var (i := 1) rfl (.inl rfl))) (gd_name (i := 2) rfl (.inl ⟨rfl, .inl rfl⟩)))
      (ss_cons (sd_if (td_cmp od_eq (pd_var (i := 2) rfl (.inl rfl)) pd_int (nomark _)) (ss_one (sd_ret (pd_tup ad_nil))) ss_nil)
      (ss_cons (sd_if (td_cmp od_eq (pd_bin od_mod (pd_var (i := 2) rfl (.inl rfl)) pd_int) pd_int (nomark _)) (ss_one (sd_ret (pd_tup (ad_cons (pd_bin od_fdiv (pd_var (i := 2) rfl (.inl rfl)) pd_int) ad_nil)))) ss_nil)
      (ss_cons (sd_for rfl (id_range1 rfl m_range (ad_cons (pd_bin od_fdiv (pd_var (i := 2) rfl (.inl rfl)) pd_int) ad_nil)) (gd_name (i := 3) rfl (.inl ⟨rfl, .inl rfl⟩)) (ss_one (sd_if (td_cmp od_ne (pd_ix (pd_var (i := 0) rfl (.inl rfl)) (pd_ix (pd_var (i := 1) rfl (.inl rfl)) (pd_var (i := 3) rfl (.inl rfl)) (fun _ _ => rfl)) (fun _ _ => rfl)) (pd_ix (pd_var (i := 1) rfl (.inl rfl)) (pd_bin od_sub (pd_bin od_sub (pd_var (i := 2) rfl (.inl rfl)) pd_int) (pd_var (i := 3) rfl (.inl rfl))) (fun _ _ => rfl)) (nomark _)) (ss_one (sd_ret (pd_tup (ad_cons (pd_var (i := 3) rfl (.inl rfl)) (ad_cons (pd_bin od_sub (pd_bin od_sub (pd_var (i := 2) rfl (.inl rfl)) pd_int) (pd_var (i := 3) rfl (.inl rfl))) ad_nil))))) ss_nil)))
      (ss_one (sd_ret pd_non)))))) ?_
  · rintro ds q ⟨p, s, rfl, _⟩
    rfl
  · rintro ds q ⟨p, s, rfl, hs, hl, h⟩
    walk_at "rd"
    refine ite2 (fun h0 => ⟨by decide, h _ (.nil ?_)⟩) fun h0 => ?_
    · have := of_decide_eq_true h0
      omega
    refine ite2 (fun h1 => ⟨by decide, h _ (.odd _ ?_)⟩) fun h1 => ?_
    · have := of_decide_eq_true h1
      omega
    have he : s.length % 2 = 0 := by
      have := of_decide_eq_false (Bool.eq_false_iff.mpr h1)
      omega
    have hn : 0 < s.length := by
      have := of_decide_eq_false (Bool.eq_false_iff.mpr h0)
      omega
    refine for_run (rangeL 0 1 (s.length / 2)) (fun R h => ?_) (fun i ow ρ => ow = .no ∧ (∃ x, ρ = [.d (tI p), .d (tI s), .d (.int s.length), x]) ∧ ∀ j : Nat, j < i → gi p (gi s (j : Int)) = gi s ((s.length : Int) - 1 - (j : Int))) ⟨rfl, ⟨_, rfl⟩, fun j hj => absurd hj (Nat.not_lt_zero _)⟩ (fun i d ow ρ hd hi => ?_) (fun ow ρ hi => ?_)
    · walk_at "rd"
      have e : ((s.length : Int) / 2).toNat = s.length / 2 := by omega
      rw [e]
      exact ⟨⟨by omega, by omega⟩, h⟩
    · obtain ⟨rfl, ⟨x, rfl⟩, hj⟩ := hi
      obtain ⟨hi2, rfl⟩ := rangeL_get hd
      rw [show (0 : Int) + (i : Int) * 1 = (i : Int) by omega]
      have hi0 : (0 : Int) ≤ (i : Int) := by omega
      have hi1 : (i : Int) < s.length := by omega
      have hk0 : (0 : Int) ≤ (s.length : Int) - 1 - (i : Int) := by omega
      have hk1 : (s.length : Int) - 1 - (i : Int) < s.length := by omega
      obtain ⟨m0, m1⟩ := hs _ (gi_mem hi0 hi1)
      walk_at "rd"
      rw [atI_int hi0 hi1]
      walk_at "rd"
      rw [atI_int m0 m1, atI_int hk0 hk1]
      walk_at "rd"
      refine ite2 (fun hb => ⟨by decide, h _ (.bad i he hi2 ?_)⟩) fun hb => ⟨⟨_, rfl⟩, fun j hj2 => ?_⟩
      · intro z
        rw [decide_eq_true z] at hb
        cases hb
      · by_cases e : j = i
        · subst e
          by_cases z : gi p (gi s (j : Int)) = gi s ((s.length : Int) - 1 - (j : Int))
          · exact z
          · exact absurd (nT z) hb
        · exact hj j (by omega)
    · obtain ⟨rfl, ⟨x, rfl⟩, hj⟩ := hi
      walk_at "rd"
      rw [rangeL_len] at hj
      exact h _ (.gat (gatB_iff.mpr ⟨hn, he, hj⟩))
def fn_is_gathering_of : Fn := fun ds q => ∃ p s, ds = [tI p, tI s] ∧ Mks p s ∧ s.length ≤ 16 ∧ q (.bool (gatB p s))
abbrev st_is_gathering_of : Stmt := topS 14
abbrev N_is_gathering_of : List Str := ["paper", "sequence"]
theorem sc_is_gathering_of : FnScope N_is_gathering_of ["paper", "sequence"] (defScope st_is_gathering_of) := ⟨rfl, rfl, rfl, by decide +kernel, rfl, by decide +kernel, by decide +kernel⟩
theorem ok_is_gathering_of {g : Gm} {f : Addr} {fd : FuncData} (F : Fun g.K "is_gathering_of" "is_gathering_of" st_is_gathering_of f fd) (hb : Binds g.K fd ["paper", "sequence"] []) (hm : g.mg "is_gathering_of" = some (.ref f)) (h_conflict_of : FD g 1 "conflict_of" fn_conflict_of) : FD g 2 "is_gathering_of" fn_is_gathering_of := by
  refine fd_mk (k := 1) F sc_is_gathering_of hb hm ?_
    (ss_one (sd_ret (pd_cmp od_is (pd_call h_conflict_of (show (1 : Nat) ≤ 1 by decide) rfl (ad_cons (pd_var (i := 0) rfl (.inl rfl)) (ad_cons (pd_var (i := 1) rfl (.inl rfl)) ad_nil))) pd_non (nomark _)))) ?_
  · rintro ds q ⟨p, s, rfl, _⟩
    rfl
  · rintro ds q ⟨p, s, rfl, hs, hl, h⟩
    walk_at "rd"
    refine ⟨p, s, rfl, hs, hl, fun d hd => ?_⟩
    show q (.bool (isNoneD d))
    rw [cfl_none hd]
    exact h

/-! ### shortest_at, split_of -/
inductive Sho (p t : List Int) : Nat → Prop
  | none (r : Nat) (e : r = 0) (h : ∀ k : Nat, 1 ≤ k → 2 * k ≤ t.length → gatB p (t.take (2 * k)) = false) : Sho p t r
  | some (r k : Nat) (e : r = 2 * k) (h1 : 1 ≤ k) (h2 : 2 * k ≤ t.length) (h : gatB p (t.take (2 * k)) = true) : Sho p t r
theorem mks_drop {p s : List Int} (n : Nat) (h : Mks p s) : Mks p (s.drop n) := fun m hm => h m (List.mem_of_mem_drop hm)
theorem mks_take {p s : List Int} (n : Nat) (h : Mks p s) : Mks p (s.take n) := fun m hm => h m (List.mem_of_mem_take hm)
def fn_shortest_at : Fn := fun ds q => ∃ p s, ∃ st : Nat, ds = [tI p, tI s, .int st] ∧ Mks p s ∧ s.length ≤ 16 ∧ st ≤ s.length ∧ ∀ r, Sho p (s.drop st) r → q (.int (r : Nat))
abbrev st_shortest_at : Stmt := topS 16
abbrev N_shortest_at : List Str := ["paper", "sequence", "start", "end"]
theorem sc_shortest_at : FnScope N_shortest_at ["paper", "sequence", "start"] (defScope st_shortest_at) := ⟨rfl, rfl, rfl, by decide +kernel, rfl, by decide +kernel, by decide +kernel⟩
theorem ok_shortest_at {g : Gm} {f : Addr} {fd : FuncData} (F : Fun g.K "shortest_at" "shortest_at" st_shortest_at f fd) (hb : Binds g.K fd ["paper", "sequence", "start"] []) (hm : g.mg "shortest_at" = some (.ref f)) (m_len : g.mg "len" = none) (m_range : g.mg "range" = none) (h_is_gathering_of : FD g 2 "is_gathering_of" fn_is_gathering_of) : FD g 3 "shortest_at" fn_shortest_at := by
  refine fd_mk (k := 2) F sc_shortest_at hb hm ?_
    (ss_cons (sd_for rfl (id_range3 rfl m_range (ad_cons (pd_bin od_add (pd_var (i := 2) rfl (.inl rfl)) pd_int) (ad_cons (pd_bin od_add (pd_callB cd_len rfl m_len (by decide +kernel) (pd_var (i := 1) rfl (.inl rfl))) pd_int) (ad_cons pd_int ad_nil)))) (gd_name (i := 3) rfl (.inl ⟨rfl, .inl rfl⟩)) (ss_one (sd_if (td_tru (pd_call h_is_gathering_of (show (2 : Nat) ≤ 2 by decide) rfl (ad_cons (pd_var (i := 0) rfl (.inl rfl)) (ad_cons (pd_slice (pd_var (i := 1) rfl (.inl rfl)) (od_some (pd_var (i := 2) rfl (.inl rfl))) (od_some (pd_var (i := 3) rfl (.inl rfl)))) ad_nil))) (fun _ _ => rfl)) (ss_one (sd_ret (pd_bin od_sub (pd_var (i := 3) rfl (.inl rfl)) (pd_var (i := 2) rfl (.inl rfl))))) ss_nil)))
      (ss_one (sd_ret pd_int))) ?_
  · rintro ds q ⟨p, s, st, rfl, _⟩
    rfl
  · rintro ds q ⟨p, s, st, rfl, hs, hl, hst, h⟩
    walk_at "rd"
    refine for_run (rangeL ((st : Int) + 2) 2 ((((s.length : Int) + 1) - ((st : Int) + 2) + 1) / 2).toNat) (fun R h => ?_) (fun i ow ρ => ow = .no ∧ (∃ x, ρ = [.d (tI p), .d (tI s), .d (.int st), x]) ∧ ∀ k : Nat, 1 ≤ k → k ≤ i → gatB p ((s.drop st).take (2 * k)) = false) ⟨rfl, ⟨_, rfl⟩, fun k h1 h2 => by omega⟩ (fun i d ow ρ hd hi => ?_) (fun ow ρ hi => ?_)
    · walk_at "rd"
      exact ⟨_, rgc_two (by omega) (by omega) (by omega) (by omega), h⟩
    · obtain ⟨rfl, ⟨x, rfl⟩, hj⟩ := hi
      obtain ⟨hi2, rfl⟩ := rangeL_get hd
      have hk : 2 * (i + 1) ≤ (s.drop st).length := by
        rw [List.length_drop]
        omega
      have e2 : (st : Int) + 2 + (i : Int) * 2 = ((st + 2 * (i + 1) : Nat) : Int) := by omega
      rw [e2]
      walk_at "rd"
      rw [cut_ints (by omega) (by omega), show ((st : Nat) : Int).toNat = st by omega, show (((st + 2 * (i + 1) : Nat) : Int)).toNat - st = 2 * (i + 1) by omega]
      refine ⟨p, _, rfl, mks_take _ (mks_drop _ hs), ?_, ?_⟩
      · rw [List.length_take, List.length_drop]
        omega
      · refine ite2 (fun hb => ?_) fun hb => ⟨⟨_, rfl⟩, fun k h1 h2 => ?_⟩
        · have e3 : (((st + 2 * (i + 1) : Nat) : Int) - (st : Int)) = ((2 * (i + 1) : Nat) : Int) := by omega
          rw [e3]
          exact h _ (.some _ (i + 1) rfl (by omega) hk hb)
        · by_cases e : k = i + 1
          · subst e
            exact Bool.eq_false_iff.mpr hb
          · exact hj k h1 (by omega)
    · obtain ⟨rfl, ⟨x, rfl⟩, hj⟩ := hi
      walk_at "rd"
      refine h 0 (.none 0 rfl fun k h1 h2 => hj k h1 ?_)
      rw [rangeL_len]
      rw [List.length_drop] at h2
      omega
structure Spl (p s ns : List Int) (left : Nat) : Prop where
  two : ∀ n ∈ ns, 2 ≤ n ∧ n % 2 = 0
  sum : ns.sum + left = s.length
  many : ns.length ≤ 16
  stop : ∀ k : Nat, 1 ≤ k → 2 * k ≤ left → gatB p ((s.drop (s.length - left)).take (2 * k)) = false
theorem many_of_two : ∀ {ns : List Int}, (∀ n ∈ ns, 2 ≤ n ∧ n % 2 = 0) → 2 * (ns.length : Int) ≤ ns.sum
  | [], _ => by simp
  | n :: r, h => by
    have h1 := h n List.mem_cons_self
    have h2 := many_of_two (ns := r) fun m hm => h m (List.mem_cons_of_mem _ hm)
    rw [List.length_cons, List.sum_cons]
    omega
def fn_split_of : Fn := fun ds q => ∃ p s, ds = [tI p, tI s] ∧ Mks p s ∧ s.length ≤ 16 ∧ ∀ ns left, Spl p s ns left → q (.tuple [tI ns, .int (left : Nat)])
abbrev st_split_of : Stmt := topS 17
abbrev N_split_of : List Str := ["paper", "sequence", "lengths", "start", "length"]
theorem sc_split_of : FnScope N_split_of ["paper", "sequence"] (defScope st_split_of) := ⟨rfl, rfl, rfl, by decide +kernel, rfl, by decide +kernel, by decide +kernel⟩
theorem ok_split_of {g : Gm} {f : Addr} {fd : FuncData} (F : Fun g.K "split_of" "split_of" st_split_of f fd) (hb : Binds g.K fd ["paper", "sequence"] []) (hm : g.mg "split_of" = some (.ref f)) (m_len : g.mg "len" = none) (m_tuple : g.mg "tuple" = none) (h_shortest_at : FD g 3 "shortest_at" fn_shortest_at) : FD g 4 "split_of" fn_split_of := by
  refine fd_mk (k := 3) F sc_split_of hb hm ?_
    (ss_cons (sd_newL (i := 2) rfl (.inl ⟨rfl, .inl rfl⟩))
      (ss_cons (sd_asg pd_int (gd_name (i := 3) rfl (.inl ⟨rfl, .inl rfl⟩)))
      (ss_cons (sd_asg (pd_call h_shortest_at (show (3 : Nat) ≤ 3 by decide) rfl (ad_cons (pd_var (i := 0) rfl (.inl rfl)) (ad_cons (pd_var (i := 1) rfl (.inl rfl)) (ad_cons pd_int ad_nil)))) (gd_name (i := 4) rfl (.inl ⟨rfl, .inl rfl⟩)))
      (ss_cons (sd_while rfl (td_cmp od_gt (pd_var (i := 4) rfl (.inl rfl)) pd_int (nomark _)) (ss_cons (sd_app (i := 2) rfl (.inl rfl) (pd_var (i := 4) rfl (.inl rfl)))
      (ss_cons (sd_asg (pd_bin od_add (pd_var (i := 3) rfl (.inl rfl)) (pd_var (i := 4) rfl (.inl rfl))) (gd_name (i := 3) rfl (.inl ⟨rfl, .inl rfl⟩)))
      (ss_one (sd_asg (pd_call h_shortest_at (show (3 : Nat) ≤ 3 by decide) rfl (ad_cons (pd_var (i := 0) rfl (.inl rfl)) (ad_cons (pd_var (i := 1) rfl (.inl rfl)) (ad_cons (pd_var (i := 3) rfl (.inl rfl)) ad_nil)))) (gd_name (i := 4) rfl (.inl ⟨rfl, .inl rfl⟩)))))))
      (ss_one (sd_ret (pd_tup (ad_cons (pd_tupO (i := 2) rfl m_tuple rfl (.inl rfl)) (ad_cons (pd_bin od_sub (pd_callB cd_len rfl m_len (by decide +kernel) (pd_var (i := 1) rfl (.inl rfl))) (pd_var (i := 3) rfl (.inl rfl))) ad_nil))))))))) ?_
  · rintro ds q ⟨p, s, rfl, _⟩
    rfl
  · rintro ds q ⟨p, s, rfl, hs, hl, h⟩
    walk_at "rd"
    refine ⟨p, s, 0, rfl, hs, hl, Nat.zero_le _, fun r hr => ?_⟩
    refine ⟨fun ow ρ => ∃ ns : List Int, ∃ st r : Nat, ow = .l (ns.map .int) ∧ ρ = [.d (tI p), .d (tI s), .own, .d (.int st), .d (.int (r : Nat))] ∧ (∀ n ∈ ns, 2 ≤ n ∧ n % 2 = 0) ∧ ns.sum = st ∧ st ≤ s.length ∧ Sho p (s.drop st) r,
      fun ow ρ => match ρ with
        | [_, _, _, .d (.int st), _] => s.length - st.toNat
        | _ => 0, ⟨[], 0, r, rfl, rfl, by simp, rfl, Nat.zero_le _, hr⟩, ?_⟩
    rintro ow ρ ⟨ns, st, r, rfl, rfl, h2, hsum, hst, hr⟩
    walk_at "rd"
    have hm := many_of_two h2
    refine ite2 (fun hr0 => ⟨by omega, ?_⟩) (fun hr0 => ⟨by decide, ?_⟩)
    · cases hr with
      | none e _ => exact absurd (of_decide_eq_true hr0) (by omega)
      | some k e h1 h3 h4 =>
        subst e
        rw [List.length_drop] at h3
        refine ⟨p, s, st + 2 * k, by rw [Int.natCast_add], hs, hl, by omega, fun r' hr' => ⟨⟨ns ++ [((2 * k : Nat) : Int)], st + 2 * k, r', ?_, ?_, ?_, ?_, by omega, hr'⟩, by omega⟩⟩
        · rw [List.map_append]
          rfl
        · rw [Int.natCast_add]
        · intro n hn
          rcases List.mem_append.mp hn with hn | hn
          · exact h2 n hn
          · rw [List.mem_singleton.mp hn]
            omega
        · rw [List.sum_append, hsum]
          simp
    · have hr1 : r = 0 := by
        have := of_decide_eq_false (Bool.eq_false_iff.mpr hr0)
        omega
      subst hr1
      rw [show (s.length : Int) - (st : Int) = ((s.length - st : Nat) : Int) by omega]
      refine h ns (s.length - st) ⟨h2, by omega, by omega, fun k hk1 hk2 => ?_⟩
      rw [show s.length - (s.length - st) = st by omega]
      cases hr with
      | none e hz => exact hz k hk1 (by rw [List.length_drop]; exact hk2)
      | some k e h1 h3 h4 => omega

/-! ### collations judged -/
def lenOk : PyData → Prop
  | .tuple ds => ds.length ≤ 1000
  | _ => True
def formB : PyData → Bool
  | .tuple ds => ds.all fun x => isWhole x 1 8
  | _ => false
theorem form_ints : ∀ {ds : List PyData}, (ds.all fun x => isWhole x 1 8) = true → ∃ ns : List Int, ds = ns.map .int ∧ ∀ n ∈ ns, 1 ≤ n ∧ n ≤ 8
  | [], _ => ⟨[], rfl, by simp⟩
  | d :: r, h => by
    rw [List.all_cons, Bool.and_eq_true] at h
    obtain ⟨ns, rfl, hn⟩ := form_ints h.2
    cases d with
    | int i =>
      have h1 := h.1
      simp only [isWhole, Bool.and_eq_true, decide_eq_true_eq] at h1
      refine ⟨i :: ns, rfl, fun n hm => ?_⟩
      rcases List.mem_cons.mp hm with e | hm
      · rw [e]
        exact h1
      · exact hn n hm
    | _ => exact absurd h.1 (by simp [isWhole])
def fn_is_collation_form : Fn := fun ds q => ∃ d, ds = [d] ∧ lenOk d ∧ q (.bool (formB d))
abbrev st_is_collation_form : Stmt := topS 20
abbrev N_is_collation_form : List Str := ["value", "sheets"]
theorem sc_is_collation_form : FnScope N_is_collation_form ["value"] (defScope st_is_collation_form) := ⟨rfl, rfl, rfl, by decide +kernel, rfl, by decide +kernel, by decide +kernel⟩
theorem ok_is_collation_form {g : Gm} {f : Addr} {fd : FuncData} (F : Fun g.K "is_collation_form" "is_collation_form" st_is_collation_form f fd) (hb : Binds g.K fd ["value"] []) (hm : g.mg "is_collation_form" = some (.ref f)) (m_all : g.mg "all" = none) (m_isinstance : g.mg "isinstance" = none) (m_tuple : g.mg "tuple" = none) {t_MOST_SHEETS : Tok} (m_MOST_SHEETS : g.mg "MOST_SHEETS" = some (.int 8 t_MOST_SHEETS)) (h_is_whole : FD g 1 "is_whole" fn_is_whole) : FD g 2 "is_collation_form" fn_is_collation_form := by
  refine fd_mk (k := 1) F sc_is_collation_form hb hm ?_
    (ss_one (sd_ret (pd_and (pd_isi kit_tuple rfl m_isinstance rfl m_tuple (by decide +kernel) (pd_var (i := 0) rfl (.inl rfl))) (pd_one (pd_callB cd_all rfl m_all (by decide +kernel) (pd_lc (own := [("sheets", 1)]) (id_tup (pd_var (i := 0) rfl (.inl rfl))) (blk_ok (N := N_is_collation_form) (sc := defScope st_is_collation_form) (by decide +kernel)) (gd_name (i := 1) rfl (.inr rfl)) (fun _ h => h) (pd_call h_is_whole (show (1 : Nat) ≤ 1 by decide) rfl (ad_cons (pd_var (i := 1) rfl (.inl rfl)) (ad_cons pd_int (ad_cons (pd_glob rfl m_MOST_SHEETS) ad_nil)))))))))) ?_
  · rintro ds q ⟨d, rfl, _⟩
    rfl
  · rintro ds q ⟨d, rfl, hl, h⟩
    walk_at "rd"
    cases d with
    | tuple ds =>
      have hl' : ds.length ≤ 1000 := hl
      refine itT rfl (lc_all ds (fun d => isWhole d 1 8) (fun R h => ?_) (by omega) (fun i d hd R hR => ?_) h)
      · walk_at "rd"
        exact h
      · walk_at "rd"
        exact ⟨_, _, _, rfl, hR⟩
    | _ => exact itF (by simp [isTupD]) h
def chainB (p : List Int) : List Int → List Int → Bool
  | _, [] => true
  | s, n :: r => gatB p (s.take (2 * n).toNat) && chainB p (s.drop (2 * n).toNat) r
def collB (p s : List Int) (d : PyData) : Bool := match d with
  | .tuple ds => match intL ds with
    | some ns => formB d && decide (2 * ns.sum = s.length) && chainB p s ns
    | none => false
  | _ => false
theorem collB_ints {p s ns : List Int} (h : ∀ n ∈ ns, 1 ≤ n ∧ n ≤ 8) : collB p s (tI ns) = (decide (2 * ns.sum = s.length) && chainB p s ns) := by
  have e : formB (tI ns) = true := by
    show (ns.map PyData.int).all (fun x => isWhole x 1 8) = true
    rw [List.all_map, List.all_eq_true]
    intro n hn
    obtain ⟨h1, h2⟩ := h n hn
    simp [isWhole, h1, h2]
  simp only [collB, intL_map, e, Bool.true_and]
theorem collB_form {p s : List Int} {d : PyData} (h : formB d = false) : collB p s d = false := by
  cases d with
  | tuple ds =>
    simp only [collB, h, Bool.false_and]
    cases intL ds <;> rfl
  | _ => rfl
theorem formB_ex {d : PyData} (h : formB d = true) : ∃ ns : List Int, d = tI ns ∧ ∀ n ∈ ns, 1 ≤ n ∧ n ≤ 8 := by
  cases d with
  | tuple ds =>
    obtain ⟨ns, rfl, hn⟩ := form_ints h
    exact ⟨ns, rfl, hn⟩
  | _ => exact absurd h (by simp [formB])
def fn_is_collation_of : Fn := fun ds q => ∃ p s d, ds = [tI p, tI s, d] ∧ Mks p s ∧ s.length ≤ 16 ∧ lenOk d ∧ q (.bool (collB p s d))
abbrev st_is_collation_of : Stmt := topS 21
abbrev N_is_collation_of : List Str := ["paper", "sequence", "value", "start", "sheets"]
theorem sc_is_collation_of : FnScope N_is_collation_of ["paper", "sequence", "value"] (defScope st_is_collation_of) := ⟨rfl, rfl, rfl, by decide +kernel, rfl, by decide +kernel, by decide +kernel⟩
theorem ok_is_collation_of {g : Gm} {f : Addr} {fd : FuncData} (F : Fun g.K "is_collation_of" "is_collation_of" st_is_collation_of f fd) (hb : Binds g.K fd ["paper", "sequence", "value"] []) (hm : g.mg "is_collation_of" = some (.ref f)) (m_len : g.mg "len" = none) (m_sum : g.mg "sum" = none) (h_is_collation_form : FD g 2 "is_collation_form" fn_is_collation_form) (h_is_gathering_of : FD g 2 "is_gathering_of" fn_is_gathering_of) : FD g 3 "is_collation_of" fn_is_collation_of := by
  refine fd_mk (k := 2) F sc_is_collation_of hb hm ?_
    (ss_cons (sd_if (Wdd.td (wd_or (td_not (td_tru (pd_call h_is_collation_form (show (2 : Nat) ≤ 2 by decide) rfl (ad_cons (pd_var (i := 2) rfl (.inl rfl)) ad_nil)) (fun _ _ => rfl))) (wd_or1 (td_cmp od_ne (pd_bin od_mul pd_int (pd_callB cd_sum rfl m_sum (by decide +kernel) (pd_var (i := 2) rfl (.inl rfl)))) (pd_callB cd_len rfl m_len (by decide +kernel) (pd_var (i := 1) rfl (.inl rfl))) (nomark _))))) (ss_one (sd_ret pd_bl)) ss_nil)
      (ss_cons (sd_asg pd_int (gd_name (i := 3) rfl (.inl ⟨rfl, .inl rfl⟩)))
      (ss_cons (sd_for rfl (id_tup (pd_var (i := 2) rfl (.inl rfl))) (gd_name (i := 4) rfl (.inl ⟨rfl, .inl rfl⟩)) (ss_cons (sd_if (td_not (td_tru (pd_call h_is_gathering_of (show (2 : Nat) ≤ 2 by decide) rfl (ad_cons (pd_var (i := 0) rfl (.inl rfl)) (ad_cons (pd_slice (pd_var (i := 1) rfl (.inl rfl)) (od_some (pd_var (i := 3) rfl (.inl rfl))) (od_some (pd_bin od_add (pd_var (i := 3) rfl (.inl rfl)) (pd_bin od_mul pd_int (pd_var (i := 4) rfl (.inl rfl)))))) ad_nil))) (fun _ _ => rfl))) (ss_one (sd_ret pd_bl)) ss_nil)
      (ss_one (sd_asg (pd_bin od_add (pd_var (i := 3) rfl (.inl rfl)) (pd_bin od_mul pd_int (pd_var (i := 4) rfl (.inl rfl)))) (gd_name (i := 3) rfl (.inl ⟨rfl, .inl rfl⟩))))))
      (ss_one (sd_ret pd_bl))))) ?_
  · rintro ds q ⟨p, s, d, rfl, _⟩
    rfl
  · rintro ds q ⟨p, s, d, rfl, hs, hl, hd, h⟩
    walk_at "rd"
    refine ⟨d, rfl, hd, ?_⟩
    show if (!formB d) = true then q (.bool false) else _
    cases hf : formB d with
    | false =>
      rw [collB_form hf] at h
      exact h
    | true =>
      obtain ⟨ns, rfl, hn⟩ := formB_ex hf
      rw [collB_ints hn] at h
      refine itF (by decide) ?_
      walk_at "rd"
      by_cases hsum : 2 * ns.sum = (s.length : Int)
      · rw [decide_eq_true hsum, Bool.true_and] at h
        refine itF (nF hsum) (for_run (ns.map .int) (fun R h => ?_) (fun i ow ρ => ow = .no ∧ ∃ st : Nat, (∃ x, ρ = [.d (tI p), .d (tI s), .d (tI ns), .d (.int st), x]) ∧ chainB p s ns = chainB p (s.drop st) (ns.drop i)) ⟨rfl, 0, ⟨_, rfl⟩, rfl⟩ (fun i d ow ρ hd hi => ?_) (fun ow ρ hi => ?_))
        · walk_at "rd"
          exact h
        · obtain ⟨rfl, st, ⟨x, rfl⟩, hc⟩ := hi
          rw [List.getElem?_map] at hd
          obtain ⟨n, hn1, rfl⟩ := Option.map_eq_some_iff.mp hd
          have hmem := hn n (List.mem_of_getElem? hn1)
          have e2 : (st : Int) + 2 * n = ((st + (2 * n).toNat : Nat) : Int) := by omega
          have hdr : ns.drop i = n :: ns.drop (i + 1) := by
            obtain ⟨hlt, e⟩ := List.getElem?_eq_some_iff.mp hn1
            rw [List.drop_eq_getElem_cons hlt, e]
          rw [hdr] at hc
          simp only [chainB, List.drop_drop] at hc
          walk_at "rd"
          rw [e2, cut_ints (by omega) (by omega), show ((st : Nat) : Int).toNat = st by omega, show (((st + (2 * n).toNat : Nat) : Int)).toNat - st = (2 * n).toNat by omega]
          refine ⟨p, _, rfl, mks_take _ (mks_drop _ hs), ?_, ?_⟩
          · rw [List.length_take, List.length_drop]
            omega
          · cases hb : gatB p (List.take (2 * n).toNat (List.drop st s)) with
            | false =>
              rw [hb, Bool.false_and] at hc
              rw [hc] at h
              exact h
            | true =>
              rw [hb, Bool.true_and] at hc
              exact ⟨st + (2 * n).toNat, ⟨_, rfl⟩, hc⟩
        · obtain ⟨rfl, st, ⟨x, rfl⟩, hc⟩ := hi
          walk_at "rd"
          rw [List.length_map, List.drop_length] at hc
          rw [hc] at h
          exact h
      · rw [decide_eq_false hsum, Bool.false_and] at h
        exact itT (nT hsum) h
end Qm


namespace Qm
open PySem PySem.Spec PyProof.Rows L2
local macro_rules | `(tactic| walk_at "rd") => `(tactic| simp only [dRet, dDrop, dAnd, dOr, dUn, rdIsi, dVar, dC, sel, dNotV, dChain, dBin, rdEq, rdNe, rdNeg, dTB, tAndD, tOrD, tNotD, dTru, dNil, dCons, dTup, dLst, dSl, dNoPart, dPart, dRev, dNext, dSeq, dIf, dAsg, gN, gP, dCall, dNever, dNewL, dApp, dTupO, dNewD, dGetO, dPutO, selO, noOwn, dRng, dIlst, dItup, dIenum, boolD_b, intD_i, tupD_t, lstD_l, pairD_2, truD_n, truD_b, truD_i, truD_l, truD_t, rdLen_t, rdLen_l, rdTuple_t, rdTuple_l, rdList_t, rdList_l, rdIx_t, rdIx_l, rdMul_i, rdMul_t, rdMul_l, rdAdd_i, rdAdd_t, rdAdd_l, rdI_i, rdI0_i, rdIn_l, rdNotIn_l, rdIs_n, rdSum_t, intsD_map, intsD_1, intsD_2, intsD_3, rg1_1, rg2_2, rg3_3, optD_s, atI_0, atI_1, atI_2, atI_l1, atI_l2, atI_l3, startD, List.map, List.length, List.cons_append, List.nil_append, Nat.reduceAdd, Nat.reduceSub, Nat.sub_self, List.replicate, List.append_nil, List.set, Nat.zero_add, wipeD, if_true, if_false, reduceIte, Bool.not_true, Bool.not_false, Bool.false_eq_true, List.length_map, shp_int, eqv_int, true_and, and_true, CDiv, Int.reduceLT, Int.reduceLE, Int.reducePow, Int.reduceNeg, Int.reduceMul, isIntD_int, isBoolD_int, isBoolD_bool, isIntD_bool, isTupD_tup, isStrD_str])

/-! ### sequence_evidence -/
def prD (x : Int × Int) : PyData := .tuple [.int x.1, .int x.2]
abbrev wC : Str := "collation"
abbrev wR : Str := "rest"
inductive Raw : PyData → Prop
  | col (ns : List Int) (hl : ns.length ≤ 20) (hn : ∀ n ∈ ns, 0 ≤ n ∧ n ≤ 100) : Raw (.tuple [.str wC, tI ns])
  | rest (ns : List Int) (ps : List (Int × Int)) (hl : ns.length ≤ 20) (hp : ps.length ≤ 20) (hn : ∀ n ∈ ns, 0 ≤ n ∧ n ≤ 100) (hx : ∀ x ∈ ps, (-100 ≤ x.1 ∧ x.1 ≤ 100) ∧ (-100 ≤ x.2 ∧ x.2 ≤ 100)) : Raw (.tuple [.str wR, tI ns, .tuple (ps.map prD)])
theorem mem_le_sum : ∀ {ns : List Int} {n : Int}, (∀ m ∈ ns, 0 ≤ m) → n ∈ ns → n ≤ ns.sum
  | m :: r, n, h, hn => by
    have h1 := h m List.mem_cons_self
    have h2 : 0 ≤ r.sum := by
      have aux : ∀ l : List Int, (∀ m ∈ l, 0 ≤ m) → 0 ≤ l.sum := by
        intro l
        induction l with
        | nil => intro _; simp
        | cons a b ih =>
          intro hh
          have a1 := hh a List.mem_cons_self
          have a2 := ih fun c hc => hh c (List.mem_cons_of_mem _ hc)
          rw [List.sum_cons]
          omega
      exact aux r fun k hk => h k (List.mem_cons_of_mem _ hk)
    rw [List.sum_cons]
    rcases List.mem_cons.mp hn with e | hn
    · rw [e]
      omega
    · have := mem_le_sum (ns := r) (fun k hk => h k (List.mem_cons_of_mem _ hk)) hn
      omega
def fn_sequence_evidence : Fn := fun ds q => ∃ p s, ds = [tI p, tI s] ∧ Pap p ∧ Mks p s ∧ s.length ≤ 16 ∧ ∀ v, Raw v → q v
abbrev st_sequence_evidence : Stmt := topS 23
abbrev N_sequence_evidence : List Str := ["paper", "sequence", "told", "start", "pairs", "many", "lengths", "left", "leaf", "other", "length"]
theorem sc_sequence_evidence : FnScope N_sequence_evidence ["paper", "sequence"] (defScope st_sequence_evidence) := ⟨rfl, rfl, rfl, by decide +kernel, rfl, by decide +kernel, by decide +kernel⟩
theorem ok_sequence_evidence {g : Gm} {f : Addr} {fd : FuncData} (F : Fun g.K "sequence_evidence" "sequence_evidence" st_sequence_evidence f fd) (hb : Binds g.K fd ["paper", "sequence"] []) (hm : g.mg "sequence_evidence" = some (.ref f)) (m_len : g.mg "len" = none) (m_range : g.mg "range" = none) (m_tuple : g.mg "tuple" = none) (h_check_sequence : FD g 4 "check_sequence" fn_check_sequence) (h_split_of : FD g 4 "split_of" fn_split_of) (h_conflict_of : FD g 1 "conflict_of" fn_conflict_of) : FD g 5 "sequence_evidence" fn_sequence_evidence := by
  refine fd_mk (k := 4) F sc_sequence_evidence hb hm ?_
    (ss_cons (sd_expr (pd_call h_check_sequence (show (4 : Nat) ≤ 4 by decide) rfl (ad_cons (pd_var (i := 0) rfl (.inl rfl)) (ad_cons (pd_var (i := 1) rfl (.inl rfl)) ad_nil))))
      (ss_cons (sd_asg (pd_call h_split_of (show (4 : Nat) ≤ 4 by decide) rfl (ad_cons (pd_var (i := 0) rfl (.inl rfl)) (ad_cons (pd_var (i := 1) rfl (.inl rfl)) ad_nil))) (gd_pair (i := 6) (j := 7) rfl (.inl ⟨rfl, .inl rfl⟩) rfl (.inl ⟨rfl, .inl rfl⟩)))
      (ss_cons (sd_asg (pd_callTy cd_tuple rfl m_tuple (by decide +kernel) (pd_lc (own := [("length", 10)]) (id_tup (pd_var (i := 6) rfl (.inl rfl))) (blk_ok (N := N_sequence_evidence) (sc := defScope st_sequence_evidence) (by decide +kernel)) (gd_name (i := 10) rfl (.inr rfl)) (fun _ h => h) (pd_bin od_fdiv (pd_var (i := 10) rfl (.inl rfl)) pd_int))) (gd_name (i := 2) rfl (.inl ⟨rfl, .inl rfl⟩)))
      (ss_cons (sd_if (td_cmp od_eq (pd_var (i := 7) rfl (.inl rfl)) pd_int (nomark _)) (ss_one (sd_ret (pd_tup (ad_cons pd_str (ad_cons (pd_var (i := 2) rfl (.inl rfl)) ad_nil))))) ss_nil)
      (ss_cons (sd_asg (pd_bin od_sub (pd_callB cd_len rfl m_len (by decide +kernel) (pd_var (i := 1) rfl (.inl rfl))) (pd_var (i := 7) rfl (.inl rfl))) (gd_name (i := 3) rfl (.inl ⟨rfl, .inl rfl⟩)))
      (ss_cons (sd_newL (i := 4) rfl (.inl ⟨rfl, .inl rfl⟩))
      (ss_cons (sd_for rfl (id_range3 rfl m_range (ad_cons pd_int (ad_cons (pd_bin od_add (pd_var (i := 7) rfl (.inl rfl)) pd_int) (ad_cons pd_int ad_nil)))) (gd_name (i := 5) rfl (.inl ⟨rfl, .inl rfl⟩)) (ss_cons (sd_asg (pd_call h_conflict_of (show (1 : Nat) ≤ 4 by decide) rfl (ad_cons (pd_var (i := 0) rfl (.inl rfl)) (ad_cons (pd_slice (pd_var (i := 1) rfl (.inl rfl)) (od_some (pd_var (i := 3) rfl (.inl rfl))) (od_some (pd_bin od_add (pd_var (i := 3) rfl (.inl rfl)) (pd_var (i := 5) rfl (.inl rfl))))) ad_nil))) (gd_pair (i := 8) (j := 9) rfl (.inl ⟨rfl, .inl rfl⟩) rfl (.inl ⟨rfl, .inl rfl⟩)))
      (ss_one (sd_app (i := 4) rfl (.inl rfl) (pd_tup (ad_cons (pd_bin od_add (pd_var (i := 3) rfl (.inl rfl)) (pd_var (i := 8) rfl (.inl rfl))) (ad_cons (pd_bin od_add (pd_var (i := 3) rfl (.inl rfl)) (pd_var (i := 9) rfl (.inl rfl))) ad_nil)))))))
      (ss_one (sd_ret (pd_tup (ad_cons pd_str (ad_cons (pd_var (i := 2) rfl (.inl rfl)) (ad_cons (pd_tupO (i := 4) rfl m_tuple rfl (.inl rfl)) ad_nil))))))))))))) ?_
  · rintro ds q ⟨p, s, rfl, _⟩
    rfl
  · rintro ds q ⟨p, s, rfl, hp, hs, hl, h⟩
    walk_at "rd"
    refine ⟨p, s, rfl, hp, hs, hl, p, s, rfl, hs, hl, fun ns left hsp => ?_⟩
    walk_at "rd"
    have hb : ∀ n ∈ ns, 2 ≤ n ∧ n ≤ 16 := fun n hn => by
      have h1 := hsp.two n hn
      have h2 := mem_le_sum (fun m hm => by have := hsp.two m hm; omega) hn
      have h3 := hsp.sum
      omega
    refine lc_map (ns.map .int) (fun d => match d with
      | .int n => .int (n / 2)
      | _ => .none) (fun R h => ?_) (by rw [List.length_map]; have := hsp.many; omega) (fun i d hd R hR => ?_) ?_
    · walk_at "rd"
      exact h
    · rw [List.getElem?_map] at hd
      obtain ⟨n, hn1, rfl⟩ := Option.map_eq_some_iff.mp hd
      walk_at "rd"
      exact hR
    have e1 : (ns.map PyData.int).map (fun d => match d with
      | .int n => PyData.int (n / 2)
      | _ => .none) = (ns.map fun n => n / 2).map .int := by
      rw [List.map_map, List.map_map]
      rfl
    rw [e1]
    have hraw : (ns.map fun n => n / 2).length ≤ 20 := by
      have := hsp.many
      rw [List.length_map]
      omega
    have hran : ∀ m ∈ (ns.map fun n => n / 2), 0 ≤ m ∧ m ≤ 100 := fun m hm => by
      obtain ⟨n, hn, rfl⟩ := List.mem_map.mp hm
      have := hb n hn
      omega
    walk_at "rd"
    refine ite2 (fun _ => ⟨by decide, h _ (.col _ hraw hran)⟩) fun hl0 => ?_
    have hleft : 0 < left := by
      have := of_decide_eq_false (Bool.eq_false_iff.mpr hl0)
      omega
    have hle : left ≤ s.length := by
      have h1 := hsp.sum
      have h2 : 0 ≤ ns.sum := by
        have := many_of_two hsp.two
        omega
      omega
    have est : (s.length : Int) - (left : Int) = ((s.length - left : Nat) : Int) := by omega
    rw [est]
    generalize hst : s.length - left = st at *
    refine for_run (rangeL 2 2 ((((left : Int) + 1) - 2 + 1) / 2).toNat) (fun R h => ?_) (fun i ow ρ => ∃ prs : List (Int × Int), ow = .l (prs.map prD) ∧ prs.length = i ∧ (∀ x ∈ prs, (-100 ≤ x.1 ∧ x.1 ≤ 100) ∧ (-100 ≤ x.2 ∧ x.2 ≤ 100)) ∧ ∃ a b c, ρ = [.d (tI p), .d (tI s), .d (tI (ns.map fun n => n / 2)), .d (.int st), .own, a, .d (tI ns), .d (.int left), b, c, .u]) ⟨[], rfl, rfl, by simp, _, _, _, rfl⟩ (fun i d ow ρ hd hi => ?_) (fun ow ρ hi => ?_)
    · walk_at "rd"
      exact ⟨_, rgc_two (by omega) (by omega) (by omega) (by omega), h⟩
    · obtain ⟨prs, rfl, hpl, hpb, a, b, c, rfl⟩ := hi
      obtain ⟨hi2, rfl⟩ := rangeL_get hd
      rw [show (2 : Int) + (i : Int) * 2 = ((2 * (i + 1) : Nat) : Int) by omega]
      walk_at "rd"
      have hk : 2 * (i + 1) ≤ left := by omega
      have hlen : (List.take (2 * (i + 1)) (List.drop st s)).length = 2 * (i + 1) := by
        rw [List.length_take, List.length_drop]
        omega
      rw [cut_ints (by omega) (by omega), show ((st : Nat) : Int).toNat = st by omega, show ((st : Int) + ((2 * (i + 1) : Nat) : Int)).toNat - st = 2 * (i + 1) by omega]
      refine ⟨p, _, rfl, mks_take _ (mks_drop _ hs), by rw [hlen]; omega, fun d hc => ?_⟩
      cases hc with
      | gat hg =>
        have z := hsp.stop (i + 1) (by omega) hk
        rw [hst] at z
        rw [z] at hg
        cases hg
      | nil h0 => omega
      | odd _ h1 => omega
      | bad j h1 hj hb2 =>
        rw [hlen] at hj ⊢
        walk_at "rd"
        refine ⟨by decide, by omega, prs ++ [((st : Int) + (j : Int), (st : Int) + (((2 * (i + 1) : Nat) : Int) - 1 - (j : Int)))], ?_, ?_, ?_, _, _, _, rfl⟩
        · rw [List.map_append]
          rfl
        · rw [List.length_append, hpl]
          rfl
        · intro x hx
          rcases List.mem_append.mp hx with hx | hx
          · exact hpb x hx
          · rw [List.mem_singleton.mp hx]
            refine ⟨⟨?_, ?_⟩, ?_, ?_⟩ <;> simp only <;> omega
    · obtain ⟨prs, rfl, hpl, hpb, a, b, c, rfl⟩ := hi
      rw [rangeL_len] at hpl
      walk_at "rd"
      exact ⟨by decide, h _ (.rest _ prs hraw (by omega) hran hpb)⟩

/-! ### parts, shows_rest, accepts_sequence -/
def partsB (p s : List Int) (st m : Int) : PyData → Bool
  | .tuple [x, y] => (isWhole x st (st + m - 1) && isWhole y st (st + m - 1)) && (match x, y with
    | .int a, .int b => decide (a < b) && decide (a + b = 2 * st + m - 1) && !decide (gi p (gi s a) = gi s b)
    | _, _ => false)
  | _ => false
def fn_parts : Fn := fun ds q => ∃ p s st m d, ds = [tI p, tI s, .int st, .int m, d] ∧ Mks p s ∧ s.length ≤ 16 ∧ 0 ≤ st ∧ st + m ≤ s.length ∧ q (.bool (partsB p s st m d))
abbrev st_parts : Stmt := topS 24
abbrev N_parts : List Str := ["paper", "sequence", "start", "many", "pair", "leaf"]
theorem sc_parts : FnScope N_parts ["paper", "sequence", "start", "many", "pair"] (defScope st_parts) := ⟨rfl, rfl, rfl, by decide +kernel, rfl, by decide +kernel, by decide +kernel⟩
theorem ok_parts {g : Gm} {f : Addr} {fd : FuncData} (F : Fun g.K "parts" "parts" st_parts f fd) (hb : Binds g.K fd ["paper", "sequence", "start", "many", "pair"] []) (hm : g.mg "parts" = some (.ref f)) (m_all : g.mg "all" = none) (m_isinstance : g.mg "isinstance" = none) (m_len : g.mg "len" = none) (m_tuple : g.mg "tuple" = none) (h_is_whole : FD g 1 "is_whole" fn_is_whole) : FD g 2 "parts" fn_parts := by
  refine fd_mk (k := 1) F sc_parts hb hm ?_
    (ss_cons (sd_if (Wdd.td (wd_or (td_not (td_tru (pd_isi kit_tuple rfl m_isinstance rfl m_tuple (by decide +kernel) (pd_var (i := 4) rfl (.inl rfl))) (fun _ _ => rfl))) (wd_or1 (td_cmp od_ne (pd_callB cd_len rfl m_len (by decide +kernel) (pd_var (i := 4) rfl (.inl rfl))) pd_int (nomark _))))) (ss_one (sd_ret pd_bl)) ss_nil)
      (ss_cons (sd_if (Wdd.td (wd_or (td_not (td_tru (pd_callB cd_all rfl m_all (by decide +kernel) (pd_lc (own := [("leaf", 5)]) (id_tup (pd_var (i := 4) rfl (.inl rfl))) (blk_ok (N := N_parts) (sc := defScope st_parts) (by decide +kernel)) (gd_name (i := 5) rfl (.inr rfl)) (fun _ h => h) (pd_call h_is_whole (show (1 : Nat) ≤ 1 by decide) rfl (ad_cons (pd_var (i := 5) rfl (.inl rfl)) (ad_cons (pd_var (i := 2) rfl (.inr (.inl rfl))) (ad_cons (pd_bin od_sub (pd_bin od_add (pd_var (i := 2) rfl (.inr (.inl rfl))) (pd_var (i := 3) rfl (.inr (.inl rfl)))) pd_int) ad_nil)))))) (fun _ _ => rfl))) (wd_or1 (td_cmp od_ge (pd_ix (pd_var (i := 4) rfl (.inl rfl)) pd_int (fun _ _ => rfl)) (pd_ix (pd_var (i := 4) rfl (.inl rfl)) pd_int (fun _ _ => rfl)) (nomark _))))) (ss_one (sd_ret pd_bl)) ss_nil)
      (ss_one (sd_ret (pd_and (pd_cmp od_eq (pd_bin od_add (pd_ix (pd_var (i := 4) rfl (.inl rfl)) pd_int (fun _ _ => rfl)) (pd_ix (pd_var (i := 4) rfl (.inl rfl)) pd_int (fun _ _ => rfl))) (pd_bin od_sub (pd_bin od_add (pd_bin od_mul pd_int (pd_var (i := 2) rfl (.inr (.inl rfl)))) (pd_var (i := 3) rfl (.inr (.inl rfl)))) pd_int) (nomark _)) (pd_one (pd_cmp od_ne (pd_ix (pd_var (i := 0) rfl (.inl rfl)) (pd_ix (pd_var (i := 1) rfl (.inl rfl)) (pd_ix (pd_var (i := 4) rfl (.inl rfl)) pd_int (fun _ _ => rfl)) (fun _ _ => rfl)) (fun _ _ => rfl)) (pd_ix (pd_var (i := 1) rfl (.inl rfl)) (pd_ix (pd_var (i := 4) rfl (.inl rfl)) pd_int (fun _ _ => rfl)) (fun _ _ => rfl)) (nomark _)))))))) ?_
  · rintro ds q ⟨p, s, st, m, d, rfl, _⟩
    rfl
  · rintro ds q ⟨p, s, st, m, d, rfl, hs, hl, h0, h1, h⟩
    walk_at "rd"
    cases d with
    | tuple ds =>
      match ds, h with
      | [], h =>
        walk_at "rd"
        exact itT (nT (by decide)) h
      | [a], h =>
        walk_at "rd"
        exact itT (nT (by decide)) h
      | a :: b :: c :: r, h =>
        walk_at "rd"
        exact itT (nT (by omega)) h
      | [a, b], h =>
        walk_at "rd"
        refine itF (nF (by decide)) (lc_all [a, b] (fun d => isWhole d st (st + m - 1)) (fun R h => ?_) (by show 2 ≤ 100000; decide) (fun i d hd R hR => ?_) ?_)
        · walk_at "rd"
          exact h
        · walk_at "rd"
          exact ⟨_, _, _, rfl, hR⟩
        walk_at "rd"
        have e : ([a, b].all fun d => isWhole d st (st + m - 1)) = (isWhole a st (st + m - 1) && isWhole b st (st + m - 1)) := by simp
        rw [e]
        simp only [partsB] at h
        cases hw : (isWhole a st (st + m - 1) && isWhole b st (st + m - 1)) with
        | false =>
          rw [hw, Bool.false_and] at h
          exact h
        | true =>
          rw [hw, Bool.true_and] at h
          rw [Bool.and_eq_true] at hw
          cases a with
          | int a =>
            cases b with
            | int b =>
              simp only [isWhole, Bool.and_eq_true, decide_eq_true_eq] at hw
              have h : q (.bool (decide (a < b) && decide (a + b = 2 * st + m - 1) && !decide (gi p (gi s a) = gi s b))) := h
              walk_at "rd"
              by_cases hab : a < b
              · rw [decide_eq_true hab, Bool.true_and] at h
                refine itF (dF (by omega)) ?_
                by_cases hsum : a + b = 2 * st + m - 1
                · rw [decide_eq_true hsum, Bool.true_and] at h
                  have a0 : 0 ≤ a := by omega
                  have a1 : a < s.length := by omega
                  have b0 : 0 ≤ b := by omega
                  have b1 : b < s.length := by omega
                  obtain ⟨m0, m1⟩ := hs _ (gi_mem a0 a1)
                  refine itT (dT hsum) ?_
                  rw [atI_int a0 a1]
                  walk_at "rd"
                  rw [atI_int m0 m1, atI_int b0 b1]
                  walk_at "rd"
                  exact h
                · rw [decide_eq_false hsum, Bool.false_and] at h
                  exact itF (dF hsum) h
              · rw [decide_eq_false hab, Bool.false_and, Bool.false_and] at h
                exact itT (dT (by omega)) h
            | _ => exact absurd hw.2 (by simp [isWhole])
          | _ => exact absurd hw.1 (by simp [isWhole])
    | _ => exact itT (by simp [isTupD]) (by simpa [partsB] using h)
def prtB (p s : List Int) (st : Int) : PyData → Bool
  | .tuple [.int i, d] => partsB p s st (2 * i + 2) d
  | _ => false
def showsB (p s : List Int) (told pairs : PyData) : Bool := match told, pairs with
  | .tuple ts, .tuple ps => match intL ts with
    | some ns => formB (.tuple ts) && decide (2 * ns.sum < s.length) && chainB p (s.take (2 * ns.sum).toNat) ns && decide ((ps.length : Int) = ((s.length : Int) - 2 * ns.sum) / 2) && (enumL ps).all (prtB p s (2 * ns.sum))
    | none => false
  | _, _ => false
theorem form_tI {ns : List Int} (h : ∀ n ∈ ns, 1 ≤ n ∧ n ≤ 8) : formB (tI ns) = true := by
  show (ns.map PyData.int).all (fun x => isWhole x 1 8) = true
  rw [List.all_map, List.all_eq_true]
  intro n hn
  obtain ⟨h1, h2⟩ := h n hn
  simp [isWhole, h1, h2]
theorem showsB_ints {p s ns : List Int} {ps : List PyData} (h : ∀ n ∈ ns, 1 ≤ n ∧ n ≤ 8) : showsB p s (tI ns) (.tuple ps) = (decide (2 * ns.sum < s.length) && chainB p (s.take (2 * ns.sum).toNat) ns && decide ((ps.length : Int) = ((s.length : Int) - 2 * ns.sum) / 2) && (enumL ps).all (prtB p s (2 * ns.sum))) := by
  have e := form_tI h
  simp only [showsB, intL_map, e, Bool.true_and]
theorem showsB_form {p s : List Int} {told pairs : PyData} (h : formB told = false) : showsB p s told pairs = false := by
  cases told with
  | tuple ts =>
    cases pairs with
    | tuple ps =>
      simp only [showsB, h, Bool.false_and]
      cases intL ts <;> rfl
    | _ => rfl
  | _ => rfl
theorem showsB_tup {p s : List Int} {told pairs : PyData} (h : isTupD pairs = false) : showsB p s told pairs = false := by
  cases told with
  | tuple ts =>
    cases pairs with
    | tuple ps => exact nomatch h
    | _ => rfl
  | _ => rfl
theorem enumL_get {ps : List PyData} {i : Nat} {d : PyData} (h : (enumL ps)[i]? = some d) : ∃ d0, ps[i]? = some d0 ∧ d = .tuple [.int (i : Int), d0] := by
  unfold enumL at h
  rw [List.getElem?_mapIdx] at h
  obtain ⟨d0, h0, rfl⟩ := Option.map_eq_some_iff.mp h
  exact ⟨d0, h0, rfl⟩
theorem enumL_len {ps : List PyData} : (enumL ps).length = ps.length := by simp [enumL]
theorem sum_nn {ns : List Int} (h : ∀ n ∈ ns, 1 ≤ n ∧ n ≤ 8) : 0 ≤ ns.sum := by
  induction ns with
  | nil => simp
  | cons a b ih =>
    have a1 := h a List.mem_cons_self
    have a2 := ih fun c hc => h c (List.mem_cons_of_mem _ hc)
    rw [List.sum_cons]
    omega
theorem cut_to {s : List Int} {j : Int} (h1 : 0 ≤ j) : cutD (s.map PyData.int) none (some j) = (s.take j.toNat).map PyData.int := by
  have e : cutD (s.map PyData.int) none (some j) = cutD (s.map PyData.int) (some 0) (some j) := by
    unfold cutD
    rw [HT.sIx_none, sIx_int _ _ 0 (by decide)]
    simp
  rw [e, cut_ints (by decide) h1]
  simp
def fn_shows_rest : Fn := fun ds q => ∃ p s told pairs, ds = [tI p, tI s, told, pairs] ∧ Mks p s ∧ s.length ≤ 16 ∧ lenOk told ∧ lenOk pairs ∧ q (.bool (showsB p s told pairs))
abbrev st_shows_rest : Stmt := topS 25
abbrev N_shows_rest : List Str := ["paper", "sequence", "told", "pairs", "start", "left", "at", "pair"]
theorem sc_shows_rest : FnScope N_shows_rest ["paper", "sequence", "told", "pairs"] (defScope st_shows_rest) := ⟨rfl, rfl, rfl, by decide +kernel, rfl, by decide +kernel, by decide +kernel⟩
theorem ok_shows_rest {g : Gm} {f : Addr} {fd : FuncData} (F : Fun g.K "shows_rest" "shows_rest" st_shows_rest f fd) (hb : Binds g.K fd ["paper", "sequence", "told", "pairs"] []) (hm : g.mg "shows_rest" = some (.ref f)) (m_all : g.mg "all" = none) (m_enumerate : g.mg "enumerate" = none) (m_isinstance : g.mg "isinstance" = none) (m_len : g.mg "len" = none) (m_sum : g.mg "sum" = none) (m_tuple : g.mg "tuple" = none) (h_is_collation_form : FD g 2 "is_collation_form" fn_is_collation_form) (h_is_collation_of : FD g 3 "is_collation_of" fn_is_collation_of) (h_parts : FD g 2 "parts" fn_parts) : FD g 4 "shows_rest" fn_shows_rest := by
  refine fd_mk (k := 3) F sc_shows_rest hb hm ?_
    (ss_cons (sd_if (Wdd.td (wd_or (td_not (td_tru (pd_call h_is_collation_form (show (2 : Nat) ≤ 3 by decide) rfl (ad_cons (pd_var (i := 2) rfl (.inl rfl)) ad_nil)) (fun _ _ => rfl))) (wd_or1 (td_not (td_tru (pd_isi kit_tuple rfl m_isinstance rfl m_tuple (by decide +kernel) (pd_var (i := 3) rfl (.inl rfl))) (fun _ _ => rfl)))))) (ss_one (sd_ret pd_bl)) ss_nil)
      (ss_cons (sd_asg (pd_bin od_mul pd_int (pd_callB cd_sum rfl m_sum (by decide +kernel) (pd_var (i := 2) rfl (.inl rfl)))) (gd_name (i := 4) rfl (.inl ⟨rfl, .inr rfl⟩)))
      (ss_cons (sd_asg (pd_bin od_sub (pd_callB cd_len rfl m_len (by decide +kernel) (pd_var (i := 1) rfl (.inr (.inl rfl)))) (pd_var (i := 4) rfl (.inr (.inl rfl)))) (gd_name (i := 5) rfl (.inl ⟨rfl, .inl rfl⟩)))
      (ss_cons (sd_if (Wdd.td (wd_or (td_cmp od_lt (pd_var (i := 5) rfl (.inl rfl)) pd_int (nomark _)) (wd_or (td_not (td_tru (pd_call h_is_collation_of (show (3 : Nat) ≤ 3 by decide) rfl (ad_cons (pd_var (i := 0) rfl (.inr (.inl rfl))) (ad_cons (pd_slice (pd_var (i := 1) rfl (.inr (.inl rfl))) od_none (od_some (pd_var (i := 4) rfl (.inr (.inl rfl))))) (ad_cons (pd_var (i := 2) rfl (.inl rfl)) ad_nil)))) (fun _ _ => rfl))) (wd_or1 (td_cmp od_ne (pd_callB cd_len rfl m_len (by decide +kernel) (pd_var (i := 3) rfl (.inl rfl))) (pd_bin od_fdiv (pd_var (i := 5) rfl (.inl rfl)) pd_int) (nomark _)))))) (ss_one (sd_ret pd_bl)) ss_nil)
      (ss_one (sd_ret (pd_callB cd_all rfl m_all (by decide +kernel) (pd_lc (own := [("at", 6), ("pair", 7)]) (id_enum rfl m_enumerate (pd_var (i := 3) rfl (.inl rfl))) (blk_ok (N := N_shows_rest) (sc := defScope st_shows_rest) (by decide +kernel)) (gd_pair (i := 6) (j := 7) rfl (.inr rfl) rfl (.inr rfl)) (fun _ h => h) (pd_call h_parts (show (2 : Nat) ≤ 3 by decide) rfl (ad_cons (pd_var (i := 0) rfl (.inr (.inl rfl))) (ad_cons (pd_var (i := 1) rfl (.inr (.inl rfl))) (ad_cons (pd_var (i := 4) rfl (.inr (.inl rfl))) (ad_cons (pd_bin od_add (pd_bin od_mul pd_int (pd_var (i := 6) rfl (.inl rfl))) pd_int) (ad_cons (pd_var (i := 7) rfl (.inl rfl)) ad_nil)))))))))))))) ?_
  · rintro ds q ⟨p, s, told, pairs, rfl, _⟩
    rfl
  · rintro ds q ⟨p, s, told, pairs, rfl, hs, hl, ht, hps, h⟩
    walk_at "rd"
    refine ⟨told, rfl, ht, ?_⟩
    walk_at "rd"
    cases hf : formB told with
    | false =>
      rw [showsB_form hf] at h
      exact itT rfl h
    | true =>
      refine itF (by decide) ?_
      cases hpt : isTupD pairs with
      | false =>
        rw [showsB_tup hpt] at h
        exact itT rfl h
      | true =>
        obtain ⟨ns, rfl, hn⟩ := formB_ex hf
        cases pairs with
        | tuple ps =>
          rw [showsB_ints hn] at h
          have hsn := sum_nn hn
          walk_at "rd"
          by_cases hlt : 2 * ns.sum < (s.length : Int)
          · rw [decide_eq_true hlt, Bool.true_and] at h
            refine itF (dF (by omega)) ?_
            rw [cut_to (by omega)]
            refine ⟨p, _, _, rfl, mks_take _ hs, by rw [List.length_take]; omega, ht, ?_⟩
            have hl2 : ((List.take (2 * ns.sum).toNat s).length : Int) = 2 * ns.sum := by
              rw [List.length_take]
              omega
            rw [collB_ints hn, decide_eq_true hl2.symm, Bool.true_and]
            walk_at "rd"
            cases hc : chainB p (List.take (2 * ns.sum).toNat s) ns with
            | false =>
              rw [hc, Bool.false_and, Bool.false_and] at h
              exact itT rfl h
            | true =>
              rw [hc, Bool.true_and] at h
              refine itF (by decide) ?_
              by_cases hpl : (ps.length : Int) = ((s.length : Int) - 2 * ns.sum) / 2
              · rw [decide_eq_true hpl, Bool.true_and] at h
                refine itF (nF hpl) (lc_all (enumL ps) (prtB p s (2 * ns.sum)) (fun R h => ?_) (by rw [enumL_len]; exact Nat.le_trans hps (by decide)) (fun i d hd R hR => ?_) h)
                · walk_at "rd"
                  exact h
                · obtain ⟨d0, h0, rfl⟩ := enumL_get hd
                  have hi : i < ps.length := (List.getElem?_eq_some_iff.mp h0).1
                  walk_at "rd"
                  exact ⟨p, s, _, _, _, rfl, hs, hl, by omega, by omega, hR⟩
              · rw [decide_eq_false hpl, Bool.false_and] at h
                exact itT (nT hpl) h
          · rw [decide_eq_false hlt, Bool.false_and, Bool.false_and, Bool.false_and] at h
            exact itT (dT (by omega)) h
        | _ => exact nomatch hpt
def accB (p s : List Int) : PyData → Bool
  | .tuple (.str w :: r) => if (w == wC) = true then (match r with
      | [c] => collB p s c
      | _ => false) else if (w == wR) = true then (match r with
      | [t, ps] => showsB p s t ps
      | _ => false) else false
  | _ => false
def VOk : PyData → Prop
  | .tuple ds => (∀ d ∈ ds, lenOk d) ∧ ∀ h, ds.head? = some h → SeqAt.shaped h = true
  | _ => True
theorem shp_C : SeqAt.shaped (.str wC) = true := by decide +kernel
theorem shp_R : SeqAt.shaped (.str wR) = true := by decide +kernel
theorem eqv_str (x y : Str) : PyData.eqv (.str x) (.str y) = (x == y) := by rw [PyData.eqv]
def fn_accepts_sequence : Fn := fun ds q => ∃ p s v, ds = [tI p, tI s, v] ∧ Pap p ∧ Mks p s ∧ s.length ≤ 16 ∧ VOk v ∧ q (.bool (accB p s v))
abbrev st_accepts_sequence : Stmt := topS 26
abbrev N_accepts_sequence : List Str := ["paper", "sequence", "value"]
theorem sc_accepts_sequence : FnScope N_accepts_sequence ["paper", "sequence", "value"] (defScope st_accepts_sequence) := ⟨rfl, rfl, rfl, by decide +kernel, rfl, by decide +kernel, by decide +kernel⟩
theorem ok_accepts_sequence {g : Gm} {f : Addr} {fd : FuncData} (F : Fun g.K "accepts_sequence" "accepts_sequence" st_accepts_sequence f fd) (hb : Binds g.K fd ["paper", "sequence", "value"] []) (hm : g.mg "accepts_sequence" = some (.ref f)) (m_isinstance : g.mg "isinstance" = none) (m_len : g.mg "len" = none) (m_str : g.mg "str" = none) (m_tuple : g.mg "tuple" = none) (h_check_sequence : FD g 4 "check_sequence" fn_check_sequence) (h_is_collation_of : FD g 3 "is_collation_of" fn_is_collation_of) (h_shows_rest : FD g 4 "shows_rest" fn_shows_rest) : FD g 5 "accepts_sequence" fn_accepts_sequence := by
  refine fd_mk (k := 4) F sc_accepts_sequence hb hm ?_
    (ss_cons (sd_expr (pd_call h_check_sequence (show (4 : Nat) ≤ 4 by decide) rfl (ad_cons (pd_var (i := 0) rfl (.inl rfl)) (ad_cons (pd_var (i := 1) rfl (.inl rfl)) ad_nil))))
      (ss_cons (sd_if (Wdd.td (wd_or (td_not (td_tru (pd_isi kit_tuple rfl m_isinstance rfl m_tuple (by decide +kernel) (pd_var (i := 2) rfl (.inl rfl))) (fun _ _ => rfl))) (wd_or (td_not (td_tru (pd_var (i := 2) rfl (.inl rfl)) (fun _ _ => rfl))) (wd_or1 (td_not (td_tru (pd_isi kit_str rfl m_isinstance rfl m_str (by decide +kernel) (pd_ix (pd_var (i := 2) rfl (.inl rfl)) pd_int (fun _ _ => rfl))) (fun _ _ => rfl))))))) (ss_one (sd_ret pd_bl)) ss_nil)
      (ss_cons (sd_if (td_cmp od_eq (pd_ix (pd_var (i := 2) rfl (.inl rfl)) pd_int (fun _ _ => rfl)) pd_str (nomark _)) (ss_one (sd_ret (pd_and (pd_cmp od_eq (pd_callB cd_len rfl m_len (by decide +kernel) (pd_var (i := 2) rfl (.inl rfl))) pd_int (nomark _)) (pd_one (pd_call h_is_collation_of (show (3 : Nat) ≤ 4 by decide) rfl (ad_cons (pd_var (i := 0) rfl (.inl rfl)) (ad_cons (pd_var (i := 1) rfl (.inl rfl)) (ad_cons (pd_ix (pd_var (i := 2) rfl (.inl rfl)) pd_int (fun _ _ => rfl)) ad_nil)))))))) ss_nil)
      (ss_one (sd_ret (pd_and (pd_cmp od_eq (pd_ix (pd_var (i := 2) rfl (.inl rfl)) pd_int (fun _ _ => rfl)) pd_str (nomark _)) (pd_and (pd_cmp od_eq (pd_callB cd_len rfl m_len (by decide +kernel) (pd_var (i := 2) rfl (.inl rfl))) pd_int (nomark _)) (pd_one (pd_call h_shows_rest (show (4 : Nat) ≤ 4 by decide) rfl (ad_cons (pd_var (i := 0) rfl (.inl rfl)) (ad_cons (pd_var (i := 1) rfl (.inl rfl)) (ad_cons (pd_ix (pd_var (i := 2) rfl (.inl rfl)) pd_int (fun _ _ => rfl)) (ad_cons (pd_ix (pd_var (i := 2) rfl (.inl rfl)) pd_int (fun _ _ => rfl)) ad_nil))))))))))))) ?_
  · rintro ds q ⟨p, s, v, rfl, _⟩
    rfl
  · rintro ds q ⟨p, s, v, rfl, hp, hs, hl, hv, h⟩
    walk_at "rd"
    refine ⟨p, s, rfl, hp, hs, hl, ?_⟩
    cases v with
    | tuple ds =>
      cases ds with
      | nil =>
        walk_at "rd"
        exact h
      | cons hd r =>
        walk_at "rd"
        cases hd with
        | str w =>
          have hshp := hv.2 _ rfl
          walk_at "rd"
          refine itF (by simp) ⟨hshp, shp_C, ?_⟩
          simp only [accB] at h
          rw [eqv_str]
          by_cases hc : (w == wC) = true
          · rw [if_pos hc] at h
            refine itT hc ?_
            match r, hv, h with
            | [], _, h => exact itF (dF (by simp only [List.length_nil]; omega)) h
            | [c], hv, h =>
              refine itT (dT (by simp only [List.length_cons, List.length_nil]; omega)) ?_
              rw [atI_1]
              exact ⟨p, s, c, rfl, hs, hl, hv.1 c (by simp), h⟩
            | a :: b :: r', _, h => exact itF (dF (by simp only [List.length_cons]; omega)) h
          · rw [if_neg hc] at h
            refine itF hc ⟨hshp, shp_R, ?_⟩
            by_cases hc2 : (w == wR) = true
            · rw [if_pos hc2] at h
              refine itT hc2 ?_
              match r, hv, h with
              | [], _, h => exact itF (dF (by simp only [List.length_nil]; omega)) h
              | [_], _, h => exact itF (dF (by simp only [List.length_cons, List.length_nil]; omega)) h
              | [t, ps], hv, h =>
                refine itT (dT (by simp only [List.length_cons, List.length_nil]; omega)) ?_
                rw [atI_1, atI_2]
                exact ⟨p, s, t, ps, rfl, hs, hl, hv.1 t (by simp), hv.1 ps (by simp), h⟩
              | a :: b :: c :: r', _, h => exact itF (dF (by simp only [List.length_cons]; omega)) h
            · rw [if_neg hc2] at h
              exact itF hc2 h
        | _ => exact itF (by simp [isStrD]) h
    | _ => exact itT (by simp [isTupD]) h
end Qm


namespace Qm
open PySem PySem.Spec PyProof.Rows L2
local macro_rules | `(tactic| walk_at "rd") => `(tactic| simp only [dRet, dDrop, dAnd, dOr, dUn, rdIsi, dVar, dC, sel, dNotV, dChain, dBin, rdEq, rdNe, rdNeg, dTB, tAndD, tOrD, tNotD, dTru, dNil, dCons, dTup, dLst, dSl, dNoPart, dPart, dRev, dNext, dSeq, dIf, dAsg, gN, gP, dCall, dNever, dNewL, dApp, dTupO, dNewD, dGetO, dPutO, selO, noOwn, dRng, dIlst, dItup, dIenum, boolD_b, intD_i, tupD_t, lstD_l, pairD_2, truD_n, truD_b, truD_i, truD_l, truD_t, rdLen_t, rdLen_l, rdTuple_t, rdTuple_l, rdList_t, rdList_l, rdIx_t, rdIx_l, rdMul_i, rdMul_t, rdMul_l, rdAdd_i, rdAdd_t, rdAdd_l, rdI_i, rdI0_i, rdIn_l, rdNotIn_l, rdIs_n, rdSum_t, intsD_map, intsD_1, intsD_2, intsD_3, rg1_1, rg2_2, rg3_3, optD_s, atI_0, atI_1, atI_2, atI_l1, atI_l2, atI_l3, startD, List.map, List.length, List.cons_append, List.nil_append, Nat.reduceAdd, Nat.reduceSub, Nat.sub_self, List.replicate, List.append_nil, List.set, Nat.zero_add, wipeD, if_true, if_false, reduceIte, Bool.not_true, Bool.not_false, Bool.false_eq_true, List.length_map, shp_int, eqv_int, true_and, and_true, CDiv, Int.reduceLT, Int.reduceLE, Int.reducePow, Int.reduceNeg, Int.reduceMul, isIntD_int, isBoolD_int, isBoolD_bool, isIntD_bool, isTupD_tup, isStrD_str])

/-! ### _law_next: the stream turns -/
def fn_law_next : Fn := fun ds q => ∃ n, ds = [.dict [], .int n] ∧ 0 < n ∧ n < 1073741824 ∧ ∀ k, 0 ≤ k → k < n → q (.int k)
abbrev st_law_next : Stmt := topS 29
abbrev N_law_next : List Str := ["_law_stream_here", "_law_many", "_law_digit", "_law_k", "_law_cell"]
theorem sc_law_next : FnScope N_law_next ["_law_stream_here", "_law_many"] (defScope st_law_next) := ⟨rfl, rfl, rfl, by decide +kernel, rfl, by decide +kernel, by decide +kernel⟩
def ifBody : Stmt → List Stmt
  | .If _ b _ _ => b
  | _ => []
theorem pvx {L : Lx} {X : Cx} (hX : CxS L X) (i : Nat) {x : Str} {pos : Pos} (hN : L.N[i]? = some x := by rfl) (hv : Vis L.sc x := by exact Or.inl rfl) (hd : (x == ("__debug__" : Str)) = false := by decide) (hcd : (x == ("__classdict__" : Str)) = false := by decide) : PE X (.Name x pos) (tVar i) :=
  pe_var (i := i) (by rw [hX.n]; exact hN) (by rw [hX.sc]; exact hv) hd hcd
section
variable {g : Gm} {X : Cx} {k : Nat} (hX : CxS ⟨g, N_law_next, defScope st_law_next, k, true⟩ X)
include hX
/-- the last three statements -/
def tTail : TS := fun D σ H => ∃ (S c : Addr) (n cell k : Int) (y2 y3 y4 : Option V), σ = [some (.ref S), some (.int n), y2, y3, y4] ∧ H S = some (.lst [.ref c, .int cell, .int k]) ∧ 0 ≤ cell ∧ 0 < n ∧ n < 1073741824 ∧
  ∀ d cell', 0 ≤ d → d < n → 0 ≤ cell' → D.rt (.int d) (upd H S (.lst [.ref c, .int cell', .int k]))
theorem next_tail (m_int : g.mg "int" = none) : PSs X ((defBody st_law_next).drop 1) tTail := ⟨fun pins s σ H D I h => by
  obtain ⟨S, c, n, cell, k, y2, y3, y4, rfl, hS, h0, hn, hn2, q⟩ := h
  refine (pss_cons (ps_asg (pe_op op_mod (pe_callTy call_int1 (gl_of hX rfl) (mg_of0 hX m_int) (by decide +kernel) (pa_cons (pe_ix ix_list (pvx hX 0) pe_int (fun _ _ => rfl)) pa_nil)) (pvx hX 1)) (pg_of hX (i := 2) rfl (.inl ⟨rfl, .inl rfl⟩)))
    (pss_cons (ps_asg (pe_op op_fdiv (pe_ix ix_list (pvx hX 0) pe_int (fun _ _ => rfl)) (pvx hX 1)) (pg_sub (pvx hX 0) pe_int set_list))
    (pss_one (ps_ret (pvx hX 2))))).run pins s _ H D I ?_
  have hL : SqL X.K H S [.ref c, .int cell, .int k] := SqL.of hS
  refine ⟨.ref S, rfl, S, _, 1, .int cell, rfl, rfl, hL, rfl, .inl ⟨cell, rfl, .int n, rfl, cell, n, rfl, rfl, hn, ?_⟩⟩
  refine ⟨.ref S, rfl, S, _, 1, .int cell, rfl, rfl, hL, rfl, .int n, rfl, cell, n, rfl, rfl, ⟨hn, hn2⟩, ?_⟩
  refine ⟨.ref S, rfl, S, _, 1, 1, rfl, rfl, hS, rfl, ?_⟩
  exact ⟨.int (cell % n), rfl, q (cell % n) (cell / n) (Int.emod_nonneg _ (by omega)) (Int.emod_lt_of_pos _ hn) (Int.ediv_nonneg h0 (by omega))⟩⟩
/-- the last two statements of the block -/
def tPutS : TS := fun D σ H => ∃ (S c : Addr) (n cell0 cell k0 k : Int) (y2 : Option V), σ = [some (.ref S), some (.int n), y2, some (.int k), some (.int cell)] ∧ H S = some (.lst [.ref c, .int cell0, .int k0]) ∧
  D.nx σ (upd (upd H S (.lst [.ref c, .int cell, .int k0])) S (.lst [.ref c, .int cell, .int (k + 1)]))
theorem next_put : PSs X ((ifBody ((defBody st_law_next).getD 0 (.Pass ⟨0, 0, 0, 0⟩))).drop 4) tPutS := ⟨fun pins s σ H D I h => by
  obtain ⟨S, c, n, cell0, cell, k0, k, y2, rfl, hS, q⟩ := h
  refine (pss_cons (ps_asg (pvx hX 4) (pg_sub (pvx hX 0) pe_int set_list))
    (pss_one (ps_asg (pe_op op_add (pvx hX 3) pe_int) (pg_sub (pvx hX 0) pe_int set_list)))).run pins s _ H D I ?_
  refine ⟨.int cell, rfl, .ref S, rfl, S, _, 1, 1, rfl, rfl, hS, rfl, ?_⟩
  exact ⟨.int k, rfl, _, _, rfl, rfl, .ref S, rfl, S, _, 2, 2, rfl, rfl, upd_same, rfl, q⟩⟩
/-- the test on 10 ** 18 and what follows -/
def tMix : TS := fun D σ H => ∃ (S c : Addr) (n cell0 cell k0 k : Int) (y2 : Option V), σ = [some (.ref S), some (.int n), y2, some (.int k), some (.int cell)] ∧ H S = some (.lst [.ref c, .int cell0, .int k0]) ∧ 0 ≤ cell ∧
  ∀ cell', 0 ≤ cell' → D.nx [some (.ref S), some (.int n), y2, some (.int k), some (.int cell')] (upd (upd H S (.lst [.ref c, .int cell', .int k0])) S (.lst [.ref c, .int cell', .int (k + 1)]))
theorem next_mix (m_int : g.mg "int" = none) : PSs X ((ifBody ((defBody st_law_next).getD 0 (.Pass ⟨0, 0, 0, 0⟩))).drop 3) tMix := ⟨fun pins s σ H D I h => by
  obtain ⟨S, c, n, cell0, cell, k0, k, y2, rfl, hS, h0, q⟩ := h
  refine (pss_cons (ps_if (pt_cmpR op_lt (pvx hX 4) (pe_op op_pow pe_int pe_int) (nomark _))
      (pss_cons (ps_asg (pe_op op_mod (pe_callTy call_int1 (gl_of hX rfl) (mg_of0 hX m_int) (by decide +kernel) (pa_cons (pe_op op_add (pe_op op_add (pe_op op_mul (pvx hX 4) pe_int) (pe_op op_mul (pvx hX 3) pe_int)) pe_int) pa_nil)) pe_int) (pg_of hX (i := 4) rfl (.inl ⟨rfl, .inl rfl⟩)))
        (pss_one (ps_asg (pe_op op_add (pe_op op_mul (pe_op op_mod (pe_callTy call_int1 (gl_of hX rfl) (mg_of0 hX m_int) (by decide +kernel) (pa_cons (pe_op op_add (pe_op op_mul (pvx hX 4) pe_int) pe_int) pa_nil)) pe_int) pe_int) (pvx hX 4)) (pg_of hX (i := 4) rfl (.inl ⟨rfl, .inl rfl⟩))))) pss_nil)
    (next_put hX)).run pins s _ H D I ?_
  refine ⟨.int cell, rfl, _, _, rfl, rfl, ⟨by decide, by decide, by decide⟩, cell, _, rfl, rfl, _, rfl, ite2 (fun _ => ?_) fun _ => ?_⟩
  · refine ⟨_, rfl, _, _, rfl, rfl, .inr ⟨by decide, by decide⟩, _, rfl, _, _, rfl, rfl, .inr ⟨by decide, by decide⟩, _, _, rfl, rfl, _, _, rfl, rfl, .inl ⟨_, rfl, _, _, rfl, rfl, (by show (0 : Int) < 2147483647; decide), ?_⟩⟩
    have hm20 : 0 ≤ ((cell * 48271 + k * 69621 + 11) % 2147483647 * 16807 + 13) % 2147483647 * 65537 + (cell * 48271 + k * 69621 + 11) % 2147483647 := by omega
    refine ⟨_, rfl, _, _, rfl, rfl, .inr ⟨by decide, by decide⟩, _, _, rfl, rfl, .inl ⟨_, rfl, _, _, rfl, rfl, (by show (0 : Int) < 2147483647; decide), _, _, rfl, rfl, .inr ⟨by decide, by decide⟩, _, rfl, _, _, rfl, rfl, ?_⟩⟩
    exact ⟨S, c, n, cell0, _, k0, k, y2, rfl, hS, q _ hm20⟩
  · exact ⟨S, c, n, cell0, cell, k0, k, y2, rfl, hS, q cell h0⟩⟩
end
theorem ok_law_next {g : Gm} {f : Addr} {fd : FuncData} (F : Fun g.K "_law_next" "_law_next" st_law_next f fd) (hb : Binds g.K fd ["_law_stream_here", "_law_many"] []) (hm : g.mg "_law_next" = some (.ref f)) (m_int : g.mg "int" = none) (m_len : g.mg "len" = none) (m_abs : g.mg "abs" = none) : FD g 1 "_law_next" fn_law_next := by
  refine ⟨f, fd, ["_law_stream_here", "_law_many"], F.ok sc_law_next (fun vs H Q E h => ?_) (fun cdv A outer s H vs Q E hr h => ?_), hm, F.kp, hb⟩
  · obtain ⟨S, G, ds, q, _, r, ⟨n, rfl, _⟩, _⟩ := h
    rw [r.length]
    rfl
  · obtain ⟨S, G, ds, q, w, r, ⟨n, rfl, hn, hn2, hq⟩, fin⟩ := h
    cases r with
    | cons r1 r =>
      cases r with
      | cons r2 r =>
        cases r
        cases r1
        cases r2
        obtain ⟨c, ns, cell, k, hc, hl, hS, h0, hk0⟩ := w.strm
        have hX : CxS ⟨g, N_law_next, defScope st_law_next, 0, true⟩ (cxOf CX0 g.P g.w g.K g.mg g.base N_law_next "_law_next" (defScope st_law_next) f cdv A outer s H E).nox :=
          ⟨rfl, rfl, rfl, rfl, rfl, rfl, sc_law_next.nd, rfl, rfl, hr, fun _ _ => rfl, fun _ => PassesOwn.never⟩
        -- what the caller wants, at any later stream
        have done : ∀ (cell' k' d : Int) (H1 : Hp), (∀ b o, b ≠ S → H b = some o → H1 b = some o) → H1 S = some (.lst [.ref c, .int cell', .int k']) → 0 ≤ cell' → 0 ≤ k' → 0 ≤ d → d < n → Q (.int d) H1 := fun cell' k' d H1 e1 e2 e3 e4 e5 e6 => by
          have wS : ∀ b o, G b = some o → b ≠ S := fun b o e z => by
            rw [z, w.free] at e
            cases e
          refine fin (.int d) (.int d) G H1 ⟨e1, Same.refl G, fun _ _ _ => rfl, fun b o e => ?_⟩ ⟨fun b o e => e1 b o (wS b o e) (w.sub b o e), w.free, c, ns, cell', k', hc, hl, e2, e3, e4⟩ (.int d) (hq d e5 e6)
          by_cases hb : b = S
          · exact ⟨_, by rw [hb]; exact e2⟩
          · exact ⟨o, e1 b o hb e⟩
        have cS : c ≠ S := fun z => by
          rw [z, w.free] at hc
          cases hc
        have cL : H c = some (.lst (ns.map V.int)) := w.sub _ _ hc
        refine ⟨_, pss_cons (ps_if (pt_cmpR op_eq (pe_ix ix_list (pv 0) pe_int (fun _ _ => rfl)) pe_int (nomark _))
            (pss_cons (ps_set (i := 3) sc_law_next.nd rfl (.inl rfl) (pe_ix ix_list (pv 0) pe_int (fun _ _ => rfl)))
            (pss_cons (ps_set (i := 4) sc_law_next.nd rfl (.inl rfl) (pe_op op_add pe_int (pv 3)))
            (pss_cons (ps_if (pt_cmpR op_lt (pv 3) (pe_callB call_len_seq (by rfl) m_len PySem.boot_len (pa_cons (pe_ix ix_list (pv 0) pe_int (fun _ _ => rfl)) pa_nil)) (nomark _))
                (pss_one (ps_set (i := 4) sc_law_next.nd rfl (.inl rfl) (pe_callB call_abs (by rfl) m_abs (by decide +kernel) (pa_cons (pe_ix ix_list (pe_ix ix_list (pv 0) pe_int (fun _ _ => rfl)) (pv 3) (fun _ _ => rfl)) pa_nil)))) pss_nil)
              (next_mix hX m_int)))) pss_nil)
          (next_tail hX m_int), ?_⟩
        have hL : SqL g.K H S [.ref c, .int cell, .int k] := SqL.of hS
        refine ⟨.ref S, rfl, S, _, 1, .int cell, rfl, rfl, hL, rfl, rfl, _, rfl, ite2 (fun _ => ?_) fun _ => ?_⟩
        · refine ⟨.ref S, rfl, S, _, 2, .int k, rfl, rfl, hL, rfl, _, rfl, 7, k, rfl, rfl, .int k, rfl, .ref S, rfl, S, _, 0, .ref c, rfl, rfl, hL, rfl, c, _, rfl, .inl (SqL.of cL), k, _, rfl, rfl, _, rfl, ite2 (fun hlt => ?_) fun _ => ?_⟩
          · have hlt' : k < ((ns.map V.int).length : Int) := of_decide_eq_true hlt
            rw [List.length_map] at hlt'
            obtain ⟨j, rfl⟩ := Int.eq_ofNat_of_zero_le hk0
            have hj : j < ns.length := by omega
            have hat : atI (ns.map V.int) ((j : Nat) : Int) = some (.int ns[j]) := atI_nat (by rw [List.getElem?_map, List.getElem?_eq_getElem hj]; rfl)
            refine ⟨.ref S, rfl, S, _, 0, .ref c, rfl, rfl, hL, rfl, .int (j : Int), rfl, c, _, (j : Int), .int ns[j], rfl, rfl, SqL.of cL, hat, _, rfl, ?_⟩
            refine ⟨S, c, n, cell, _, _, _, _, rfl, hS, by split <;> omega, fun cell' hc' => ?_⟩
            refine ⟨S, c, n, cell', _, _, _, _, rfl, upd_same, hc', hn, hn2, fun d c2 d0 d1 hc2 => ?_⟩
            exact done c2 _ d _ (fun b o hb e => by rw [upd_ne hb, upd_ne hb, upd_ne hb]; exact e) upd_same hc2 (by omega) d0 d1
          · refine ⟨S, c, n, cell, _, _, _, _, rfl, hS, by omega, fun cell' hc' => ?_⟩
            refine ⟨S, c, n, cell', _, _, _, _, rfl, upd_same, hc', hn, hn2, fun d c2 d0 d1 hc2 => ?_⟩
            exact done c2 _ d _ (fun b o hb e => by rw [upd_ne hb, upd_ne hb, upd_ne hb]; exact e) upd_same hc2 (by omega) d0 d1
        · refine ⟨S, c, n, cell, _, _, _, _, rfl, hS, h0, hn, hn2, fun d c2 d0 d1 hc2 => ?_⟩
          exact done c2 _ d _ (fun b o hb e => by rw [upd_ne hb]; exact e) upd_same hc2 hk0 d0 d1
end Qm


namespace Qm
open PySem PySem.Spec PyProof.Rows L2
local macro_rules | `(tactic| walk_at "rd") => `(tactic| simp only [dRet, dDrop, dAnd, dOr, dUn, rdIsi, dVar, dC, sel, dNotV, dChain, dBin, rdEq, rdNe, rdNeg, dTB, tAndD, tOrD, tNotD, dTru, dNil, dCons, dTup, dLst, dSl, dNoPart, dPart, dRev, dNext, dSeq, dIf, dAsg, gN, gP, dCall, dNever, dNewL, dApp, dTupO, dNewD, dGetO, dPutO, selO, noOwn, dRng, dIlst, dItup, dIenum, boolD_b, intD_i, tupD_t, lstD_l, pairD_2, truD_n, truD_b, truD_i, truD_l, truD_t, rdLen_t, rdLen_l, rdTuple_t, rdTuple_l, rdList_t, rdList_l, rdIx_t, rdIx_l, rdMul_i, rdMul_t, rdMul_l, rdAdd_i, rdAdd_t, rdAdd_l, rdI_i, rdI0_i, rdIn_l, rdNotIn_l, rdIs_n, rdSum_t, intsD_map, intsD_1, intsD_2, intsD_3, rg1_1, rg2_2, rg3_3, optD_s, atI_0, atI_1, atI_2, atI_l1, atI_l2, atI_l3, startD, List.map, List.length, List.cons_append, List.nil_append, Nat.reduceAdd, Nat.reduceSub, Nat.sub_self, List.replicate, List.append_nil, List.set, Nat.zero_add, wipeD, if_true, if_false, reduceIte, Bool.not_true, Bool.not_false, Bool.false_eq_true, List.length_map, shp_int, eqv_int, true_and, and_true, CDiv, Int.reduceLT, Int.reduceLE, Int.reducePow, Int.reduceNeg, Int.reduceMul, isIntD_int, isBoolD_int, isBoolD_bool, isIntD_bool, isTupD_tup, isStrD_str])

/-! ### equality over this program's data -/
theorem lay_is : ∀ ns : List Int, PyData.canLayAll0 (ns.map PyData.int) = true
  | [] => by simp [PyData.canLayAll0]
  | n :: r => by simp [PyData.canLayAll0, PyData.canLay0, lay_is r]
theorem dep_is : ∀ ns : List Int, PyData.depthAll (ns.map PyData.int) = 0
  | [] => by simp [PyData.depthAll]
  | n :: r => by
    have := dep_is r
    simp only [List.map_cons, PyData.depthAll, PyData.depth, this, Nat.max_self]
theorem shp_mk {d : PyData} (h1 : d.canLay0 = true) (h2 : d.depth ≤ 64) : SeqAt.shaped d = true := by
  show (d.canLay0 && decide (d.depth ≤ 64)) = true
  rw [h1, decide_eq_true h2]
  rfl
theorem shp_tI (ns : List Int) : SeqAt.shaped (tI ns) = true := shp_mk (by simp only [PyData.canLay0]; exact lay_is ns) (by simp only [PyData.depth, dep_is]; decide)
theorem lay_rows : ∀ rs : List (List Int), PyData.canLayAll0 (rs.map tI) = true
  | [] => by simp [PyData.canLayAll0]
  | n :: r => by
    rw [List.map_cons]
    simp only [PyData.canLayAll0, PyData.canLay0, lay_rows r, lay_is, Bool.and_self]
theorem dep_rows : ∀ rs : List (List Int), PyData.depthAll (rs.map tI) ≤ 1
  | [] => by simp [PyData.depthAll]
  | n :: r => by
    have := dep_rows r
    rw [List.map_cons]
    simp only [PyData.depthAll, PyData.depth, dep_is]
    omega
theorem shp_rows (rs : List (List Int)) : SeqAt.shaped (.list (rs.map tI)) = true := shp_mk (by simp only [PyData.canLay0]; exact lay_rows rs) (by have := dep_rows rs; simp only [PyData.depth]; omega)
theorem eqvAll_is : ∀ a b : List Int, PyData.eqvAll (a.map .int) (b.map .int) = decide (a = b)
  | [], [] => by simp [PyData.eqvAll]
  | [], _ :: _ => by simp [PyData.eqvAll]
  | _ :: _, [] => by simp [PyData.eqvAll]
  | x :: a, y :: b => by
    simp only [List.map_cons, PyData.eqvAll, eqv_int, eqvAll_is a b]
    by_cases h : x = y <;> by_cases h2 : a = b <;> simp [h, h2]
theorem eqv_tI (a b : List Int) : PyData.eqv (tI a) (tI b) = decide (a = b) := by
  rw [PyData.eqv]
  exact eqvAll_is a b
theorem any_rows (rs : List (List Int)) (ns : List Int) : ((rs.map tI).any fun z => PyData.eqv z (tI ns)) = decide (ns ∈ rs) := by
  induction rs with
  | nil => rfl
  | cons r rs ih =>
    rw [List.map_cons, List.any_cons, ih, eqv_tI]
    by_cases h : r = ns
    · simp [h]
    · by_cases h2 : ns ∈ rs
      · simp [h2]
      · simp [h, h2, Ne.symm h]
theorem shp_bool (b : Bool) : SeqAt.shaped (.bool b) = true := shp_mk (by simp only [PyData.canLay0]) (by simp only [PyData.depth]; decide)
theorem eqv_bool (a b : Bool) : PyData.eqv (.bool a) (.bool b) = (a == b) := by rw [PyData.eqv]

/-! ### _law_is_integer, _law_equal -/
def isI : PyData → Bool
  | .int _ => true
  | _ => false
def fn_law_is_integer : Fn := fun ds q => ∃ d, ds = [d] ∧ q (.bool (isI d))
abbrev st_law_is_integer : Stmt := topS 30
abbrev N_law_is_integer : List Str := ["_law_actual"]
theorem sc_law_is_integer : FnScope N_law_is_integer ["_law_actual"] (defScope st_law_is_integer) := ⟨rfl, rfl, rfl, by decide +kernel, rfl, by decide +kernel, by decide +kernel⟩
theorem ok_law_is_integer {g : Gm} {f : Addr} {fd : FuncData} (F : Fun g.K "_law_is_integer" "_law_is_integer" st_law_is_integer f fd) (hb : Binds g.K fd ["_law_actual"] []) (hm : g.mg "_law_is_integer" = some (.ref f)) (m_bool : g.mg "bool" = none) (m_int : g.mg "int" = none) (m_isinstance : g.mg "isinstance" = none) : FD g 1 "_law_is_integer" fn_law_is_integer := by
  refine fd_mk (k := 0) F sc_law_is_integer hb hm ?_
    (ss_one (sd_ret (pd_and (pd_isi kit_int rfl m_isinstance rfl m_int (by decide +kernel) (pd_var (i := 0) rfl (.inl rfl))) (pd_one (pd_not (pd_isi kit_bool rfl m_isinstance rfl m_bool (by decide +kernel) (pd_var (i := 0) rfl (.inl rfl)))))))) ?_
  · rintro ds q ⟨d, rfl, _⟩
    rfl
  · rintro ds q ⟨d, rfl, h⟩
    walk_at "rd"
    cases d <;> exact h
def fn_law_equal : Fn := fun ds q => ∃ a b, ds = [.bool a, .bool b] ∧ q (.bool (a == b))
abbrev st_law_equal : Stmt := topS 31
abbrev N_law_equal : List Str := ["_law_actual", "_law_due_here", "_law_at"]
theorem sc_law_equal : FnScope N_law_equal ["_law_actual", "_law_due_here"] (defScope st_law_equal) := ⟨rfl, rfl, rfl, by decide +kernel, rfl, by decide +kernel, by decide +kernel⟩
theorem ok_law_equal {g : Gm} {f : Addr} {fd : FuncData} (F : Fun g.K "_law_equal" "_law_equal" st_law_equal f fd) (hb : Binds g.K fd ["_law_actual", "_law_due_here"] []) (hm : g.mg "_law_equal" = some (.ref f)) (m_bool : g.mg "bool" = none) (m_isinstance : g.mg "isinstance" = none) : FD g 2 "_law_equal" fn_law_equal := by
  refine fd_mk (k := 1) F sc_law_equal hb hm ?_
    (ss_cons (sd_if (td_cmp od_is (pd_var (i := 1) rfl (.inr (.inl rfl))) pd_non (nomark _)) (ss_one (sd_ret (pd_cmp od_is (pd_var (i := 0) rfl (.inr (.inl rfl))) pd_non (nomark _)))) ss_nil)
      (ss_cons (sd_if (td_tru (pd_isi kit_bool rfl m_isinstance rfl m_bool (by decide +kernel) (pd_var (i := 1) rfl (.inr (.inl rfl)))) (fun _ _ => rfl)) (ss_one (sd_ret (pd_and (pd_isi kit_bool rfl m_isinstance rfl m_bool (by decide +kernel) (pd_var (i := 0) rfl (.inr (.inl rfl)))) (pd_one (pd_cmp od_eq (pd_var (i := 0) rfl (.inr (.inl rfl))) (pd_var (i := 1) rfl (.inr (.inl rfl))) (nomark _)))))) ss_nil)
      ss_never)) ?_
  · rintro ds q ⟨a, b, rfl, _⟩
    rfl
  · rintro ds q ⟨a, b, rfl, h⟩
    walk_at "rd"
    refine itF (by simp [isNoneD]) ⟨shp_bool a, shp_bool b, ?_⟩
    rw [eqv_bool]
    exact h

/-! ### _law_paper -/
def papB (p : List Int) : Bool := decide (1 ≤ p.length) && decide (p.length ≤ 6) && (p.all fun m => decide (0 ≤ m) && decide (m < p.length)) && (List.range p.length).all fun (i : Nat) => decide (gi p (gi p (i : Int)) = (i : Int))
theorem papB_ok {p : List Int} (h : papB p = true) : Pap p := by
  unfold papB at h
  simp only [Bool.and_eq_true, decide_eq_true_eq, List.all_eq_true, List.mem_range] at h
  obtain ⟨⟨⟨h1, h2⟩, h3⟩, h4⟩ := h
  refine ⟨h1, h2, h3, fun m m0 m1 => ?_⟩
  obtain ⟨j, rfl⟩ := Int.eq_ofNat_of_zero_le m0
  exact h4 j (by omega)
def paps : List (List Int) := [[0], [1, 0], [0, 1], [1, 0, 2], [0, 2, 1], [1, 0, 3, 2], [0, 1, 2], [4, 3, 2, 1, 0], [1, 0, 2, 5, 4, 3]]
theorem paps_ok : ∀ p ∈ paps, Pap p := by
  have h : paps.all papB = true := by decide +kernel
  exact fun p hp => papB_ok (List.all_eq_true.mp h p hp)
def fn_law_paper : Fn := fun ds q => ds = [.dict []] ∧ ∀ p, Pap p → q (tI p)
abbrev st_law_paper : Stmt := topS 32
abbrev N_law_paper : List Str := ["_law_stream_here"]
theorem sc_law_paper : FnScope N_law_paper ["_law_stream_here"] (defScope st_law_paper) := ⟨rfl, rfl, rfl, by decide +kernel, rfl, by decide +kernel, by decide +kernel⟩
theorem ok_law_paper {g : Gm} {f : Addr} {fd : FuncData} (F : Fun g.K "_law_paper" "_law_paper" st_law_paper f fd) (hb : Binds g.K fd ["_law_stream_here"] []) (hm : g.mg "_law_paper" = some (.ref f)) (h_law_next : FD g 1 "_law_next" fn_law_next) : FD g 2 "_law_paper" fn_law_paper := by
  refine fd_mk (k := 1) F sc_law_paper hb hm ?_
    (ss_one (sd_ret (pd_ix (pd_lst (ad_cons (pd_tup (ad_cons pd_int ad_nil)) (ad_cons (pd_tup (ad_cons pd_int (ad_cons pd_int ad_nil))) (ad_cons (pd_tup (ad_cons pd_int (ad_cons pd_int ad_nil))) (ad_cons (pd_tup (ad_cons pd_int (ad_cons pd_int (ad_cons pd_int ad_nil)))) (ad_cons (pd_tup (ad_cons pd_int (ad_cons pd_int (ad_cons pd_int ad_nil)))) (ad_cons (pd_tup (ad_cons pd_int (ad_cons pd_int (ad_cons pd_int (ad_cons pd_int ad_nil))))) (ad_cons (pd_tup (ad_cons pd_int (ad_cons pd_int (ad_cons pd_int ad_nil)))) (ad_cons (pd_tup (ad_cons pd_int (ad_cons pd_int (ad_cons pd_int (ad_cons pd_int (ad_cons pd_int ad_nil)))))) (ad_cons (pd_tup (ad_cons pd_int (ad_cons pd_int (ad_cons pd_int (ad_cons pd_int (ad_cons pd_int (ad_cons pd_int ad_nil))))))) ad_nil)))))))))) (pd_call h_law_next (show (1 : Nat) ≤ 1 by decide) rfl (ad_cons (pd_var (i := 0) rfl (.inl rfl)) (ad_cons pd_int ad_nil))) (fun _ _ => rfl)))) ?_
  · rintro ds q ⟨rfl, _⟩
    rfl
  · rintro ds q ⟨rfl, h⟩
    walk_at "rd"
    repeat refine And.intro (by decide) ?_
    refine ⟨9, rfl, by decide, by decide, fun k k0 k1 => ?_⟩
    walk_at "rd"
    obtain ⟨j, rfl⟩ := Int.eq_ofNat_of_zero_le k0
    have hj : j < paps.length := by
      show j < 9
      omega
    show optD (atI (paps.map tI) (j : Int)) q
    rw [atI_nat (v := tI paps[j]) (by rw [List.getElem?_map, List.getElem?_eq_getElem hj]; rfl)]
    exact h _ (paps_ok _ (List.getElem_mem hj))

/-! ### _law_reflected, _law_marks -/
def refl (p s : List Int) : List Int := s.reverse.map (gi p)
def fn_law_reflected : Fn := fun ds q => ∃ p s, ds = [tI p, tI s] ∧ Mks p s ∧ s.length ≤ 100 ∧ q (tI (refl p s))
abbrev st_law_reflected : Stmt := topS 33
abbrev N_law_reflected : List Str := ["_law_paper_here", "_law_sequence_here", "_law_mark"]
theorem sc_law_reflected : FnScope N_law_reflected ["_law_paper_here", "_law_sequence_here"] (defScope st_law_reflected) := ⟨rfl, rfl, rfl, by decide +kernel, rfl, by decide +kernel, by decide +kernel⟩
theorem ok_law_reflected {g : Gm} {f : Addr} {fd : FuncData} (F : Fun g.K "_law_reflected" "_law_reflected" st_law_reflected f fd) (hb : Binds g.K fd ["_law_paper_here", "_law_sequence_here"] []) (hm : g.mg "_law_reflected" = some (.ref f)) (m_tuple : g.mg "tuple" = none) : FD g 1 "_law_reflected" fn_law_reflected := by
  refine fd_mk (k := 0) F sc_law_reflected hb hm ?_
    (ss_one (sd_ret (pd_callTy cd_tuple rfl m_tuple (by decide +kernel) (pd_lc (own := [("_law_mark", 2)]) (id_tup (pd_rev (pd_var (i := 1) rfl (.inl rfl)))) (blk_ok (N := N_law_reflected) (sc := defScope st_law_reflected) (by decide +kernel)) (gd_name (i := 2) rfl (.inr rfl)) (fun _ h => h) (pd_ix (pd_var (i := 0) rfl (.inr (.inl rfl))) (pd_var (i := 2) rfl (.inl rfl)) (fun _ _ => rfl)))))) ?_
  · rintro ds q ⟨p, s, rfl, _⟩
    rfl
  · rintro ds q ⟨p, s, rfl, hs, hl, h⟩
    walk_at "rd"
    refine lc_map (s.reverse.map .int) (fun d => match d with
      | .int m => .int (gi p m)
      | _ => .none) (fun R h => ?_) (by rw [List.length_map, List.length_reverse]; omega) (fun i d hd R hR => ?_) ?_
    · walk_at "rd"
      rw [← List.map_reverse]
      exact h
    · rw [List.getElem?_map] at hd
      obtain ⟨m, hm, rfl⟩ := Option.map_eq_some_iff.mp hd
      obtain ⟨m0, m1⟩ := hs m (List.mem_reverse.mp (List.mem_of_getElem? hm))
      walk_at "rd"
      rw [atI_int m0 m1]
      exact hR
    · have e : (s.reverse.map PyData.int).map (fun d => match d with
        | .int m => PyData.int (gi p m)
        | _ => .none) = (refl p s).map .int := by
        unfold refl
        rw [List.map_map, List.map_map]
        rfl
      rw [e]
      exact h
theorem each_ints {p : List Int} : ∀ {xs : List PyData}, (∀ x ∈ xs, ∃ m : Int, x = .int m ∧ 0 ≤ m ∧ m < p.length) → ∃ s : List Int, xs = s.map .int ∧ Mks p s
  | [], _ => ⟨[], rfl, by simp [Mks]⟩
  | x :: xs, h => by
    obtain ⟨m, rfl, m0, m1⟩ := h x List.mem_cons_self
    obtain ⟨s, rfl, hs⟩ := each_ints fun y hy => h y (List.mem_cons_of_mem _ hy)
    exact ⟨m :: s, rfl, fun z hz => (List.mem_cons.mp hz).elim (fun e => by rw [e]; exact ⟨m0, m1⟩) (hs z)⟩
def fn_law_marks : Fn := fun ds q => ∃ p, ∃ n : Int, ds = [.dict [], tI p, .int n] ∧ Pap p ∧ 0 ≤ n ∧ n ≤ 100 ∧ ∀ s, Mks p s → (s.length : Int) = n → q (tI s)
abbrev st_law_marks : Stmt := topS 34
abbrev N_law_marks : List Str := ["_law_stream_here", "_law_paper_here", "_law_many", "_law_k"]
theorem sc_law_marks : FnScope N_law_marks ["_law_stream_here", "_law_paper_here", "_law_many"] (defScope st_law_marks) := ⟨rfl, rfl, rfl, by decide +kernel, rfl, by decide +kernel, by decide +kernel⟩
theorem ok_law_marks {g : Gm} {f : Addr} {fd : FuncData} (F : Fun g.K "_law_marks" "_law_marks" st_law_marks f fd) (hb : Binds g.K fd ["_law_stream_here", "_law_paper_here", "_law_many"] []) (hm : g.mg "_law_marks" = some (.ref f)) (m_len : g.mg "len" = none) (m_range : g.mg "range" = none) (m_tuple : g.mg "tuple" = none) (h_law_next : FD g 1 "_law_next" fn_law_next) : FD g 2 "_law_marks" fn_law_marks := by
  refine fd_mk (k := 1) F sc_law_marks hb hm ?_
    (ss_one (sd_ret (pd_callTy cd_tuple rfl m_tuple (by decide +kernel) (pd_lc (own := [("_law_k", 3)]) (id_range1 rfl m_range (ad_cons (pd_var (i := 2) rfl (.inl rfl)) ad_nil)) (blk_ok (N := N_law_marks) (sc := defScope st_law_marks) (by decide +kernel)) (gd_name (i := 3) rfl (.inr rfl)) (fun _ h => h) (pd_call h_law_next (show (1 : Nat) ≤ 1 by decide) rfl (ad_cons (pd_var (i := 0) rfl (.inr (.inl rfl))) (ad_cons (pd_callB cd_len rfl m_len (by decide +kernel) (pd_var (i := 1) rfl (.inr (.inl rfl)))) ad_nil))))))) ?_
  · rintro ds q ⟨p, n, rfl, _⟩
    rfl
  · rintro ds q ⟨p, n, rfl, hp, h0, h1, h⟩
    walk_at "rd"
    refine lc_each (rangeL 0 1 n.toNat) (fun x => ∃ m : Int, x = .int m ∧ 0 ≤ m ∧ m < p.length) (fun R h => ?_) (by rw [rangeL_len]; omega) (fun i d hd R hR => ?_) fun xs hx hm => ?_
    · walk_at "rd"
      exact ⟨⟨by omega, by omega⟩, h⟩
    · walk_at "rd"
      have l1 := hp.len1
      have l6 := hp.len6
      exact ⟨_, rfl, by omega, by omega, fun m m0 m1 => hR _ ⟨m, rfl, m0, m1⟩⟩
    · obtain ⟨s, rfl, hs⟩ := each_ints hm
      rw [rangeL_len, List.length_map] at hx
      exact h s hs (by omega)

/-! ### _law_book, _law_sequence -/
theorem cut_some {s : List Int} (lo hi : Option Int) : ∃ t : List Int, cutD (s.map PyData.int) lo hi = t.map .int ∧ (∀ m ∈ t, m ∈ s) ∧ t.length ≤ s.length := by
  unfold cutD
  rw [← List.map_drop, ← List.map_take]
  refine ⟨_, rfl, fun m hm => List.mem_of_mem_drop (List.mem_of_mem_take hm), ?_⟩
  rw [List.length_take, List.length_drop]
  omega
theorem mks_app {p s t : List Int} (hs : Mks p s) (ht : Mks p t) : Mks p (s ++ t) := fun m hm => (List.mem_append.mp hm).elim (hs m) (ht m)
theorem mks_refl {p s : List Int} (hp : Pap p) (hs : Mks p s) : Mks p (refl p s) := fun m hm => by
  obtain ⟨x, hx, rfl⟩ := List.mem_map.mp hm
  obtain ⟨x0, x1⟩ := hs x (List.mem_reverse.mp hx)
  exact hp.rng _ (gi_mem x0 x1)
theorem tI_app (s u : List Int) : tI (s ++ u) = .tuple (s.map .int ++ u.map .int) := congrArg PyData.tuple List.map_append
def fn_law_book : Fn := fun ds q => ∃ p, ∃ n : Int, ds = [.dict [], tI p, .int n] ∧ Pap p ∧ 0 ≤ n ∧ n ≤ 16 ∧ ∀ s, Mks p s → (s.length : Int) ≤ n → q (tI s)
abbrev st_law_book : Stmt := topS 35
abbrev N_law_book : List Str := ["_law_stream_here", "_law_paper_here", "_law_most", "_law_sequence_here", "_law_turn", "_law_half", "_law_part"]
theorem sc_law_book : FnScope N_law_book ["_law_stream_here", "_law_paper_here", "_law_most"] (defScope st_law_book) := ⟨rfl, rfl, rfl, by decide +kernel, rfl, by decide +kernel, by decide +kernel⟩
theorem ok_law_book {g : Gm} {f : Addr} {fd : FuncData} (F : Fun g.K "_law_book" "_law_book" st_law_book f fd) (hb : Binds g.K fd ["_law_stream_here", "_law_paper_here", "_law_most"] []) (hm : g.mg "_law_book" = some (.ref f)) (m_len : g.mg "len" = none) (m_range : g.mg "range" = none) (h_law_next : FD g 1 "_law_next" fn_law_next) (h_law_marks : FD g 2 "_law_marks" fn_law_marks) (h_law_reflected : FD g 1 "_law_reflected" fn_law_reflected) : FD g 3 "_law_book" fn_law_book := by
  refine fd_mk (k := 2) F sc_law_book hb hm ?_
    (ss_cons (sd_asg (pd_tup ad_nil) (gd_name (i := 3) rfl (.inl ⟨rfl, .inl rfl⟩)))
      (ss_cons (sd_for rfl (id_range1 rfl m_range (ad_cons (pd_bin od_add pd_int (pd_call h_law_next (show (1 : Nat) ≤ 2 by decide) rfl (ad_cons (pd_var (i := 0) rfl (.inl rfl)) (ad_cons pd_int ad_nil)))) ad_nil)) (gd_name (i := 4) rfl (.inl ⟨rfl, .inl rfl⟩)) (ss_cons (sd_asg (pd_call h_law_marks (show (2 : Nat) ≤ 2 by decide) rfl (ad_cons (pd_var (i := 0) rfl (.inl rfl)) (ad_cons (pd_var (i := 1) rfl (.inl rfl)) (ad_cons (pd_bin od_add pd_int (pd_call h_law_next (show (1 : Nat) ≤ 2 by decide) rfl (ad_cons (pd_var (i := 0) rfl (.inl rfl)) (ad_cons pd_int ad_nil)))) ad_nil)))) (gd_name (i := 5) rfl (.inl ⟨rfl, .inl rfl⟩)))
      (ss_cons (sd_asg (pd_bin od_add (pd_var (i := 5) rfl (.inl rfl)) (pd_call h_law_reflected (show (1 : Nat) ≤ 2 by decide) rfl (ad_cons (pd_var (i := 1) rfl (.inl rfl)) (ad_cons (pd_var (i := 5) rfl (.inl rfl)) ad_nil)))) (gd_name (i := 6) rfl (.inl ⟨rfl, .inl rfl⟩)))
      (ss_cons (sd_if (Wdd.td (wd_and (td_tru (pd_var (i := 3) rfl (.inl rfl)) (fun _ _ => rfl)) (wd_and1 (td_cmp od_eq (pd_call h_law_next (show (1 : Nat) ≤ 2 by decide) rfl (ad_cons (pd_var (i := 0) rfl (.inl rfl)) (ad_cons pd_int ad_nil))) pd_int (nomark _))))) (ss_one (sd_asg (pd_slice (pd_var (i := 3) rfl (.inl rfl)) (od_some (pd_neg pd_int)) od_none) (gd_name (i := 6) rfl (.inl ⟨rfl, .inl rfl⟩)))) ss_nil)
      (ss_cons (sd_if (Wdd.td (wd_and (td_tru (pd_var (i := 3) rfl (.inl rfl)) (fun _ _ => rfl)) (wd_and1 (td_cmp od_eq (pd_call h_law_next (show (1 : Nat) ≤ 2 by decide) rfl (ad_cons (pd_var (i := 0) rfl (.inl rfl)) (ad_cons pd_int ad_nil))) pd_int (nomark _))))) (ss_one (sd_asg (pd_var (i := 3) rfl (.inl rfl)) (gd_name (i := 6) rfl (.inl ⟨rfl, .inl rfl⟩)))) ss_nil)
      (ss_one (sd_if (td_cmp od_le (pd_bin od_add (pd_callB cd_len rfl m_len (by decide +kernel) (pd_var (i := 3) rfl (.inl rfl))) (pd_callB cd_len rfl m_len (by decide +kernel) (pd_var (i := 6) rfl (.inl rfl)))) (pd_var (i := 2) rfl (.inl rfl)) (nomark _)) (ss_one (sd_asg (pd_bin od_add (pd_var (i := 3) rfl (.inl rfl)) (pd_var (i := 6) rfl (.inl rfl))) (gd_name (i := 3) rfl (.inl ⟨rfl, .inl rfl⟩)))) ss_nil)))))))
      (ss_one (sd_ret (pd_var (i := 3) rfl (.inl rfl)))))) ?_
  · rintro ds q ⟨p, n, rfl, _⟩
    rfl
  · rintro ds q ⟨p, n, rfl, hp, h0, h1, h⟩
    walk_at "rd"
    refine ⟨by decide, 4, rfl, by decide, by decide, fun k k0 k1 => ?_⟩
    walk_at "rd"
    refine ⟨⟨by omega, by omega⟩, fun i ow ρ => ow = .no ∧ ∃ s a b c, ρ = [.d (.dict []), .d (tI p), .d (.int n), .d (tI s), a, b, c] ∧ Mks p s ∧ (s.length : Int) ≤ n, ⟨rfl, [], _, _, _, rfl, by simp [Mks], by simpa using h0⟩, fun i d ow ρ hd hi => ?_, fun ow ρ hi => ?_⟩
    · obtain ⟨rfl, s, a, b, c, rfl, hs, hl⟩ := hi
      walk_at "rd"
      refine ⟨3, rfl, by decide, by decide, fun k k0 k1 => ⟨p, _, rfl, hp, by omega, by omega, fun t ht htl => ?_⟩⟩
      walk_at "rd"
      refine ⟨p, t, rfl, ht, by omega, ?_⟩
      walk_at "rd"
      have hrl : (refl p t).length = t.length := by simp [refl]
      refine ⟨by rw [hrl]; omega, ?_⟩
      have fin : ∀ (u : List Int) (x : Sl), Mks p u → u.length ≤ 50 → if decide ((s.length : Int) + (u.length : Int) ≤ n) = true then s.length + u.length ≤ 100000 ∧ ∃ s1 a b c, [Sl.d (.dict []), Sl.d (tI p), Sl.d (.int n), Sl.d (.tuple (s.map .int ++ u.map .int)), Sl.d d, Sl.d (tI t), x] = [Sl.d (.dict []), Sl.d (tI p), Sl.d (.int n), Sl.d (tI s1), a, b, c] ∧ Mks p s1 ∧ (s1.length : Int) ≤ n
          else ∃ s1 a b c, [Sl.d (.dict []), Sl.d (tI p), Sl.d (.int n), Sl.d (tI s), Sl.d d, Sl.d (tI t), x] = [Sl.d (.dict []), Sl.d (tI p), Sl.d (.int n), Sl.d (tI s1), a, b, c] ∧ Mks p s1 ∧ (s1.length : Int) ≤ n := fun u x hu hul => by
        refine ite2 (fun hle => ⟨by omega, s ++ u, .d d, .d (tI t), x, by rw [tI_app], mks_app hs hu, ?_⟩) fun _ => ⟨s, _, _, _, rfl, hs, hl⟩
        have := of_decide_eq_true hle
        rw [List.length_append]
        omega
      obtain ⟨u2, e2, hu2, hl2⟩ := cut_some (s := s) (some (-2)) none
      have fin2 := fin u2 (.d (tI u2)) (fun m hm => hs m (hu2 m hm)) (by omega)
      have fin1 := fin s (.d (tI s)) hs (by omega)
      have fin0 := fin (t ++ refl p t) (.d (tI (t ++ refl p t))) (mks_app ht (mks_refl hp ht)) (by rw [List.length_append, hrl]; omega)
      rw [e2]
      simp only [← List.map_append (f := PyData.int) (l₁ := t), List.length_map]
      refine ite2 (fun _ => ⟨3, rfl, by decide, by decide, fun k2 _ _ => ⟨shp_int _, ite2 (fun _ => ?_) fun _ => ?_⟩⟩) fun _ => ?_
      all_goals refine ite2 (fun _ => ⟨4, rfl, by decide, by decide, fun k3 _ _ => ⟨shp_int _, ite2 (fun _ => ?_) fun _ => ?_⟩⟩) fun _ => ?_
      all_goals first | exact fin1 | exact fin2 | exact fin0
    · obtain ⟨rfl, s, a, b, c, rfl, hs, hl⟩ := hi
      walk_at "rd"
      exact h s hs hl
def fn_law_sequence : Fn := fun ds q => ∃ p, ∃ n : Int, ds = [.dict [], tI p, .int n] ∧ Pap p ∧ 0 ≤ n ∧ n ≤ 16 ∧ ∀ s, Mks p s → (s.length : Int) ≤ n → q (tI s)
abbrev st_law_sequence : Stmt := topS 36
abbrev N_law_sequence : List Str := ["_law_stream_here", "_law_paper_here", "_law_most", "_law_sequence_here", "_law_pick"]
theorem sc_law_sequence : FnScope N_law_sequence ["_law_stream_here", "_law_paper_here", "_law_most"] (defScope st_law_sequence) := ⟨rfl, rfl, rfl, by decide +kernel, rfl, by decide +kernel, by decide +kernel⟩
theorem ok_law_sequence {g : Gm} {f : Addr} {fd : FuncData} (F : Fun g.K "_law_sequence" "_law_sequence" st_law_sequence f fd) (hb : Binds g.K fd ["_law_stream_here", "_law_paper_here", "_law_most"] []) (hm : g.mg "_law_sequence" = some (.ref f)) (h_law_book : FD g 3 "_law_book" fn_law_book) (h_law_next : FD g 1 "_law_next" fn_law_next) (h_law_marks : FD g 2 "_law_marks" fn_law_marks) : FD g 4 "_law_sequence" fn_law_sequence := by
  refine fd_mk (k := 3) F sc_law_sequence hb hm ?_
    (ss_cons (sd_asg (pd_call h_law_book (show (3 : Nat) ≤ 3 by decide) rfl (ad_cons (pd_var (i := 0) rfl (.inl rfl)) (ad_cons (pd_var (i := 1) rfl (.inl rfl)) (ad_cons (pd_var (i := 2) rfl (.inl rfl)) ad_nil)))) (gd_name (i := 3) rfl (.inl ⟨rfl, .inl rfl⟩)))
      (ss_cons (sd_asg (pd_call h_law_next (show (1 : Nat) ≤ 3 by decide) rfl (ad_cons (pd_var (i := 0) rfl (.inl rfl)) (ad_cons pd_int ad_nil))) (gd_name (i := 4) rfl (.inl ⟨rfl, .inl rfl⟩)))
      (ss_cons (sd_if (td_cmp od_eq (pd_var (i := 4) rfl (.inl rfl)) pd_int (nomark _)) (ss_one (sd_asg (pd_call h_law_marks (show (2 : Nat) ≤ 3 by decide) rfl (ad_cons (pd_var (i := 0) rfl (.inl rfl)) (ad_cons (pd_var (i := 1) rfl (.inl rfl)) (ad_cons (pd_call h_law_next (show (1 : Nat) ≤ 3 by decide) rfl (ad_cons (pd_var (i := 0) rfl (.inl rfl)) (ad_cons (pd_bin od_add (pd_var (i := 2) rfl (.inl rfl)) pd_int) ad_nil))) ad_nil)))) (gd_name (i := 3) rfl (.inl ⟨rfl, .inl rfl⟩)))) ss_nil)
      (ss_cons (sd_if (td_cmp od_eq (pd_var (i := 4) rfl (.inl rfl)) pd_int (nomark _)) (ss_one (sd_asg (pd_slice (pd_bin od_add (pd_var (i := 3) rfl (.inl rfl)) (pd_call h_law_marks (show (2 : Nat) ≤ 3 by decide) rfl (ad_cons (pd_var (i := 0) rfl (.inl rfl)) (ad_cons (pd_var (i := 1) rfl (.inl rfl)) (ad_cons (pd_call h_law_next (show (1 : Nat) ≤ 3 by decide) rfl (ad_cons (pd_var (i := 0) rfl (.inl rfl)) (ad_cons pd_int ad_nil))) ad_nil))))) od_none (od_some (pd_var (i := 2) rfl (.inl rfl)))) (gd_name (i := 3) rfl (.inl ⟨rfl, .inl rfl⟩)))) ss_nil)
      (ss_cons (sd_if (td_cmp od_eq (pd_var (i := 4) rfl (.inl rfl)) pd_int (nomark _)) (ss_one (sd_asg (pd_slice (pd_var (i := 3) rfl (.inl rfl)) (od_some (pd_call h_law_next (show (1 : Nat) ≤ 3 by decide) rfl (ad_cons (pd_var (i := 0) rfl (.inl rfl)) (ad_cons pd_int ad_nil)))) od_none) (gd_name (i := 3) rfl (.inl ⟨rfl, .inl rfl⟩)))) ss_nil)
      (ss_one (sd_ret (pd_var (i := 3) rfl (.inl rfl))))))))) ?_
  · rintro ds q ⟨p, n, rfl, _⟩
    rfl
  · rintro ds q ⟨p, n, rfl, hp, h0, h1, h⟩
    walk_at "rd"
    refine ⟨p, n, rfl, hp, h0, h1, fun s hs hl => ?_⟩
    walk_at "rd"
    refine ⟨5, rfl, by decide, by decide, fun k k0 k1 => ?_⟩
    walk_at "rd"
    refine ite2 (fun e0 => ⟨n + 1, rfl, by omega, by omega, fun j j0 j1 => ⟨p, j, rfl, hp, j0, by omega, fun t ht htl => ?_⟩⟩) fun e0 => ?_
    · walk_at "rd"
      have e : k = 0 := of_decide_eq_true e0
      subst e
      refine itF (dF (by decide)) (itF (dF (by decide)) (h t ht (by omega)))
    · refine ite2 (fun e1 => ⟨4, rfl, by decide, by decide, fun j j0 j1 => ⟨p, j, rfl, hp, j0, by omega, fun t ht htl => ?_⟩⟩) fun e1 => ?_
      · walk_at "rd"
        have e : k = 1 := of_decide_eq_true e1
        subst e
        refine ⟨by omega, ?_⟩
        rw [← List.map_append, cut_to h0]
        refine itF (dF (by decide)) (h _ (mks_take _ (mks_app hs ht)) ?_)
        rw [List.length_take]
        omega
      · refine ite2 (fun e2 => ⟨3, rfl, by decide, by decide, fun j j0 j1 => ?_⟩) fun e2 => h s hs hl
        walk_at "rd"
        obtain ⟨u2, e2, hu2, hl2⟩ := cut_some (s := s) (some j) none
        rw [e2]
        exact h u2 (fun m hm => hs m (hu2 m hm)) (by omega)
end Qm


namespace Qm
open PySem PySem.Spec PyProof.Rows L2
local macro_rules | `(tactic| walk_at "rd") => `(tactic| simp only [dRet, dDrop, dAnd, dOr, dUn, rdIsi, dVar, dC, sel, dNotV, dChain, dBin, rdEq, rdNe, rdNeg, dTB, tAndD, tOrD, tNotD, dTru, dNil, dCons, dTup, dLst, dSl, dNoPart, dPart, dRev, dNext, dSeq, dIf, dAsg, gN, gP, dCall, dNever, dNewL, dApp, dTupO, dNewD, dGetO, dPutO, selO, noOwn, dRng, dIlst, dItup, dIenum, boolD_b, intD_i, tupD_t, lstD_l, pairD_2, truD_n, truD_b, truD_i, truD_l, truD_t, rdLen_t, rdLen_l, rdTuple_t, rdTuple_l, rdList_t, rdList_l, rdIx_t, rdIx_l, rdMul_i, rdMul_t, rdMul_l, rdAdd_i, rdAdd_t, rdAdd_l, rdI_i, rdI0_i, rdIn_l, rdNotIn_l, rdIs_n, rdSum_t, intsD_map, intsD_1, intsD_2, intsD_3, rg1_1, rg2_2, rg3_3, optD_s, atI_0, atI_1, atI_2, atI_l1, atI_l2, atI_l3, startD, List.map, List.length, List.cons_append, List.nil_append, Nat.reduceAdd, Nat.reduceSub, Nat.sub_self, List.replicate, List.append_nil, List.set, Nat.zero_add, wipeD, if_true, if_false, reduceIte, Bool.not_true, Bool.not_false, Bool.false_eq_true, List.length_map, shp_int, eqv_int, true_and, and_true, CDiv, Int.reduceLT, Int.reduceLE, Int.reducePow, Int.reduceNeg, Int.reduceMul, isIntD_int, isBoolD_int, isBoolD_bool, isIntD_bool, isTupD_tup, isStrD_str])

/-! ### _law_is_gathering -/
theorem gi_nat (s : List Int) (j : Nat) : gi s (j : Int) = (s[j]?).getD 0 := rfl
theorem gi_ext {a b : List Int} (hl : a.length = b.length) (h : ∀ j : Nat, j < a.length → gi a (j : Int) = gi b (j : Int)) : a = b := by
  apply List.ext_getElem hl
  intro j h1 h2
  have e := h j h1
  rw [gi_nat, gi_nat, List.getElem?_eq_getElem h1, List.getElem?_eq_getElem h2] at e
  exact e
theorem refl_len (p s : List Int) : (refl p s).length = s.length := by simp [refl]
theorem gi_refl {p s : List Int} (j : Nat) (h : j < s.length) : gi (refl p s) (j : Int) = gi p (gi s ((s.length : Int) - 1 - (j : Int))) := by
  have e : (s.length : Int) - 1 - (j : Int) = ((s.length - 1 - j : Nat) : Int) := by omega
  rw [e, gi_nat, gi_nat]
  unfold refl
  rw [List.getElem?_map, List.getElem?_reverse h, List.getElem?_eq_getElem (show s.length - 1 - j < s.length by omega)]
  rfl
theorem refl_gat {p s : List Int} (hp : Pap p) (hs : Mks p s) (h0 : 0 < s.length) (h2 : s.length % 2 = 0) : decide (refl p s = s) = gatB p s := by
  have key : refl p s = s ↔ gatB p s = true := by
    rw [gatB_iff]
    constructor
    · intro e
      refine ⟨h0, h2, fun i hi => ?_⟩
      have e1 := gi_refl (p := p) (s := s) (s.length - 1 - i) (by omega)
      rw [e] at e1
      rw [show (s.length : Int) - 1 - (i : Int) = ((s.length - 1 - i : Nat) : Int) by omega, e1]
      rw [show (s.length : Int) - 1 - ((s.length - 1 - i : Nat) : Int) = (i : Int) by omega]
    · rintro ⟨_, _, h⟩
      refine gi_ext (refl_len p s) fun j hj => ?_
      rw [refl_len] at hj
      rw [gi_refl j hj]
      by_cases hh : s.length - 1 - j < s.length / 2
      · have e := h (s.length - 1 - j) hh
        rw [show (s.length : Int) - 1 - (j : Int) = ((s.length - 1 - j : Nat) : Int) by omega, e]
        rw [show (s.length : Int) - 1 - ((s.length - 1 - j : Nat) : Int) = (j : Int) by omega]
      · have e := h j (by omega)
        rw [← e]
        obtain ⟨m0, m1⟩ := hs (gi s (j : Int)) (gi_mem (by omega) (by omega))
        exact hp.inv _ m0 m1
  by_cases e : refl p s = s
  · rw [decide_eq_true e, key.mp e]
  · rw [decide_eq_false e]
    cases hb : gatB p s with
    | false => rfl
    | true => exact absurd (key.mpr hb) e
def fn_law_is_gathering : Fn := fun ds q => ∃ p s, ds = [tI p, tI s] ∧ Pap p ∧ Mks p s ∧ s.length ≤ 16 ∧ q (.bool (gatB p s))
abbrev st_law_is_gathering : Stmt := topS 37
abbrev N_law_is_gathering : List Str := ["_law_paper_here", "_law_sequence_here"]
theorem sc_law_is_gathering : FnScope N_law_is_gathering ["_law_paper_here", "_law_sequence_here"] (defScope st_law_is_gathering) := ⟨rfl, rfl, rfl, by decide +kernel, rfl, by decide +kernel, by decide +kernel⟩
theorem ok_law_is_gathering {g : Gm} {f : Addr} {fd : FuncData} (F : Fun g.K "_law_is_gathering" "_law_is_gathering" st_law_is_gathering f fd) (hb : Binds g.K fd ["_law_paper_here", "_law_sequence_here"] []) (hm : g.mg "_law_is_gathering" = some (.ref f)) (m_len : g.mg "len" = none) (h_law_reflected : FD g 1 "_law_reflected" fn_law_reflected) : FD g 2 "_law_is_gathering" fn_law_is_gathering := by
  refine fd_mk (k := 1) F sc_law_is_gathering hb hm ?_
    (ss_one (sd_ret (pd_and (pd_cmp od_gt (pd_callB cd_len rfl m_len (by decide +kernel) (pd_var (i := 1) rfl (.inl rfl))) pd_int (nomark _)) (pd_and (pd_cmp od_eq (pd_bin od_mod (pd_callB cd_len rfl m_len (by decide +kernel) (pd_var (i := 1) rfl (.inl rfl))) pd_int) pd_int (nomark _)) (pd_one (pd_cmp od_eq (pd_call h_law_reflected (show (1 : Nat) ≤ 1 by decide) rfl (ad_cons (pd_var (i := 0) rfl (.inl rfl)) (ad_cons (pd_var (i := 1) rfl (.inl rfl)) ad_nil))) (pd_var (i := 1) rfl (.inl rfl)) (nomark _))))))) ?_
  · rintro ds q ⟨p, s, rfl, _⟩
    rfl
  · rintro ds q ⟨p, s, rfl, hp, hs, hl, h⟩
    walk_at "rd"
    refine ite2 (fun h0 => ?_) fun h0 => ?_
    · have h0' := of_decide_eq_true h0
      refine ite2 (fun h2 => ?_) fun h2 => ?_
      · have h2' := of_decide_eq_true h2
        refine ⟨p, s, rfl, hs, by omega, ?_⟩
        refine ⟨shp_tI _, shp_tI _, ?_⟩
        rw [eqv_tI, refl_gat hp hs (by omega) (by omega)]
        exact h
      · have e : gatB p s = false := by
          cases hb : gatB p s with
          | false => rfl
          | true =>
            have := (gatB_iff.mp hb).2.1
            exact absurd (decide_eq_true (by omega)) h2
        rw [e] at h
        exact h
    · have e : gatB p s = false := by
        cases hb : gatB p s with
        | false => rfl
        | true =>
          have := (gatB_iff.mp hb).1
          exact absurd (decide_eq_true (by omega)) h0
      rw [e] at h
      exact h

/-! ### _law_all_collations -/
def isC (p t ns : List Int) : Prop := (∀ n ∈ ns, 1 ≤ n) ∧ 2 * ns.sum = (t.length : Int) ∧ chainB p t ns = true
theorem sum_nn1 {ns : List Int} (h : ∀ n ∈ ns, 1 ≤ n) : (ns.length : Int) ≤ ns.sum := by
  induction ns with
  | nil => simp
  | cons a b ih =>
    have a1 := h a List.mem_cons_self
    have a2 := ih fun c hc => h c (List.mem_cons_of_mem _ hc)
    rw [List.sum_cons, List.length_cons]
    omega
theorem isC_nil {p t : List Int} : isC p t [] ↔ t.length = 0 := by
  constructor
  · rintro ⟨_, h, _⟩
    simp only [List.sum_nil] at h
    omega
  · intro h
    exact ⟨by simp, by simp [h], rfl⟩
theorem isC_cons {p t r : List Int} {n : Int} : isC p t (n :: r) ↔ 1 ≤ n ∧ 2 * n ≤ (t.length : Int) ∧ gatB p (t.take (2 * n).toNat) = true ∧ isC p (t.drop (2 * n).toNat) r := by
  constructor
  · rintro ⟨h1, h2, h3⟩
    have hn := h1 n List.mem_cons_self
    have hr : ∀ m ∈ r, 1 ≤ m := fun m hm => h1 m (List.mem_cons_of_mem _ hm)
    have hs := sum_nn1 hr
    simp only [chainB, Bool.and_eq_true] at h3
    rw [List.sum_cons] at h2
    refine ⟨hn, by omega, h3.1, hr, ?_, h3.2⟩
    rw [List.length_drop]
    omega
  · rintro ⟨h1, h2, h3, h4, h5, h6⟩
    rw [List.length_drop] at h5
    refine ⟨fun m hm => (List.mem_cons.mp hm).elim (fun e => by rw [e]; exact h1) (h4 m), ?_, ?_⟩
    · rw [List.sum_cons]
      omega
    · simp only [chainB, h3, h6, Bool.and_self]
structure Rws (p t : List Int) (rs : List (List Int)) : Prop where
  mem : ∀ ns, ns ∈ rs ↔ isC p t ns
  len : rs.length ≤ 2 ^ (t.length / 2)
def fn_law_all_collations : Fn := fun ds q => ∃ p s, ds = [tI p, tI s] ∧ Pap p ∧ Mks p s ∧ s.length ≤ 16 ∧ ∀ rs, Rws p s rs → q (.list (rs.map tI))
theorem rgc_dn {i : Int} (ha : -1 ≤ i) (hb : i < 2 ^ 61) : RgC i (-1) (-1) (i + 1).toNat := by
  have e : Builtin.Range.rangeSize i (-1) (-1) = ((i + 1).toNat : Int) := by
    unfold Builtin.Range.rangeSize
    simp only [show ¬ (-1 : Int) > 0 by decide, if_false]
    rw [show (- (-1 : Int)) = 1 from rfl, Int.ediv_one]
    split <;> omega
  refine ⟨by decide, by decide, ?_, e⟩
  unfold Builtin.Range.small
  rw [e]
  simp only [Builtin.Range.rangeFitsLong, Bool.and_eq_true, Bool.or_eq_true, decide_eq_true_eq, beq_iff_eq, show ¬ (-1 : Int) > 0 by decide, if_false]
  omega
def consD (n : Int) : PyData → PyData
  | .tuple ds => .tuple (.int n :: ds)
  | _ => .none
theorem pow_step {m k : Nat} (h : k + 1 ≤ m) : 2 ^ (m - k) = 2 * 2 ^ (m - (k + 1)) := by
  rw [show m - k = (m - (k + 1)) + 1 by omega, Nat.pow_succ]
  omega
abbrev st_law_all_collations : Stmt := topS 38
abbrev N_law_all_collations : List Str := ["_law_paper_here", "_law_sequence_here", "_law_tails", "_law_start", "_law_found", "_law_sheets", "_law_end", "_law_tail"]
theorem sc_law_all_collations : FnScope N_law_all_collations ["_law_paper_here", "_law_sequence_here"] (defScope st_law_all_collations) := ⟨rfl, rfl, rfl, by decide +kernel, rfl, by decide +kernel, by decide +kernel⟩
theorem ok_law_all_collations {g : Gm} {f : Addr} {fd : FuncData} (F : Fun g.K "_law_all_collations" "_law_all_collations" st_law_all_collations f fd) (hb : Binds g.K fd ["_law_paper_here", "_law_sequence_here"] []) (hm : g.mg "_law_all_collations" = some (.ref f)) (m_len : g.mg "len" = none) (m_range : g.mg "range" = none) (h_law_is_gathering : FD g 2 "_law_is_gathering" fn_law_is_gathering) : FD g 3 "_law_all_collations" fn_law_all_collations := by
  refine fd_mk (k := 2) F sc_law_all_collations hb hm ?_
    (ss_cons (sd_newD (i := 2) rfl (.inl ⟨rfl, .inl rfl⟩) (pd_callB cd_len rfl m_len (by decide +kernel) (pd_var (i := 1) rfl (.inl rfl))) (pd_lst (ad_cons (pd_tup ad_nil) ad_nil)))
      (ss_cons (sd_for rfl (id_range3 rfl m_range (ad_cons (pd_bin od_sub (pd_callB cd_len rfl m_len (by decide +kernel) (pd_var (i := 1) rfl (.inl rfl))) pd_int) (ad_cons (pd_neg pd_int) (ad_cons (pd_neg pd_int) ad_nil)))) (gd_name (i := 3) rfl (.inl ⟨rfl, .inl rfl⟩)) (ss_cons (sd_asg (pd_lst ad_nil) (gd_name (i := 4) rfl (.inl ⟨rfl, .inl rfl⟩)))
      (ss_cons (sd_for rfl (id_range2 rfl m_range (ad_cons pd_int (ad_cons (pd_bin od_add (pd_bin od_fdiv (pd_bin od_sub (pd_callB cd_len rfl m_len (by decide +kernel) (pd_var (i := 1) rfl (.inl rfl))) (pd_var (i := 3) rfl (.inl rfl))) pd_int) pd_int) ad_nil))) (gd_name (i := 5) rfl (.inl ⟨rfl, .inr rfl⟩)) (ss_cons (sd_asg (pd_bin od_add (pd_var (i := 3) rfl (.inl rfl)) (pd_bin od_mul pd_int (pd_var (i := 5) rfl (.inr (.inl rfl))))) (gd_name (i := 6) rfl (.inl ⟨rfl, .inl rfl⟩)))
      (ss_one (sd_if (td_tru (pd_call h_law_is_gathering (show (2 : Nat) ≤ 2 by decide) rfl (ad_cons (pd_var (i := 0) rfl (.inl rfl)) (ad_cons (pd_slice (pd_var (i := 1) rfl (.inl rfl)) (od_some (pd_var (i := 3) rfl (.inl rfl))) (od_some (pd_var (i := 6) rfl (.inl rfl)))) ad_nil))) (fun _ _ => rfl)) (ss_one (sd_asg (pd_bin od_add (pd_var (i := 4) rfl (.inl rfl)) (pd_lc (own := [("_law_tail", 7)]) (id_list (pd_getO (i := 2) rfl (.inl rfl) (pd_var (i := 6) rfl (.inl rfl)) (fun _ _ => rfl))) (blk_ok (N := N_law_all_collations) (sc := defScope st_law_all_collations) (by decide +kernel)) (gd_name (i := 7) rfl (.inr rfl)) (fun _ h => h) (pd_bin od_add (pd_tup (ad_cons (pd_var (i := 5) rfl (.inr (.inl rfl))) ad_nil)) (pd_var (i := 7) rfl (.inl rfl))))) (gd_name (i := 4) rfl (.inl ⟨rfl, .inl rfl⟩)))) ss_nil))))
      (ss_one (sd_put (i := 2) rfl (.inl rfl) (pd_var (i := 3) rfl (.inl rfl)) (pd_var (i := 4) rfl (.inl rfl)))))))
      (ss_one (sd_ret (pd_getO (i := 2) rfl (.inl rfl) pd_int (fun _ _ => rfl)))))) ?_
  · rintro ds q ⟨p, s, rfl, _⟩
    rfl
  · rintro ds q ⟨p, s, rfl, hp, hs, hl, h⟩
    walk_at "rd"
    repeat refine And.intro (by decide) ?_
    refine for_run (rangeL ((s.length : Int) - 1) (-1) s.length) (fun R h => ?_) (fun i ow ρ => ∃ n f, ow = .d n f ∧ n ≤ i + 1 ∧ (∃ a b c e, ρ = [.d (tI p), .d (tI s), .own, a, b, c, e, .u]) ∧ ∀ j : Nat, s.length - i ≤ j → j ≤ s.length → ∃ rs, f (j : Int) = some (.list (rs.map tI)) ∧ Rws p (s.drop j) rs) ⟨1, _, rfl, Nat.le_refl _, ⟨_, _, _, _, rfl⟩, fun j j0 j1 => ?_⟩ (fun i d ow ρ hd hi => ?_) (fun ow ρ hi => ?_)
    · walk_at "rd"
      have := rgc_dn (i := (s.length : Int) - 1) (by omega) (by omega)
      rw [show ((s.length : Int) - 1 + 1).toNat = s.length by omega] at this
      exact ⟨_, this, h⟩
    · have e : j = s.length := by omega
      subst e
      refine ⟨[[]], if_pos rfl, fun ns => ?_, ?_⟩
      · rw [List.drop_length]
        constructor
        · intro z
          rw [List.mem_singleton.mp z]
          exact isC_nil.mpr rfl
        · intro z
          cases ns with
          | nil => simp
          | cons a r =>
            have := (isC_cons.mp z).2.1
            have := (isC_cons.mp z).1
            simp only [List.length_nil] at *
            omega
      · rw [List.drop_length]
        decide
    · obtain ⟨n, f, rfl, hn, ⟨a, b, c, e, rfl⟩, hf⟩ := hi
      obtain ⟨hi2, rfl⟩ := rangeL_get hd
      obtain ⟨st, est⟩ : ∃ st : Nat, s.length - 1 - i = st := ⟨_, rfl⟩
      rw [show (s.length : Int) - 1 + (i : Int) * -1 = (st : Int) by omega]
      walk_at "rd"
      have em : (((s.length : Int) - (st : Int)) / 2).toNat = (s.length - st) / 2 := by omega
      generalize hm : (s.length - st) / 2 = m at em
      refine ⟨by decide, ?_⟩
      refine for_run (rangeL 1 1 m) (fun R h => ?_) (fun k ow ρ => ow = .d n f ∧ ∃ rs : List (List Int), ∃ b e, ρ = [.d (tI p), .d (tI s), .own, .d (.int st), .d (.list (rs.map tI)), b, e, .u] ∧ (∀ ns, ns ∈ rs ↔ (isC p (s.drop st) ns ∧ ∃ n r, ns = n :: r ∧ n ≤ k)) ∧ rs.length + 2 ^ (m - k) ≤ 2 ^ m) ⟨rfl, [], _, _, rfl, fun ns => ?_, by simp⟩ (fun k d ow ρ hd hi => ?_) (fun ow ρ hi => ?_)
      · walk_at "rd"
        rw [show (((s.length : Int) - (st : Int)) / 2 + 1 - 1).toNat = m by omega]
        exact ⟨⟨by omega, by omega⟩, h⟩
      · constructor
        · intro z
          cases z
        · rintro ⟨z, n, r, rfl, hn⟩
          have := (isC_cons.mp z).1
          omega
      · obtain ⟨rfl, rs, b, e, rfl, hmem, hlen⟩ := hi
        obtain ⟨hk, rfl⟩ := rangeL_get hd
        rw [show (1 : Int) + (k : Int) * 1 = ((k + 1 : Nat) : Int) by omega]
        walk_at "rd"
        rw [show (st : Int) + 2 * ((k + 1 : Nat) : Int) = ((st + 2 * (k + 1) : Nat) : Int) by omega, cut_ints (by omega) (by omega), show ((st : Nat) : Int).toNat = st by omega, show (((st + 2 * (k + 1) : Nat) : Int)).toNat - st = 2 * (k + 1) by omega]
        refine ⟨p, _, rfl, hp, mks_take _ (mks_drop _ hs), ?_, ?_⟩
        · rw [List.length_take, List.length_drop]
          omega
        have hpow := pow_step hk
        have hm8 : 2 ^ m ≤ 2 ^ 8 := Nat.pow_le_pow_right (by decide) (by omega)
        have hcons : ∀ r, isC p (s.drop st) (((k + 1 : Nat) : Int) :: r) ↔ gatB p ((s.drop st).take (2 * (k + 1))) = true ∧ isC p (s.drop (st + 2 * (k + 1))) r := fun r => by
          rw [isC_cons, show (2 * ((k + 1 : Nat) : Int)).toNat = 2 * (k + 1) by omega, List.drop_drop]
          constructor
          · rintro ⟨_, _, h3, h4⟩
            exact ⟨h3, h4⟩
          · rintro ⟨h3, h4⟩
            refine ⟨by omega, ?_, h3, h4⟩
            rw [List.length_drop]
            omega
        cases hg : gatB p ((s.drop st).take (2 * (k + 1))) with
        | false =>
          refine ⟨rs, _, _, rfl, fun ns => ?_, by omega⟩
          rw [hmem]
          constructor
          · rintro ⟨h1, n, r, rfl, h2⟩
            exact ⟨h1, n, r, rfl, by omega⟩
          · rintro ⟨h1, n, r, rfl, h2⟩
            refine ⟨h1, n, r, rfl, ?_⟩
            by_cases e : n = ((k + 1 : Nat) : Int)
            · subst e
              rw [((hcons r).mp h1).1] at hg
              cases hg
            · omega
        | true =>
          obtain ⟨rs', e1, e2⟩ := hf (st + 2 * (k + 1)) (by omega) (by omega)
          have hl' := e2.len
          rw [List.length_drop, show (s.length - (st + 2 * (k + 1))) / 2 = m - (k + 1) by omega] at hl'
          have hle : 2 ^ (m - (k + 1)) ≤ 2 ^ m := Nat.pow_le_pow_right (by decide) (by omega)
          walk_at "rd"
          refine lc_map (rs'.map tI) (consD ((k + 1 : Nat) : Int)) (fun R hR => ?_) (by rw [List.length_map]; omega) (fun i d hd R hR => ?_) ?_
          · walk_at "rd"
            rw [e1]
            exact hR
          · rw [List.getElem?_map] at hd
            obtain ⟨r, hr, rfl⟩ := Option.map_eq_some_iff.mp hd
            walk_at "rd"
            have hrC := (e2.mem r).mp (List.mem_of_getElem? hr)
            have hrl := sum_nn1 hrC.1
            have hr2 := hrC.2.1
            rw [List.length_drop] at hr2
            exact ⟨by decide, by omega, hR⟩
          · have e3 : rs.map tI ++ (rs'.map tI).map (consD ((k + 1 : Nat) : Int)) = (rs ++ rs'.map fun r => ((k + 1 : Nat) : Int) :: r).map tI := by
              rw [List.map_append, List.map_map, List.map_map]
              rfl
            walk_at "rd"
            refine ⟨by omega, ?_⟩
            rw [e3]
            refine ⟨_, _, _, rfl, fun ns => ?_, ?_⟩
            · rw [List.mem_append, hmem, List.mem_map]
              constructor
              · rintro (⟨h1, n, r, rfl, h2⟩ | ⟨r, hr, rfl⟩)
                · exact ⟨h1, n, r, rfl, by omega⟩
                · exact ⟨(hcons r).mpr ⟨hg, (e2.mem r).mp hr⟩, _, r, rfl, Int.le_refl _⟩
              · rintro ⟨h1, n, r, rfl, h2⟩
                by_cases e : n = ((k + 1 : Nat) : Int)
                · subst e
                  exact .inr ⟨r, (e2.mem r).mpr ((hcons r).mp h1).2, rfl⟩
                · exact .inl ⟨h1, n, r, rfl, by omega⟩
            · rw [List.length_append, List.length_map]
              omega
      · obtain ⟨rfl, rs, b, e, rfl, hmem, hlen⟩ := hi
        rw [rangeL_len] at hmem hlen
        rw [Nat.sub_self, Nat.pow_zero] at hlen
        walk_at "rd"
        refine ⟨by omega, n + 1, _, rfl, by omega, ⟨_, _, _, _, rfl⟩, fun j j0 j1 => ?_⟩
        by_cases hj : j = st
        · subst hj
          refine ⟨rs, if_pos rfl, fun ns => ?_, ?_⟩
          · rw [hmem]
            constructor
            · exact fun z => z.1
            · intro z
              refine ⟨z, ?_⟩
              cases ns with
              | nil =>
                have := isC_nil.mp z
                rw [List.length_drop] at this
                omega
              | cons n r =>
                have := (isC_cons.mp z).2.1
                rw [List.length_drop] at this
                exact ⟨n, r, rfl, by omega⟩
          · rw [List.length_drop, hm]
            omega
        · obtain ⟨rs', e1, e2⟩ := hf j (by omega) j1
          refine ⟨rs', ?_, e2⟩
          rw [if_neg (by omega)]
          exact e1
    · obtain ⟨n, f, rfl, hn, ⟨a, b, c, e, rfl⟩, hf⟩ := hi
      rw [rangeL_len] at hf
      walk_at "rd"
      obtain ⟨rs, e1, e2⟩ := hf 0 (by omega) (by omega)
      have e1' : f 0 = some (.list (rs.map tI)) := e1
      rw [e1']
      exact h rs e2
end Qm


namespace Qm
open PySem PySem.Spec PyProof.Rows L2
local macro_rules | `(tactic| walk_at "rd") => `(tactic| simp only [dRet, dDrop, dAnd, dOr, dUn, rdIsi, dVar, dC, sel, dNotV, dChain, dBin, rdEq, rdNe, rdNeg, dTB, tAndD, tOrD, tNotD, dTru, dNil, dCons, dTup, dLst, dSl, dNoPart, dPart, dRev, dNext, dSeq, dIf, dAsg, gN, gP, dCall, dNever, dNewL, dApp, dTupO, dNewD, dGetO, dPutO, selO, noOwn, dRng, dIlst, dItup, dIenum, boolD_b, intD_i, tupD_t, lstD_l, pairD_2, truD_n, truD_b, truD_i, truD_l, truD_t, rdLen_t, rdLen_l, rdTuple_t, rdTuple_l, rdList_t, rdList_l, rdIx_t, rdIx_l, rdMul_i, rdMul_t, rdMul_l, rdAdd_i, rdAdd_t, rdAdd_l, rdI_i, rdI0_i, rdIn_l, rdNotIn_l, rdIs_n, rdSum_t, intsD_map, intsD_1, intsD_2, intsD_3, rg1_1, rg2_2, rg3_3, optD_s, atI_0, atI_1, atI_2, atI_l1, atI_l2, atI_l3, startD, List.map, List.length, List.cons_append, List.nil_append, Nat.reduceAdd, Nat.reduceSub, Nat.sub_self, List.replicate, List.append_nil, List.set, Nat.zero_add, wipeD, if_true, if_false, reduceIte, Bool.not_true, Bool.not_false, Bool.false_eq_true, List.length_map, shp_int, eqv_int, true_and, and_true, CDiv, Int.reduceLT, Int.reduceLE, Int.reducePow, Int.reduceNeg, Int.reduceMul, isIntD_int, isBoolD_int, isBoolD_bool, isIntD_bool, isTupD_tup, isStrD_str])

/-! ### _law_is_collation -/
theorem mem_coll {p s ns : List Int} {rs : List (List Int)} (hr : Rws p s rs) (h : ∀ n ∈ ns, 1 ≤ n ∧ n ≤ 8) : decide (ns ∈ rs) = collB p s (tI ns) := by
  rw [collB_ints h]
  have key : ns ∈ rs ↔ 2 * ns.sum = (s.length : Int) ∧ chainB p s ns = true := by
    rw [hr.mem]
    exact ⟨fun z => z.2, fun z => ⟨fun n hn => (h n hn).1, z⟩⟩
  by_cases e : ns ∈ rs
  · rw [decide_eq_true e, decide_eq_true (key.mp e).1, (key.mp e).2]
    rfl
  · rw [decide_eq_false e]
    by_cases h1 : 2 * ns.sum = (s.length : Int)
    · cases h2 : chainB p s ns with
      | false => rw [Bool.and_false]
      | true => exact absurd (key.mpr ⟨h1, h2⟩) e
    · rw [decide_eq_false h1]
      rfl
theorem whole_int (i : Int) : isWhole (.int i) 1 8 = (decide (1 ≤ i) && decide (i ≤ 8)) := rfl
def fn_law_is_collation : Fn := fun ds q => ∃ p s d, ds = [tI p, tI s, d] ∧ Pap p ∧ Mks p s ∧ s.length ≤ 16 ∧ lenOk d ∧ q (.bool (collB p s d))
abbrev st_law_is_collation : Stmt := topS 39
abbrev N_law_is_collation : List Str := ["_law_paper_here", "_law_sequence_here", "_law_value", "_law_sheets"]
theorem sc_law_is_collation : FnScope N_law_is_collation ["_law_paper_here", "_law_sequence_here", "_law_value"] (defScope st_law_is_collation) := ⟨rfl, rfl, rfl, by decide +kernel, rfl, by decide +kernel, by decide +kernel⟩
theorem ok_law_is_collation {g : Gm} {f : Addr} {fd : FuncData} (F : Fun g.K "_law_is_collation" "_law_is_collation" st_law_is_collation f fd) (hb : Binds g.K fd ["_law_paper_here", "_law_sequence_here", "_law_value"] []) (hm : g.mg "_law_is_collation" = some (.ref f)) (m_all : g.mg "all" = none) (m_isinstance : g.mg "isinstance" = none) (m_tuple : g.mg "tuple" = none) (h_law_is_integer : FD g 1 "_law_is_integer" fn_law_is_integer) (h_law_all_collations : FD g 3 "_law_all_collations" fn_law_all_collations) : FD g 4 "_law_is_collation" fn_law_is_collation := by
  refine fd_mk (k := 3) F sc_law_is_collation hb hm ?_
    (ss_cons (sd_if (Wdd.td (wd_or (td_not (td_tru (pd_isi kit_tuple rfl m_isinstance rfl m_tuple (by decide +kernel) (pd_var (i := 2) rfl (.inl rfl))) (fun _ _ => rfl))) (wd_or1 (td_not (td_tru (pd_callB cd_all rfl m_all (by decide +kernel) (pd_lc (own := [("_law_sheets", 3)]) (id_tup (pd_var (i := 2) rfl (.inl rfl))) (blk_ok (N := N_law_is_collation) (sc := defScope st_law_is_collation) (by decide +kernel)) (gd_name (i := 3) rfl (.inr rfl)) (fun _ h => h) (pd_and (pd_call h_law_is_integer (show (1 : Nat) ≤ 3 by decide) rfl (ad_cons (pd_var (i := 3) rfl (.inl rfl)) ad_nil)) (pd_one (pd_chain od_le od_le pd_int (pd_var (i := 3) rfl (.inl rfl)) pd_int))))) (fun _ _ => rfl)))))) (ss_one (sd_ret pd_bl)) ss_nil)
      (ss_one (sd_ret (pd_cmp od_in (pd_var (i := 2) rfl (.inl rfl)) (pd_call h_law_all_collations (show (3 : Nat) ≤ 3 by decide) rfl (ad_cons (pd_var (i := 0) rfl (.inl rfl)) (ad_cons (pd_var (i := 1) rfl (.inl rfl)) ad_nil))) rfl)))) ?_
  · rintro ds q ⟨p, s, d, rfl, _⟩
    rfl
  · rintro ds q ⟨p, s, d, rfl, hp, hs, hl, hd, h⟩
    walk_at "rd"
    cases d with
    | tuple ds =>
      have hl' : ds.length ≤ 1000 := hd
      refine itF (by simp [isTupD]) (lc_all ds (fun d => isWhole d 1 8) (fun R h => ?_) (by omega) (fun i d hd R hR => ?_) ?_)
      · walk_at "rd"
        exact h
      · walk_at "rd"
        refine ⟨d, rfl, ?_⟩
        cases d with
        | int i =>
          rw [whole_int] at hR
          walk_at "rd"
          by_cases h1 : 1 ≤ i
          · rw [decide_eq_true h1, Bool.true_and] at hR
            exact itT rfl (itT (dT h1) hR)
          · rw [decide_eq_false h1, Bool.false_and] at hR
            exact itT rfl (itF (dF h1) hR)
        | _ => exact hR
      · show if (!formB (.tuple ds)) = true then q (.bool false) else _
        cases hf : formB (.tuple ds) with
        | false =>
          rw [collB_form hf] at h
          exact h
        | true =>
          obtain ⟨ns, e, hn⟩ := formB_ex hf
          cases e
          refine itF (by decide) ⟨p, s, rfl, hp, hs, hl, fun rs hr => ?_⟩
          refine ⟨shp_tI ns, shp_rows rs, ?_⟩
          rw [any_rows, mem_coll hr hn]
          exact h
    | _ => exact itT (by simp [isTupD]) (by simpa [collB] using h)

/-! ### _law_shows -/
theorem parts_int (p s : List Int) (st m a b : Int) : partsB p s st m (.tuple [.int a, .int b]) = (decide (st ≤ a) && decide (a < b) && decide (a + b = 2 * st + m - 1) && !decide (gi p (gi s a) = gi s b)) := by
  simp only [partsB, isWhole]
  by_cases h1 : st ≤ a <;> by_cases h2 : a < b <;> by_cases h3 : a + b = 2 * st + m - 1
  all_goals try simp only [h1, h2, h3, decide_true, decide_false, Bool.true_and, Bool.and_true, Bool.false_and, Bool.and_false]
  rw [decide_eq_true (show a ≤ st + m - 1 by omega), decide_eq_true (show st ≤ b by omega), decide_eq_true (show b ≤ st + m - 1 by omega)]
  rfl
theorem enumL_drop {ps : List PyData} {i : Nat} {d : PyData} (h : ps[i]? = some d) : (enumL ps).drop i = .tuple [.int (i : Int), d] :: (enumL ps).drop (i + 1) := by
  have hi : i < ps.length := (List.getElem?_eq_some_iff.mp h).1
  have hlt : i < (enumL ps).length := by rw [enumL_len]; exact hi
  have e : (enumL ps)[i]? = some (.tuple [.int (i : Int), d]) := by
    unfold enumL
    rw [List.getElem?_mapIdx, h]
    rfl
  rw [List.getElem?_eq_getElem hlt] at e
  rw [List.drop_eq_getElem_cons hlt, Option.some.inj e]
def fn_law_shows : Fn := fun ds q => ∃ p s told pairs, ds = [tI p, tI s, told, pairs] ∧ Pap p ∧ Mks p s ∧ s.length ≤ 16 ∧ lenOk told ∧ lenOk pairs ∧ q (.bool (showsB p s told pairs))
abbrev st_law_shows : Stmt := topS 40
abbrev N_law_shows : List Str := ["_law_paper_here", "_law_sequence_here", "_law_told", "_law_pairs", "_law_start", "_law_k", "_law_pair", "_law_sheets", "_law_leaf"]
theorem sc_law_shows : FnScope N_law_shows ["_law_paper_here", "_law_sequence_here", "_law_told", "_law_pairs"] (defScope st_law_shows) := ⟨rfl, rfl, rfl, by decide +kernel, rfl, by decide +kernel, by decide +kernel⟩
theorem ok_law_shows {g : Gm} {f : Addr} {fd : FuncData} (F : Fun g.K "_law_shows" "_law_shows" st_law_shows f fd) (hb : Binds g.K fd ["_law_paper_here", "_law_sequence_here", "_law_told", "_law_pairs"] []) (hm : g.mg "_law_shows" = some (.ref f)) (m_all : g.mg "all" = none) (m_isinstance : g.mg "isinstance" = none) (m_len : g.mg "len" = none) (m_range : g.mg "range" = none) (m_sum : g.mg "sum" = none) (m_tuple : g.mg "tuple" = none) (h_law_is_integer : FD g 1 "_law_is_integer" fn_law_is_integer) (h_law_all_collations : FD g 3 "_law_all_collations" fn_law_all_collations) : FD g 4 "_law_shows" fn_law_shows := by
  refine fd_mk (k := 3) F sc_law_shows hb hm ?_
    (ss_cons (sd_if (Wdd.td (wd_or (td_not (td_tru (pd_isi kit_tuple rfl m_isinstance rfl m_tuple (by decide +kernel) (pd_var (i := 2) rfl (.inl rfl))) (fun _ _ => rfl))) (wd_or (td_not (td_tru (pd_callB cd_all rfl m_all (by decide +kernel) (pd_lc (own := [("_law_sheets", 7)]) (id_tup (pd_var (i := 2) rfl (.inl rfl))) (blk_ok (N := N_law_shows) (sc := defScope st_law_shows) (by decide +kernel)) (gd_name (i := 7) rfl (.inr rfl)) (fun _ h => h) (pd_and (pd_call h_law_is_integer (show (1 : Nat) ≤ 3 by decide) rfl (ad_cons (pd_var (i := 7) rfl (.inl rfl)) ad_nil)) (pd_one (pd_chain od_le od_le pd_int (pd_var (i := 7) rfl (.inl rfl)) pd_int))))) (fun _ _ => rfl))) (wd_or1 (td_not (td_tru (pd_isi kit_tuple rfl m_isinstance rfl m_tuple (by decide +kernel) (pd_var (i := 3) rfl (.inl rfl))) (fun _ _ => rfl))))))) (ss_one (sd_ret pd_bl)) ss_nil)
      (ss_cons (sd_asg (pd_bin od_mul pd_int (pd_callB cd_sum rfl m_sum (by decide +kernel) (pd_var (i := 2) rfl (.inl rfl)))) (gd_name (i := 4) rfl (.inl ⟨rfl, .inl rfl⟩)))
      (ss_cons (sd_if (Wdd.td (wd_or (td_cmp od_ge (pd_var (i := 4) rfl (.inl rfl)) (pd_callB cd_len rfl m_len (by decide +kernel) (pd_var (i := 1) rfl (.inl rfl))) (nomark _)) (wd_or (td_cmp od_notIn (pd_var (i := 2) rfl (.inl rfl)) (pd_call h_law_all_collations (show (3 : Nat) ≤ 3 by decide) rfl (ad_cons (pd_var (i := 0) rfl (.inl rfl)) (ad_cons (pd_slice (pd_var (i := 1) rfl (.inl rfl)) od_none (od_some (pd_var (i := 4) rfl (.inl rfl)))) ad_nil))) rfl) (wd_or1 (td_cmp od_ne (pd_callB cd_len rfl m_len (by decide +kernel) (pd_var (i := 3) rfl (.inl rfl))) (pd_bin od_fdiv (pd_bin od_sub (pd_callB cd_len rfl m_len (by decide +kernel) (pd_var (i := 1) rfl (.inl rfl))) (pd_var (i := 4) rfl (.inl rfl))) pd_int) (nomark _)))))) (ss_one (sd_ret pd_bl)) ss_nil)
      (ss_cons (sd_for rfl (id_range1 rfl m_range (ad_cons (pd_callB cd_len rfl m_len (by decide +kernel) (pd_var (i := 3) rfl (.inl rfl))) ad_nil)) (gd_name (i := 5) rfl (.inl ⟨rfl, .inl rfl⟩)) (ss_cons (sd_asg (pd_ix (pd_var (i := 3) rfl (.inl rfl)) (pd_var (i := 5) rfl (.inl rfl)) (fun _ _ => rfl)) (gd_name (i := 6) rfl (.inl ⟨rfl, .inl rfl⟩)))
      (ss_cons (sd_if (Wdd.td (wd_or (td_not (td_tru (pd_isi kit_tuple rfl m_isinstance rfl m_tuple (by decide +kernel) (pd_var (i := 6) rfl (.inl rfl))) (fun _ _ => rfl))) (wd_or (td_cmp od_ne (pd_callB cd_len rfl m_len (by decide +kernel) (pd_var (i := 6) rfl (.inl rfl))) pd_int (nomark _)) (wd_or1 (td_not (td_tru (pd_callB cd_all rfl m_all (by decide +kernel) (pd_lc (own := [("_law_leaf", 8)]) (id_tup (pd_var (i := 6) rfl (.inl rfl))) (blk_ok (N := N_law_shows) (sc := defScope st_law_shows) (by decide +kernel)) (gd_name (i := 8) rfl (.inr rfl)) (fun _ h => h) (pd_call h_law_is_integer (show (1 : Nat) ≤ 3 by decide) rfl (ad_cons (pd_var (i := 8) rfl (.inl rfl)) ad_nil)))) (fun _ _ => rfl))))))) (ss_one (sd_ret pd_bl)) ss_nil)
      (ss_cons (sd_if (Wdd.td (wd_or (td_not (td_chain od_le od_lt (pd_var (i := 4) rfl (.inl rfl)) (pd_ix (pd_var (i := 6) rfl (.inl rfl)) pd_int (fun _ _ => rfl)) (pd_ix (pd_var (i := 6) rfl (.inl rfl)) pd_int (fun _ _ => rfl)))) (wd_or1 (td_cmp od_ne (pd_bin od_add (pd_ix (pd_var (i := 6) rfl (.inl rfl)) pd_int (fun _ _ => rfl)) (pd_ix (pd_var (i := 6) rfl (.inl rfl)) pd_int (fun _ _ => rfl))) (pd_bin od_add (pd_bin od_add (pd_bin od_mul pd_int (pd_var (i := 4) rfl (.inl rfl))) (pd_bin od_mul pd_int (pd_var (i := 5) rfl (.inl rfl)))) pd_int) (nomark _))))) (ss_one (sd_ret pd_bl)) ss_nil)
      (ss_one (sd_if (td_cmp od_eq (pd_ix (pd_var (i := 0) rfl (.inl rfl)) (pd_ix (pd_var (i := 1) rfl (.inl rfl)) (pd_ix (pd_var (i := 6) rfl (.inl rfl)) pd_int (fun _ _ => rfl)) (fun _ _ => rfl)) (fun _ _ => rfl)) (pd_ix (pd_var (i := 1) rfl (.inl rfl)) (pd_ix (pd_var (i := 6) rfl (.inl rfl)) pd_int (fun _ _ => rfl)) (fun _ _ => rfl)) (nomark _)) (ss_one (sd_ret pd_bl)) ss_nil))))))
      (ss_one (sd_ret pd_bl)))))) ?_
  · rintro ds q ⟨p, s, told, pairs, rfl, _⟩
    rfl
  · rintro ds q ⟨p, s, told, pairs, rfl, hp, hs, hl, ht, hps, h⟩
    walk_at "rd"
    cases told with
    | tuple ds =>
      have hl' : ds.length ≤ 1000 := ht
      refine itF (by simp [isTupD]) (lc_all ds (fun d => isWhole d 1 8) (fun R h => ?_) (by omega) (fun i d hd R hR => ?_) ?_)
      · walk_at "rd"
        exact h
      · walk_at "rd"
        refine ⟨d, rfl, ?_⟩
        cases d with
        | int i =>
          rw [whole_int] at hR
          walk_at "rd"
          by_cases h1 : 1 ≤ i
          · rw [decide_eq_true h1, Bool.true_and] at hR
            exact itT rfl (itT (dT h1) hR)
          · rw [decide_eq_false h1, Bool.false_and] at hR
            exact itT rfl (itF (dF h1) hR)
        | _ => exact hR
      · walk_at "rd"
        cases hf : formB (.tuple ds) with
        | false =>
          rw [showsB_form hf] at h
          have hf' : (ds.all fun d => isWhole d 1 8) = false := hf
          rw [hf']
          exact itT rfl h
        | true =>
          have hf' : (ds.all fun d => isWhole d 1 8) = true := hf
          rw [hf']
          refine itF (by decide) ?_
          cases hpt : isTupD pairs with
          | false =>
            rw [showsB_tup hpt] at h
            exact itT rfl h
          | true =>
            obtain ⟨ns, e, hn⟩ := formB_ex hf
            cases e
            cases pairs with
            | tuple ps =>
              rw [showsB_ints hn] at h
              have hsn := sum_nn hn
              refine itF (by decide) ?_
              walk_at "rd"
              by_cases hlt : 2 * ns.sum < (s.length : Int)
              · rw [decide_eq_true hlt, Bool.true_and] at h
                refine itF (dF (by omega)) ?_
                rw [cut_to (by omega)]
                refine ⟨p, _, rfl, hp, mks_take _ hs, by rw [List.length_take]; omega, fun rs hr => ?_⟩
                refine ⟨shp_tI ns, shp_rows rs, ?_⟩
                have hl2 : ((List.take (2 * ns.sum).toNat s).length : Int) = 2 * ns.sum := by
                  rw [List.length_take]
                  omega
                rw [any_rows, mem_coll hr hn, collB_ints hn, decide_eq_true hl2.symm, Bool.true_and]
                walk_at "rd"
                cases hc : chainB p (List.take (2 * ns.sum).toNat s) ns with
                | false =>
                  rw [hc, Bool.false_and, Bool.false_and] at h
                  exact itT rfl h
                | true =>
                  rw [hc, Bool.true_and] at h
                  refine itF (by decide) ?_
                  by_cases hpl : (ps.length : Int) = ((s.length : Int) - 2 * ns.sum) / 2
                  · rw [decide_eq_true hpl, Bool.true_and] at h
                    refine itF (nF hpl) ?_
                    have hpsl : ps.length ≤ 1000 := hps
                    refine for_run (rangeL 0 1 ps.length) (fun R h => ?_) (fun i ow ρ => ow = .no ∧ (∃ a b, ρ = [.d (tI p), .d (tI s), .d (tI ns), .d (.tuple ps), .d (.int (2 * ns.sum)), a, b, .u, .u]) ∧ (enumL ps).all (prtB p s (2 * ns.sum)) = ((enumL ps).drop i).all (prtB p s (2 * ns.sum))) ⟨rfl, ⟨_, _, rfl⟩, rfl⟩ (fun i d ow ρ hd hi => ?_) (fun ow ρ hi => ?_)
                    · walk_at "rd"
                      rw [show ((ps.length : Int)).toNat = ps.length by omega]
                      exact ⟨⟨by omega, by omega⟩, h⟩
                    · obtain ⟨rfl, ⟨a, b, rfl⟩, hall⟩ := hi
                      obtain ⟨hi2, rfl⟩ := rangeL_get hd
                      rw [show (0 : Int) + (i : Int) * 1 = (i : Int) by omega]
                      have hpi : ps[i]? = some ps[i] := List.getElem?_eq_getElem hi2
                      generalize hpr : ps[i] = pr at hpi
                      rw [enumL_drop hpi, List.all_cons] at hall
                      have hB : prtB p s (2 * ns.sum) (.tuple [.int (i : Int), pr]) = partsB p s (2 * ns.sum) (2 * (i : Int) + 2) pr := rfl
                      rw [hB] at hall
                      have hno : partsB p s (2 * ns.sum) (2 * (i : Int) + 2) pr = false → q (.bool false) := fun z => by
                        rw [z, Bool.false_and] at hall
                        rw [hall] at h
                        exact h
                      walk_at "rd"
                      rw [atI_nat hpi]
                      walk_at "rd"
                      cases pr with
                      | tuple xs =>
                        match xs, hno, hall with
                        | [], hno, hall =>
                          walk_at "rd"
                          exact itT (nT (by decide)) (hno rfl)
                        | [x], hno, hall =>
                          walk_at "rd"
                          exact itT (nT (by decide)) (hno rfl)
                        | x :: y :: z :: r, hno, hall =>
                          walk_at "rd"
                          exact itT (nT (by omega)) (hno rfl)
                        | [x, y], hno, hall =>
                          walk_at "rd"
                          refine itF (nF (by decide)) (lc_all [x, y] isI (fun R h => ?_) (by show 2 ≤ 100000; decide) (fun i d hd R hR => ?_) ?_)
                          · walk_at "rd"
                            exact h
                          · walk_at "rd"
                            exact ⟨_, rfl, hR⟩
                          cases x with
                          | int a1 =>
                            cases y with
                            | int b1 =>
                              rw [parts_int, show 2 * (2 * ns.sum) + (2 * (i : Int) + 2) - 1 = 2 * (2 * ns.sum) + 2 * (i : Int) + 1 by omega] at hno hall
                              walk_at "rd"
                              refine itF (bF rfl) ?_
                              by_cases h1 : 2 * ns.sum ≤ a1
                              · refine itT (dT h1) ?_
                                rw [decide_eq_true h1, Bool.true_and] at hno hall
                                by_cases h2 : a1 < b1
                                · refine itF (bF (dT h2)) ?_
                                  rw [decide_eq_true h2, Bool.true_and] at hno hall
                                  by_cases h3 : a1 + b1 = 2 * (2 * ns.sum) + 2 * (i : Int) + 1
                                  · refine itF (nF h3) ?_
                                    rw [decide_eq_true h3, Bool.true_and] at hno hall
                                    have a0 : 0 ≤ a1 := by omega
                                    have a2 : a1 < s.length := by omega
                                    have b0 : 0 ≤ b1 := by omega
                                    have b2 : b1 < s.length := by omega
                                    obtain ⟨m0, m1⟩ := hs _ (gi_mem a0 a2)
                                    rw [atI_int a0 a2]
                                    walk_at "rd"
                                    rw [atI_int m0 m1, atI_int b0 b2]
                                    walk_at "rd"
                                    by_cases h4 : gi p (gi s a1) = gi s b1
                                    · rw [decide_eq_true h4] at hno
                                      exact itT (dT h4) (hno rfl)
                                    · rw [decide_eq_false h4, Bool.not_false, Bool.true_and] at hall
                                      exact itF (dF h4) ⟨⟨_, _, rfl⟩, hall⟩
                                  · rw [decide_eq_false h3, Bool.false_and] at hno
                                    exact itT (nT h3) (hno rfl)
                                · rw [decide_eq_false h2, Bool.false_and, Bool.false_and] at hno
                                  exact itT (nT h2) (hno rfl)
                              · rw [decide_eq_false h1, Bool.false_and, Bool.false_and, Bool.false_and] at hno
                                exact itF (dF h1) (hno rfl)
                            | _ => exact hno (by simp [partsB])
                          | _ => exact hno (by simp [partsB])
                      | _ => exact itT (by simp [isTupD]) (hno rfl)
                    · obtain ⟨rfl, ⟨a, b, rfl⟩, hall⟩ := hi
                      rw [rangeL_len, ← enumL_len (ps := ps), List.drop_length] at hall
                      rw [hall] at h
                      walk_at "rd"
                      exact h
                  · rw [decide_eq_false hpl, Bool.false_and] at h
                    exact itT (nT hpl) h
              · rw [decide_eq_false hlt, Bool.false_and, Bool.false_and, Bool.false_and] at h
                exact itT (dT (by omega)) h
            | _ => exact nomatch hpt
    | _ => exact itT (by simp [isTupD]) (by simpa [showsB] using h)

/-! ### _law_due -/
theorem eqv_strD {d : PyData} (w : Str) (h : isStrD d = false) : PyData.eqv d (.str w) = false := by
  cases d with
  | str x => exact nomatch h
  | _ => simp [PyData.eqv]
def fn_law_due : Fn := fun ds q => ∃ p s v, ds = [tI p, tI s, v] ∧ Pap p ∧ Mks p s ∧ s.length ≤ 16 ∧ VOk v ∧ q (.bool (accB p s v))
theorem accB_head {p s : List Int} {h : PyData} {r : List PyData} (e : isStrD h = false) : accB p s (.tuple (h :: r)) = false := by
  cases h with
  | str x => exact nomatch e
  | _ => rfl
abbrev st_law_due : Stmt := topS 41
abbrev N_law_due : List Str := ["_law_paper_here", "_law_sequence_here", "_law_value"]
theorem sc_law_due : FnScope N_law_due ["_law_paper_here", "_law_sequence_here", "_law_value"] (defScope st_law_due) := ⟨rfl, rfl, rfl, by decide +kernel, rfl, by decide +kernel, by decide +kernel⟩
theorem ok_law_due {g : Gm} {f : Addr} {fd : FuncData} (F : Fun g.K "_law_due" "_law_due" st_law_due f fd) (hb : Binds g.K fd ["_law_paper_here", "_law_sequence_here", "_law_value"] []) (hm : g.mg "_law_due" = some (.ref f)) (m_isinstance : g.mg "isinstance" = none) (m_len : g.mg "len" = none) (m_tuple : g.mg "tuple" = none) (h_law_is_collation : FD g 4 "_law_is_collation" fn_law_is_collation) (h_law_shows : FD g 4 "_law_shows" fn_law_shows) : FD g 5 "_law_due" fn_law_due := by
  refine fd_mk (k := 4) F sc_law_due hb hm ?_
    (ss_cons (sd_if (Wdd.td (wd_or (td_not (td_tru (pd_isi kit_tuple rfl m_isinstance rfl m_tuple (by decide +kernel) (pd_var (i := 2) rfl (.inl rfl))) (fun _ _ => rfl))) (wd_or1 (td_cmp od_lt (pd_callB cd_len rfl m_len (by decide +kernel) (pd_var (i := 2) rfl (.inl rfl))) pd_int (nomark _))))) (ss_one (sd_ret pd_bl)) ss_nil)
      (ss_cons (sd_if (td_cmp od_eq (pd_ix (pd_var (i := 2) rfl (.inl rfl)) pd_int (fun _ _ => rfl)) pd_str (nomark _)) (ss_one (sd_ret (pd_and (pd_cmp od_eq (pd_callB cd_len rfl m_len (by decide +kernel) (pd_var (i := 2) rfl (.inl rfl))) pd_int (nomark _)) (pd_one (pd_call h_law_is_collation (show (4 : Nat) ≤ 4 by decide) rfl (ad_cons (pd_var (i := 0) rfl (.inl rfl)) (ad_cons (pd_var (i := 1) rfl (.inl rfl)) (ad_cons (pd_ix (pd_var (i := 2) rfl (.inl rfl)) pd_int (fun _ _ => rfl)) ad_nil)))))))) ss_nil)
      (ss_one (sd_ret (pd_and (pd_cmp od_eq (pd_ix (pd_var (i := 2) rfl (.inl rfl)) pd_int (fun _ _ => rfl)) pd_str (nomark _)) (pd_and (pd_cmp od_eq (pd_callB cd_len rfl m_len (by decide +kernel) (pd_var (i := 2) rfl (.inl rfl))) pd_int (nomark _)) (pd_one (pd_call h_law_shows (show (4 : Nat) ≤ 4 by decide) rfl (ad_cons (pd_var (i := 0) rfl (.inl rfl)) (ad_cons (pd_var (i := 1) rfl (.inl rfl)) (ad_cons (pd_ix (pd_var (i := 2) rfl (.inl rfl)) pd_int (fun _ _ => rfl)) (ad_cons (pd_ix (pd_var (i := 2) rfl (.inl rfl)) pd_int (fun _ _ => rfl)) ad_nil)))))))))))) ?_
  · rintro ds q ⟨p, s, v, rfl, _⟩
    rfl
  · rintro ds q ⟨p, s, v, rfl, hp, hs, hl, hv, h⟩
    walk_at "rd"
    cases v with
    | tuple ds =>
      match ds, hv, h with
      | [], hv, h =>
        walk_at "rd"
        exact itT (dT (by decide)) h
      | [x], hv, h =>
        walk_at "rd"
        refine itT (dT (by decide)) ?_
        have e : accB p s (.tuple [x]) = false := by
          cases x with
          | str w =>
            simp only [accB]
            split <;> (try split) <;> rfl
          | _ => rfl
        rw [e] at h
        exact h
      | x :: y :: r, hv, h =>
        walk_at "rd"
        refine itF (dF (by omega)) ?_
        have hshp := hv.2 _ rfl
        refine ⟨hshp, shp_C, ?_⟩
        cases hx : isStrD x with
        | false =>
          rw [accB_head hx] at h
          rw [eqv_strD _ hx]
          refine itF (by decide) ⟨hshp, shp_R, ?_⟩
          rw [eqv_strD _ hx]
          exact itF (by decide) h
        | true =>
          cases x with
          | str w =>
            simp only [accB] at h
            rw [eqv_str]
            by_cases hc : (w == wC) = true
            · rw [if_pos hc] at h
              refine itT hc ?_
              match r, hv, h with
              | [], hv, h =>
                refine itT (dT (by simp only [List.length_cons, List.length_nil]; omega)) ?_
                exact ⟨p, s, y, rfl, hp, hs, hl, hv.1 y (by simp), h⟩
              | b :: r', _, h => exact itF (dF (by simp only [List.length_cons]; omega)) h
            · rw [if_neg hc] at h
              refine itF hc ⟨hshp, shp_R, ?_⟩
              rw [eqv_str]
              by_cases hc2 : (w == wR) = true
              · rw [if_pos hc2] at h
                refine itT hc2 ?_
                match r, hv, h with
                | [], _, h => exact itF (dF (by simp only [List.length_cons, List.length_nil]; omega)) h
                | [ps], hv, h =>
                  refine itT (dT (by simp only [List.length_cons, List.length_nil]; omega)) ?_
                  rw [atI_2]
                  exact ⟨p, s, y, ps, rfl, hp, hs, hl, hv.1 y (by simp), hv.1 ps (by simp), h⟩
                | b :: c :: r', _, h => exact itF (dF (by simp only [List.length_cons]; omega)) h
              · rw [if_neg hc2] at h
                exact itF hc2 h
          | _ => exact nomatch hx
    | _ => exact itT (by simp [isTupD]) h
end Qm


namespace Qm
open PySem PySem.Spec PyProof.Rows L2
local macro_rules | `(tactic| walk_at "rd") => `(tactic| simp only [dRet, dDrop, dAnd, dOr, dUn, rdIsi, dVar, dC, sel, dNotV, dChain, dBin, rdEq, rdNe, rdNeg, dTB, tAndD, tOrD, tNotD, dTru, dNil, dCons, dTup, dLst, dSl, dNoPart, dPart, dRev, dNext, dSeq, dIf, dAsg, gN, gP, dCall, dNever, dNewL, dApp, dTupO, dNewD, dGetO, dPutO, selO, noOwn, dRng, dIlst, dItup, dIenum, boolD_b, intD_i, tupD_t, lstD_l, pairD_2, truD_n, truD_b, truD_i, truD_l, truD_t, rdLen_t, rdLen_l, rdTuple_t, rdTuple_l, rdList_t, rdList_l, rdIx_t, rdIx_l, rdMul_i, rdMul_t, rdMul_l, rdAdd_i, rdAdd_t, rdAdd_l, rdI_i, rdI0_i, rdIn_l, rdNotIn_l, rdIs_n, rdSum_t, intsD_map, intsD_1, intsD_2, intsD_3, rg1_1, rg2_2, rg3_3, optD_s, atI_0, atI_1, atI_2, atI_l1, atI_l2, atI_l3, startD, List.map, List.length, List.cons_append, List.nil_append, Nat.reduceAdd, Nat.reduceSub, Nat.sub_self, List.replicate, List.append_nil, List.set, Nat.zero_add, wipeD, if_true, if_false, reduceIte, Bool.not_true, Bool.not_false, Bool.false_eq_true, List.length_map, shp_int, eqv_int, true_and, and_true, CDiv, Int.reduceLT, Int.reduceLE, Int.reducePow, Int.reduceNeg, Int.reduceMul, isIntD_int, isBoolD_int, isBoolD_bool, isIntD_bool, isTupD_tup, isStrD_str])

/-! ### _law_drawn -/
theorem le_sum {ns : List Int} {n : Int} (h : ∀ m ∈ ns, 1 ≤ m) (hn : n ∈ ns) : n ≤ ns.sum := by
  induction ns with
  | nil => exact nomatch hn
  | cons a r ih =>
    have hr : ∀ m ∈ r, 1 ≤ m := fun m hm => h m (List.mem_cons_of_mem _ hm)
    have h0 := sum_nn1 hr
    have ha := h a List.mem_cons_self
    rw [List.sum_cons]
    rcases List.mem_cons.mp hn with e | e
    · omega
    · have := ih hr e
      omega
theorem isC_small {p t ns : List Int} (h : isC p t ns) (hl : t.length ≤ 16) : ns.length ≤ 20 ∧ ∀ n ∈ ns, 0 ≤ n ∧ n ≤ 100 := by
  have h1 := sum_nn1 h.1
  have h2 := h.2.1
  refine ⟨by omega, fun n hn => ?_⟩
  have h3 := le_sum h.1 hn
  have h4 := h.1 n hn
  omega
def fn_law_drawn : Fn := fun ds q => ∃ p s, ds = [.dict [], tI p, tI s] ∧ Pap p ∧ Mks p s ∧ s.length ≤ 16 ∧ ∀ v, Raw v → q v
abbrev st_law_drawn : Stmt := topS 42
abbrev N_law_drawn : List Str := ["_law_stream_here", "_law_paper_here", "_law_sequence_here", "_law_cut", "_law_rows", "_law_told", "_law_pairs", "_law_k", "_law_leaf"]
theorem sc_law_drawn : FnScope N_law_drawn ["_law_stream_here", "_law_paper_here", "_law_sequence_here"] (defScope st_law_drawn) := ⟨rfl, rfl, rfl, by decide +kernel, rfl, by decide +kernel, by decide +kernel⟩
theorem ok_law_drawn {g : Gm} {f : Addr} {fd : FuncData} (F : Fun g.K "_law_drawn" "_law_drawn" st_law_drawn f fd) (hb : Binds g.K fd ["_law_stream_here", "_law_paper_here", "_law_sequence_here"] []) (hm : g.mg "_law_drawn" = some (.ref f)) (m_len : g.mg "len" = none) (m_range : g.mg "range" = none) (m_tuple : g.mg "tuple" = none) (h_law_next : FD g 1 "_law_next" fn_law_next) (h_law_all_collations : FD g 3 "_law_all_collations" fn_law_all_collations) : FD g 4 "_law_drawn" fn_law_drawn := by
  refine fd_mk (k := 3) F sc_law_drawn hb hm ?_
    (ss_cons (sd_asg (pd_call h_law_next (show (1 : Nat) ≤ 3 by decide) rfl (ad_cons (pd_var (i := 0) rfl (.inl rfl)) (ad_cons (pd_bin od_add (pd_callB cd_len rfl m_len (by decide +kernel) (pd_var (i := 2) rfl (.inl rfl))) pd_int) ad_nil))) (gd_name (i := 3) rfl (.inl ⟨rfl, .inl rfl⟩)))
      (ss_cons (sd_asg (pd_call h_law_all_collations (show (3 : Nat) ≤ 3 by decide) rfl (ad_cons (pd_var (i := 1) rfl (.inl rfl)) (ad_cons (pd_slice (pd_var (i := 2) rfl (.inl rfl)) od_none (od_some (pd_var (i := 3) rfl (.inl rfl)))) ad_nil))) (gd_name (i := 4) rfl (.inl ⟨rfl, .inl rfl⟩)))
      (ss_cons (sd_asg (pd_bin od_mul (pd_tup (ad_cons pd_int ad_nil)) (pd_bin od_fdiv (pd_var (i := 3) rfl (.inl rfl)) pd_int)) (gd_name (i := 5) rfl (.inl ⟨rfl, .inl rfl⟩)))
      (ss_cons (sd_if (td_tru (pd_var (i := 4) rfl (.inl rfl)) (fun _ _ => rfl)) (ss_one (sd_asg (pd_ix (pd_var (i := 4) rfl (.inl rfl)) (pd_call h_law_next (show (1 : Nat) ≤ 3 by decide) rfl (ad_cons (pd_var (i := 0) rfl (.inl rfl)) (ad_cons (pd_callB cd_len rfl m_len (by decide +kernel) (pd_var (i := 4) rfl (.inl rfl))) ad_nil))) (fun _ _ => rfl)) (gd_name (i := 5) rfl (.inl ⟨rfl, .inl rfl⟩)))) ss_nil)
      (ss_cons (sd_newL (i := 6) rfl (.inl ⟨rfl, .inl rfl⟩))
      (ss_cons (sd_for rfl (id_range1 rfl m_range (ad_cons (pd_bin od_fdiv (pd_bin od_sub (pd_callB cd_len rfl m_len (by decide +kernel) (pd_var (i := 2) rfl (.inl rfl))) (pd_var (i := 3) rfl (.inl rfl))) pd_int) ad_nil)) (gd_name (i := 7) rfl (.inl ⟨rfl, .inl rfl⟩)) (ss_cons (sd_asg (pd_bin od_add (pd_var (i := 3) rfl (.inl rfl)) (pd_call h_law_next (show (1 : Nat) ≤ 3 by decide) rfl (ad_cons (pd_var (i := 0) rfl (.inl rfl)) (ad_cons (pd_bin od_add (pd_var (i := 7) rfl (.inl rfl)) pd_int) ad_nil)))) (gd_name (i := 8) rfl (.inl ⟨rfl, .inl rfl⟩)))
      (ss_one (sd_app (i := 6) rfl (.inl rfl) (pd_tup (ad_cons (pd_var (i := 8) rfl (.inl rfl)) (ad_cons (pd_bin od_sub (pd_bin od_add (pd_bin od_add (pd_bin od_mul pd_int (pd_var (i := 3) rfl (.inl rfl))) (pd_bin od_mul pd_int (pd_var (i := 7) rfl (.inl rfl)))) pd_int) (pd_var (i := 8) rfl (.inl rfl))) ad_nil)))))))
      (ss_one (sd_ret (pd_tup (ad_cons pd_str (ad_cons (pd_var (i := 5) rfl (.inl rfl)) (ad_cons (pd_tupO (i := 6) rfl m_tuple rfl (.inl rfl)) ad_nil)))))))))))) ?_
  · rintro ds q ⟨p, s, rfl, _⟩
    rfl
  · rintro ds q ⟨p, s, rfl, hp, hs, hl, h⟩
    walk_at "rd"
    refine ⟨_, rfl, by omega, by omega, fun cut c0 c1 => ?_⟩
    walk_at "rd"
    rw [cut_to c0]
    refine ⟨p, _, rfl, hp, mks_take _ hs, by rw [List.length_take]; omega, fun rs hr => ?_⟩
    walk_at "rd"
    refine ⟨by decide, ⟨by simp, by omega, by omega, by decide⟩, ?_⟩
    refine ite2 (fun hne => ⟨_, rfl, ?p1, ?p2, fun k k0 k1 => ?b1⟩) fun _ => ?b2
    case p1 =>
      cases rs with
      | nil => simp at hne
      | cons a r =>
        rw [List.length_cons]
        omega
    case p2 =>
      have h1 := hr.len
      have h2 : 2 ^ ((List.take cut.toNat s).length / 2) ≤ 2 ^ 8 := Nat.pow_le_pow_right (by decide) (by rw [List.length_take]; omega)
      omega
    case' b1 =>
      obtain ⟨j, rfl⟩ := Int.eq_ofNat_of_zero_le k0
      have hj : j < rs.length := by omega
      have hns := isC_small ((hr.mem _).mp (List.getElem_mem hj)) (by rw [List.length_take]; omega)
      walk_at "rd"
      rw [atI_nat (v := tI rs[j]) (by rw [List.getElem?_map, List.getElem?_eq_getElem hj]; rfl)]
      generalize rs[j] = ns at hns
      rw [optD_s]
    case' b2 =>
      obtain ⟨ns, e, hns⟩ : ∃ ns : List Int, PyData.tuple (List.replicate (cut / 2).toNat [PyData.int 1]).flatten = tI ns ∧ ns.length ≤ 20 ∧ ∀ n ∈ ns, 0 ≤ n ∧ n ≤ 100 := by
        refine ⟨List.replicate (cut / 2).toNat 1, ?_, by rw [List.length_replicate]; omega, fun n hn => ?_⟩
        · generalize (cut / 2).toNat = m
          have e : (List.replicate m [PyData.int 1]).flatten = (List.replicate m (1 : Int)).map .int := by
            rw [List.map_replicate]
            induction m with
            | zero => rfl
            | succ m ih =>
              rw [List.replicate_succ, List.flatten_cons, ih, List.replicate_succ]
              rfl
          rw [e]
        · rw [List.eq_of_mem_replicate hn]
          decide
      rw [e]
    all_goals
      obtain ⟨hl20, hran⟩ := hns
      refine for_run (rangeL 0 1 (((s.length : Int) - cut) / 2).toNat) (fun R h => ?_) (fun i ow ρ => ∃ prs : List (Int × Int), ow = .l (prs.map prD) ∧ prs.length = i ∧ (∀ x ∈ prs, (-100 ≤ x.1 ∧ x.1 ≤ 100) ∧ (-100 ≤ x.2 ∧ x.2 ≤ 100)) ∧ ∃ a b, ρ = [.d (.dict []), .d (tI p), .d (tI s), .d (.int cut), .d (.list (rs.map tI)), .d (tI ns), .own, a, b]) ⟨[], rfl, rfl, by simp, _, _, rfl⟩ (fun i d ow ρ hd hi => ?_) (fun ow ρ hi => ?_)
      · walk_at "rd"
        exact ⟨⟨by omega, by omega⟩, h⟩
      · obtain ⟨prs, rfl, hpl, hpb, a, b, rfl⟩ := hi
        obtain ⟨hi2, rfl⟩ := rangeL_get hd
        rw [show (0 : Int) + (i : Int) * 1 = (i : Int) by omega]
        walk_at "rd"
        refine ⟨_, rfl, by omega, by omega, fun f f0 f1 => ?_⟩
        walk_at "rd"
        refine ⟨by decide, by omega, prs ++ [(cut + f, 2 * cut + 2 * (i : Int) + 1 - (cut + f))], ?_, ?_, ?_, _, _, rfl⟩
        · rw [List.map_append]
          rfl
        · rw [List.length_append, hpl]
          rfl
        · intro x hx
          rcases List.mem_append.mp hx with hx | hx
          · exact hpb x hx
          · rw [List.mem_singleton.mp hx]
            refine ⟨⟨?_, ?_⟩, ?_, ?_⟩ <;> simp only <;> omega
      · obtain ⟨prs, rfl, hpl, hpb, a, b, rfl⟩ := hi
        rw [rangeL_len] at hpl
        walk_at "rd"
        exact ⟨by decide, h _ (.rest _ prs hl20 (by omega) hran hpb)⟩

end Qm


namespace Qm
open PySem PySem.Spec PyProof.Rows L2
def dW (i : Nat) (ow : Ow) (ρ : Rho) (Q : PyData → Prop) : Prop := match ρ[i]? with
  | some (.d x) => Q x
  | _ => False
theorem dW_var : ∀ {i : Nat} {ow : Ow} {ρ : Rho} {Q : PyData → Prop}, dW i ow ρ Q → dVar i ow ρ Q
  | _, _, [], _, h => by simp [dW] at h
  | 0, _, .d x :: _, _, h => h
  | 0, _, .u :: _, _, h => by simp [dW] at h
  | 0, _, .own :: _, _, h => by simp [dW] at h
  | i + 1, ow, .d x :: r, Q, h => dW_var (i := i) (ow := ow) (ρ := r) (Q := Q) h
  | i + 1, ow, .u :: r, Q, h => dW_var (i := i) (ow := ow) (ρ := r) (Q := Q) h
  | i + 1, ow, .own :: r, Q, h => dW_var (i := i) (ow := ow) (ρ := r) (Q := Q) h
theorem pd_w {L : Lx} {i : Nat} {x : Str} {p : Pos} (hi : L.N[i]? = some x) (hv : Vis L.sc x) (hd : (x == ("__debug__" : Str)) = false := by decide) (hcd : (x == ("__classdict__" : Str)) = false := by decide) : Pd L (.Name x p) (dW i) := ⟨fun ow ρ Q h => (pd_var hi hv hd hcd).run ow ρ Q (dW_var h)⟩
theorem dv0 {ow : Ow} {x : PyData}  {r : Rho} {Q : PyData → Prop} : dW 0 ow (.d x :: r) Q = Q x := rfl
theorem dv1 {ow : Ow} {x : PyData} {y0 : Sl} {r : Rho} {Q : PyData → Prop} : dW 1 ow (y0 :: .d x :: r) Q = Q x := rfl
theorem dv2 {ow : Ow} {x : PyData} {y0 y1 : Sl} {r : Rho} {Q : PyData → Prop} : dW 2 ow (y0 :: y1 :: .d x :: r) Q = Q x := rfl
theorem dv3 {ow : Ow} {x : PyData} {y0 y1 y2 : Sl} {r : Rho} {Q : PyData → Prop} : dW 3 ow (y0 :: y1 :: y2 :: .d x :: r) Q = Q x := rfl
theorem dv4 {ow : Ow} {x : PyData} {y0 y1 y2 y3 : Sl} {r : Rho} {Q : PyData → Prop} : dW 4 ow (y0 :: y1 :: y2 :: y3 :: .d x :: r) Q = Q x := rfl
theorem dv5 {ow : Ow} {x : PyData} {y0 y1 y2 y3 y4 : Sl} {r : Rho} {Q : PyData → Prop} : dW 5 ow (y0 :: y1 :: y2 :: y3 :: y4 :: .d x :: r) Q = Q x := rfl
theorem dv6 {ow : Ow} {x : PyData} {y0 y1 y2 y3 y4 y5 : Sl} {r : Rho} {Q : PyData → Prop} : dW 6 ow (y0 :: y1 :: y2 :: y3 :: y4 :: y5 :: .d x :: r) Q = Q x := rfl
theorem dv7 {ow : Ow} {x : PyData} {y0 y1 y2 y3 y4 y5 y6 : Sl} {r : Rho} {Q : PyData → Prop} : dW 7 ow (y0 :: y1 :: y2 :: y3 :: y4 :: y5 :: y6 :: .d x :: r) Q = Q x := rfl
theorem dv8 {ow : Ow} {x : PyData} {y0 y1 y2 y3 y4 y5 y6 y7 : Sl} {r : Rho} {Q : PyData → Prop} : dW 8 ow (y0 :: y1 :: y2 :: y3 :: y4 :: y5 :: y6 :: y7 :: .d x :: r) Q = Q x := rfl
theorem dv9 {ow : Ow} {x : PyData} {y0 y1 y2 y3 y4 y5 y6 y7 y8 : Sl} {r : Rho} {Q : PyData → Prop} : dW 9 ow (y0 :: y1 :: y2 :: y3 :: y4 :: y5 :: y6 :: y7 :: y8 :: .d x :: r) Q = Q x := rfl
theorem dv10 {ow : Ow} {x : PyData} {y0 y1 y2 y3 y4 y5 y6 y7 y8 y9 : Sl} {r : Rho} {Q : PyData → Prop} : dW 10 ow (y0 :: y1 :: y2 :: y3 :: y4 :: y5 :: y6 :: y7 :: y8 :: y9 :: .d x :: r) Q = Q x := rfl
theorem dv11 {ow : Ow} {x : PyData} {y0 y1 y2 y3 y4 y5 y6 y7 y8 y9 y10 : Sl} {r : Rho} {Q : PyData → Prop} : dW 11 ow (y0 :: y1 :: y2 :: y3 :: y4 :: y5 :: y6 :: y7 :: y8 :: y9 :: y10 :: .d x :: r) Q = Q x := rfl
theorem dv12 {ow : Ow} {x : PyData} {y0 y1 y2 y3 y4 y5 y6 y7 y8 y9 y10 y11 : Sl} {r : Rho} {Q : PyData → Prop} : dW 12 ow (y0 :: y1 :: y2 :: y3 :: y4 :: y5 :: y6 :: y7 :: y8 :: y9 :: y10 :: y11 :: .d x :: r) Q = Q x := rfl
theorem dv13 {ow : Ow} {x : PyData} {y0 y1 y2 y3 y4 y5 y6 y7 y8 y9 y10 y11 y12 : Sl} {r : Rho} {Q : PyData → Prop} : dW 13 ow (y0 :: y1 :: y2 :: y3 :: y4 :: y5 :: y6 :: y7 :: y8 :: y9 :: y10 :: y11 :: y12 :: .d x :: r) Q = Q x := rfl
theorem dv14 {ow : Ow} {x : PyData} {y0 y1 y2 y3 y4 y5 y6 y7 y8 y9 y10 y11 y12 y13 : Sl} {r : Rho} {Q : PyData → Prop} : dW 14 ow (y0 :: y1 :: y2 :: y3 :: y4 :: y5 :: y6 :: y7 :: y8 :: y9 :: y10 :: y11 :: y12 :: y13 :: .d x :: r) Q = Q x := rfl
theorem dv15 {ow : Ow} {x : PyData} {y0 y1 y2 y3 y4 y5 y6 y7 y8 y9 y10 y11 y12 y13 y14 : Sl} {r : Rho} {Q : PyData → Prop} : dW 15 ow (y0 :: y1 :: y2 :: y3 :: y4 :: y5 :: y6 :: y7 :: y8 :: y9 :: y10 :: y11 :: y12 :: y13 :: y14 :: .d x :: r) Q = Q x := rfl
local macro_rules | `(tactic| walk_at "rd") => `(tactic| simp only [↓dv0, ↓dv1, ↓dv2, ↓dv3, ↓dv4, ↓dv5, ↓dv6, ↓dv7, ↓dv8, ↓dv9, ↓dv10, ↓dv11, ↓dv12, ↓dv13, ↓dv14, ↓dv15, ↓boolD_b, ↓intD_i, ↓tupD_t, ↓lstD_l, ↓pairD_2, ↓truD_n, ↓truD_b, ↓truD_i, ↓truD_l, ↓truD_t, ↓rdLen_t, ↓rdLen_l, ↓rdTuple_t, ↓rdTuple_l, ↓rdList_t, ↓rdList_l, ↓rdIx_t, ↓rdIx_l, ↓rdMul_i, ↓rdMul_t, ↓rdMul_l, ↓rdAdd_i, ↓rdAdd_t, ↓rdAdd_l, ↓rdI_i, ↓rdI0_i, ↓rdIn_l, ↓rdNotIn_l, ↓rdIs_n, ↓rdSum_t, ↓intsD_map, ↓rg1_1, ↓rg2_2, ↓optD_s, ↓true_and, dRet, dDrop, dAnd, dOr, dUn, rdIsi, dC, dNotV, dChain, dBin, rdEq, rdNe, rdNeg, dTB, tAndD, tOrD, tNotD, dTru, dNil, dCons, dTup, dLst, dSl, dNoPart, dPart, dRev, dNext, dSeq, dIf, dAsg, gN, gP, dCall, dNever, dNewL, dApp, dTupO, dNewD, dGetO, dPutO, selO, noOwn, dRng, dIlst, dItup, dIenum, boolD_b, intD_i, tupD_t, lstD_l, pairD_2, truD_n, truD_b, truD_i, truD_l, truD_t, rdLen_t, rdLen_l, rdTuple_t, rdTuple_l, rdList_t, rdList_l, rdIx_t, rdIx_l, rdMul_i, rdMul_t, rdMul_l, rdAdd_i, rdAdd_t, rdAdd_l, rdI_i, rdI0_i, rdIn_l, rdNotIn_l, rdIs_n, rdSum_t, intsD_map, intsD_1, intsD_2, intsD_3, rg1_1, rg2_2, rg3_3, optD_s, atI_0, atI_1, atI_2, atI_l1, atI_l2, atI_l3, startD, List.map, List.length, List.cons_append, List.nil_append, Nat.reduceAdd, Nat.reduceSub, Nat.sub_self, List.replicate, List.append_nil, List.set, Nat.zero_add, wipeD, if_true, if_false, reduceIte, Bool.not_true, Bool.not_false, Bool.false_eq_true, List.length_map, shp_int, eqv_int, true_and, and_true, CDiv, Int.reduceLT, Int.reduceLE, Int.reducePow, Int.reduceNeg, Int.reduceMul, isIntD_int, isBoolD_int, isBoolD_bool, isIntD_bool, isTupD_tup, isStrD_str, dVar, sel])

/-! ### _law_turned -/
theorem dSeq_cut {t u : DTS} {D : De} {ow : Ow} {ρ : Rho} (h : ∀ R : Ow → Rho → Prop, (∀ ow ρ, u D ow ρ → R ow ρ) → t { nx := R, rt := D.rt, bk := D.bk, ct := D.ct } ow ρ) : dSeq t u D ow ρ := h _ fun _ _ z => z
theorem dIf_cut {c : DTT} {t u : DTS} {D : De} {ow : Ow} {ρ : Rho} (h : ∀ T U : Prop, (t D ow ρ → T) → (u D ow ρ → U) → c ow ρ (fun b => if b = true then T else U)) : dIf c t u D ow ρ := h _ _ id id
theorem cutD_len (xs : List PyData) (lo hi : Option Int) : (cutD xs lo hi).length ≤ xs.length := by
  unfold cutD
  rw [List.length_take, List.length_drop]
  omega
theorem optD_all {xs : List PyData} {k : Int} {Q : PyData → Prop} (P : PyData → Prop) (h : ∀ d ∈ xs, P d) (h0 : 0 ≤ k) (h1 : k < xs.length) (q : ∀ d, P d → Q d) : optD (atI xs k) Q := by
  obtain ⟨j, rfl⟩ := Int.eq_ofNat_of_zero_le h0
  have hj : j < xs.length := by omega
  rw [atI_nat (List.getElem?_eq_getElem hj)]
  exact q _ (h _ (List.getElem_mem hj))
theorem vok {x : PyData} {r : List PyData} (hx : lenOk x) (hs : SeqAt.shaped x = true) (hr : ∀ d ∈ r, lenOk d) : VOk (.tuple (x :: r)) := ⟨fun d hd => (List.mem_cons.mp hd).elim (fun e => by rw [e]; exact hx) (hr d), fun y e => by cases e; exact hs⟩
section
variable (a b c : PyData)
theorem c2a : cutD [a, b] none (some 1) = [a] := rfl
theorem c2b : cutD [a, b] (some 1) none = [b] := rfl
theorem c2c : cutD [a, b] none (some 2) = [a, b] := rfl
theorem c2d : cutD [a, b] (some 2) none = [] := rfl
theorem c2e : cutD [a, b] none (some (-1)) = [a] := rfl
theorem c3a : cutD [a, b, c] none (some 1) = [a] := rfl
theorem c3b : cutD [a, b, c] (some 1) none = [b, c] := rfl
theorem c3c : cutD [a, b, c] none (some 2) = [a, b] := rfl
theorem c3d : cutD [a, b, c] (some 2) none = [c] := rfl
theorem c3e : cutD [a, b, c] none (some (-1)) = [a, b] := rfl
end
theorem shp_none : SeqAt.shaped .none = true := by decide +kernel
theorem len_tI {ns : List Int} (h : ns.length ≤ 20) : lenOk (tI ns) := by
  show (ns.map PyData.int).length ≤ 1000
  rw [List.length_map]
  omega
theorem opts_ok {ns A B C : List PyData} (h0 : ns.length ≤ 20) (h1 : A.length ≤ 20) (h2 : B.length ≤ 20) (h3 : C.length ≤ 20) : ∀ d ∈ [PyData.tuple C, .tuple (ns ++ [.int 1]), .list ns, .none, .tuple ns.reverse, .tuple (A ++ .int 0 :: B), .tuple (A ++ .bool true :: B), .tuple (A ++ .int 9 :: B)], lenOk d := by
  intro d hd
  simp only [List.mem_cons, List.not_mem_nil, or_false] at hd
  rcases hd with rfl | rfl | rfl | rfl | rfl | rfl | rfl | rfl
  all_goals first | trivial | (simp only [lenOk, List.length_append, List.length_cons, List.length_nil, List.length_reverse]; omega)
theorem opts2_ok {ns A B C : List PyData} (h0 : ns.length ≤ 20) (h1 : A.length ≤ 20) (h2 : B.length ≤ 20) (h3 : C.length ≤ 20) : ∀ d ∈ [PyData.tuple A, .tuple B, .tuple (ns ++ C), .tuple ns.reverse, .list ns, .none], lenOk d := by
  intro d hd
  simp only [List.mem_cons, List.not_mem_nil, or_false] at hd
  rcases hd with rfl | rfl | rfl | rfl | rfl | rfl
  all_goals first | trivial | (simp only [lenOk, List.length_append, List.length_cons, List.length_nil, List.length_reverse]; omega)
def fn_law_turned : Fn := fun ds q => ∃ v, ds = [.dict [], v] ∧ Raw v ∧ ∀ v', VOk v' → q v'
abbrev st_law_turned : Stmt := topS 43
abbrev N_law_turned : List Str := ["_law_stream_here", "_law_value", "_law_pick", "_law_row", "_law_at", "_law_options", "_law_odd", "_law_one", "_law_other"]
theorem sc_law_turned : FnScope N_law_turned ["_law_stream_here", "_law_value"] (defScope st_law_turned) := ⟨rfl, rfl, rfl, by decide +kernel, rfl, by decide +kernel, by decide +kernel⟩
theorem ok_law_turned {g : Gm} {f : Addr} {fd : FuncData} (F : Fun g.K "_law_turned" "_law_turned" st_law_turned f fd) (hb : Binds g.K fd ["_law_stream_here", "_law_value"] []) (hm : g.mg "_law_turned" = some (.ref f)) (m_len : g.mg "len" = none) (m_list : g.mg "list" = none) (h_law_next : FD g 1 "_law_next" fn_law_next) : FD g 2 "_law_turned" fn_law_turned := by
  refine fd_mk (k := 1) F sc_law_turned hb hm ?_
    (ss_cons (sd_asg (pd_call h_law_next (show (1 : Nat) ≤ 1 by decide) rfl (ad_cons (pd_w (i := 0) rfl (.inl rfl)) (ad_cons pd_int ad_nil))) (gd_name (i := 2) rfl (.inl ⟨rfl, .inl rfl⟩)))
      (ss_cons (sd_if (td_cmp od_eq (pd_w (i := 2) rfl (.inl rfl)) pd_int (nomark _)) (ss_one (sd_ret (pd_ix (pd_lst (ad_cons pd_non (ad_cons (pd_callTy cd_list rfl m_list (by decide +kernel) (pd_w (i := 1) rfl (.inl rfl))) (ad_cons (pd_slice (pd_w (i := 1) rfl (.inl rfl)) od_none (od_some pd_int)) (ad_cons (pd_bin od_add (pd_w (i := 1) rfl (.inl rfl)) (pd_tup (ad_cons (pd_tup ad_nil) ad_nil))) (ad_cons (pd_bin od_add (pd_tup (ad_cons pd_str ad_nil)) (pd_slice (pd_w (i := 1) rfl (.inl rfl)) (od_some pd_int) od_none)) (ad_cons (pd_bin od_add (pd_tup (ad_cons pd_str ad_nil)) (pd_slice (pd_w (i := 1) rfl (.inl rfl)) (od_some pd_int) od_none)) (ad_cons (pd_bin od_add (pd_tup (ad_cons pd_non ad_nil)) (pd_slice (pd_w (i := 1) rfl (.inl rfl)) (od_some pd_int) od_none)) (ad_cons (pd_slice (pd_w (i := 1) rfl (.inl rfl)) od_none (od_some pd_int)) ad_nil))))))))) (pd_call h_law_next (show (1 : Nat) ≤ 1 by decide) rfl (ad_cons (pd_w (i := 0) rfl (.inl rfl)) (ad_cons pd_int ad_nil))) (fun _ _ => rfl)))) ss_nil)
      (ss_cons (sd_asg (pd_ix (pd_w (i := 1) rfl (.inl rfl)) (pd_neg pd_int) (fun _ _ => rfl)) (gd_name (i := 3) rfl (.inl ⟨rfl, .inl rfl⟩)))
      (ss_cons (sd_if (Wdd.td (wd_or (td_cmp od_eq (pd_w (i := 2) rfl (.inl rfl)) pd_int (nomark _)) (wd_or1 (td_not (td_tru (pd_w (i := 3) rfl (.inl rfl)) (fun _ _ => rfl)))))) (ss_cons (sd_asg (pd_ix (pd_w (i := 1) rfl (.inl rfl)) pd_int (fun _ _ => rfl)) (gd_name (i := 3) rfl (.inl ⟨rfl, .inl rfl⟩)))
      (ss_cons (sd_asg (pd_call h_law_next (show (1 : Nat) ≤ 1 by decide) rfl (ad_cons (pd_w (i := 0) rfl (.inl rfl)) (ad_cons (pd_bin od_add (pd_callB cd_len rfl m_len (by decide +kernel) (pd_w (i := 3) rfl (.inl rfl))) pd_int) ad_nil))) (gd_name (i := 4) rfl (.inl ⟨rfl, .inl rfl⟩)))
      (ss_cons (sd_asg (pd_lst (ad_cons (pd_slice (pd_w (i := 3) rfl (.inl rfl)) (od_some pd_int) od_none) (ad_cons (pd_bin od_add (pd_w (i := 3) rfl (.inl rfl)) (pd_tup (ad_cons pd_int ad_nil))) (ad_cons (pd_callTy cd_list rfl m_list (by decide +kernel) (pd_w (i := 3) rfl (.inl rfl))) (ad_cons pd_non (ad_cons (pd_rev (pd_w (i := 3) rfl (.inl rfl))) (ad_cons (pd_bin od_add (pd_bin od_add (pd_slice (pd_w (i := 3) rfl (.inl rfl)) od_none (od_some (pd_w (i := 4) rfl (.inl rfl)))) (pd_tup (ad_cons pd_int ad_nil))) (pd_slice (pd_w (i := 3) rfl (.inl rfl)) (od_some (pd_bin od_add (pd_w (i := 4) rfl (.inl rfl)) pd_int)) od_none)) (ad_cons (pd_bin od_add (pd_bin od_add (pd_slice (pd_w (i := 3) rfl (.inl rfl)) od_none (od_some (pd_w (i := 4) rfl (.inl rfl)))) (pd_tup (ad_cons pd_bl ad_nil))) (pd_slice (pd_w (i := 3) rfl (.inl rfl)) (od_some (pd_bin od_add (pd_w (i := 4) rfl (.inl rfl)) pd_int)) od_none)) (ad_cons (pd_bin od_add (pd_bin od_add (pd_slice (pd_w (i := 3) rfl (.inl rfl)) od_none (od_some (pd_w (i := 4) rfl (.inl rfl)))) (pd_tup (ad_cons pd_int ad_nil))) (pd_slice (pd_w (i := 3) rfl (.inl rfl)) (od_some (pd_bin od_add (pd_w (i := 4) rfl (.inl rfl)) pd_int)) od_none)) ad_nil))))))))) (gd_name (i := 5) rfl (.inl ⟨rfl, .inl rfl⟩)))
      (ss_one (sd_ret (pd_bin od_add (pd_bin od_add (pd_slice (pd_w (i := 1) rfl (.inl rfl)) od_none (od_some pd_int)) (pd_tup (ad_cons (pd_ix (pd_w (i := 5) rfl (.inl rfl)) (pd_call h_law_next (show (1 : Nat) ≤ 1 by decide) rfl (ad_cons (pd_w (i := 0) rfl (.inl rfl)) (ad_cons pd_int ad_nil))) (fun _ _ => rfl)) ad_nil))) (pd_slice (pd_w (i := 1) rfl (.inl rfl)) (od_some pd_int) od_none))))))) ss_nil)
      (ss_cons (sd_asg (pd_call h_law_next (show (1 : Nat) ≤ 1 by decide) rfl (ad_cons (pd_w (i := 0) rfl (.inl rfl)) (ad_cons (pd_callB cd_len rfl m_len (by decide +kernel) (pd_w (i := 3) rfl (.inl rfl))) ad_nil))) (gd_name (i := 4) rfl (.inl ⟨rfl, .inl rfl⟩)))
      (ss_cons (sd_asg (pd_lst (ad_cons (pd_slice (pd_w (i := 3) rfl (.inl rfl)) (od_some pd_int) od_none) (ad_cons (pd_slice (pd_w (i := 3) rfl (.inl rfl)) od_none (od_some (pd_neg pd_int))) (ad_cons (pd_bin od_add (pd_w (i := 3) rfl (.inl rfl)) (pd_slice (pd_w (i := 3) rfl (.inl rfl)) (od_some (pd_neg pd_int)) od_none)) (ad_cons (pd_rev (pd_w (i := 3) rfl (.inl rfl))) (ad_cons (pd_callTy cd_list rfl m_list (by decide +kernel) (pd_w (i := 3) rfl (.inl rfl))) (ad_cons pd_non ad_nil))))))) (gd_name (i := 5) rfl (.inl ⟨rfl, .inl rfl⟩)))
      (ss_cons (sd_if (td_cmp od_eq (pd_ix (pd_w (i := 1) rfl (.inl rfl)) pd_int (fun _ _ => rfl)) pd_str (nomark _)) (ss_cons (sd_asg (pd_ix (pd_w (i := 3) rfl (.inl rfl)) (pd_w (i := 4) rfl (.inl rfl)) (fun _ _ => rfl)) (gd_pair (i := 7) (j := 8) rfl (.inl ⟨rfl, .inl rfl⟩) rfl (.inl ⟨rfl, .inl rfl⟩)))
      (ss_cons (sd_asg (pd_lst (ad_cons (pd_tup (ad_cons (pd_w (i := 8) rfl (.inl rfl)) (ad_cons (pd_w (i := 7) rfl (.inl rfl)) ad_nil))) (ad_cons (pd_tup (ad_cons (pd_bin od_add (pd_w (i := 7) rfl (.inl rfl)) pd_int) (ad_cons (pd_bin od_sub (pd_w (i := 8) rfl (.inl rfl)) pd_int) ad_nil))) (ad_cons (pd_tup (ad_cons (pd_bin od_sub (pd_w (i := 7) rfl (.inl rfl)) pd_int) (ad_cons (pd_bin od_add (pd_w (i := 8) rfl (.inl rfl)) pd_int) ad_nil))) (ad_cons (pd_tup (ad_cons (pd_w (i := 7) rfl (.inl rfl)) (ad_cons (pd_bin od_add (pd_w (i := 8) rfl (.inl rfl)) pd_int) ad_nil))) (ad_cons (pd_lst (ad_cons (pd_w (i := 7) rfl (.inl rfl)) (ad_cons (pd_w (i := 8) rfl (.inl rfl)) ad_nil))) (ad_cons (pd_tup (ad_cons (pd_w (i := 7) rfl (.inl rfl)) ad_nil)) (ad_cons pd_non (ad_cons (pd_tup (ad_cons pd_bl (ad_cons (pd_w (i := 8) rfl (.inl rfl)) ad_nil))) (ad_cons (pd_tup (ad_cons (pd_w (i := 7) rfl (.inl rfl)) (ad_cons (pd_w (i := 7) rfl (.inl rfl)) ad_nil))) ad_nil)))))))))) (gd_name (i := 6) rfl (.inl ⟨rfl, .inl rfl⟩)))
      (ss_one (sd_asg (pd_bin od_add (pd_w (i := 5) rfl (.inl rfl)) (pd_bin od_mul (pd_lst (ad_cons (pd_bin od_add (pd_bin od_add (pd_slice (pd_w (i := 3) rfl (.inl rfl)) od_none (od_some (pd_w (i := 4) rfl (.inl rfl)))) (pd_tup (ad_cons (pd_ix (pd_w (i := 6) rfl (.inl rfl)) (pd_call h_law_next (show (1 : Nat) ≤ 1 by decide) rfl (ad_cons (pd_w (i := 0) rfl (.inl rfl)) (ad_cons pd_int ad_nil))) (fun _ _ => rfl)) ad_nil))) (pd_slice (pd_w (i := 3) rfl (.inl rfl)) (od_some (pd_bin od_add (pd_w (i := 4) rfl (.inl rfl)) pd_int)) od_none)) ad_nil)) pd_int)) (gd_name (i := 5) rfl (.inl ⟨rfl, .inl rfl⟩)))))) ss_nil)
      (ss_one (sd_ret (pd_bin od_add (pd_slice (pd_w (i := 1) rfl (.inl rfl)) od_none (od_some (pd_neg pd_int))) (pd_tup (ad_cons (pd_ix (pd_w (i := 5) rfl (.inl rfl)) (pd_call h_law_next (show (1 : Nat) ≤ 1 by decide) rfl (ad_cons (pd_w (i := 0) rfl (.inl rfl)) (ad_cons (pd_callB cd_len rfl m_len (by decide +kernel) (pd_w (i := 5) rfl (.inl rfl))) ad_nil))) (fun _ _ => rfl)) ad_nil)))))))))))) ?_
  · rintro ds q ⟨v, rfl, _⟩
    rfl
  · rintro ds q ⟨v, rfl, hv, h⟩
    cases hv with
    | col ns hl hn =>
      have hti : lenOk (tI ns) := len_tI hl
      refine dSeq_cut fun R hR => ?_
      walk_at "rd"
      refine ⟨5, rfl, by decide, by decide, fun k k0 k1 => hR _ _ ?_⟩
      clear hR R
      refine dSeq_cut fun R hR => ?_
      walk_at "rd"
      simp only [c2a, c2b, c2c, c2d, c2e]
      refine ite2 (fun _ => ?_) fun _ => hR _ _ ?_
      · simp only [List.cons_append, List.nil_append, List.length_cons, List.length_nil]
        repeat refine And.intro (by decide) ?_
        refine ⟨8, rfl, by decide, by decide, fun k k0 k1 => ?_⟩
        walk_at "rd"
        refine optD_all VOk ?_ k0 k1 h
        intro d hd
        simp only [List.mem_cons, List.not_mem_nil, or_false] at hd
        rcases hd with rfl | rfl | rfl | rfl | rfl | rfl | rfl | rfl
        all_goals first | trivial | (refine vok trivial (by first | exact shp_C | exact shp_R | exact shp_none) ?_)
        all_goals (intro d hd; simp only [List.mem_cons, List.not_mem_nil, or_false] at hd)
        all_goals first | contradiction | (rcases hd with rfl | rfl | rfl) | (rcases hd with rfl | rfl) | subst hd
        all_goals first | exact hti | exact hpi | exact Nat.zero_le _
      clear hR R
      refine dSeq_cut fun R hR => ?_
      walk_at "rd"
      refine hR _ _ ?_
      clear hR R
      refine dSeq_cut fun R hR => ?_
      walk_at "rd"
      simp only [c2a, c2b, c2c, c2d, c2e]
      refine ite2 (fun _ => ?x1) fun _ => ite2 (fun _ => ?x2) fun hemp => hR _ _ ?x3
      case x1 | x2 =>
        refine ⟨_, rfl, by omega, by omega, fun a a0 a1 => ?_⟩
        walk_at "rd"
        have l1 := cutD_len (ns.map .int) none (some a)
        have l2 := cutD_len (ns.map .int) (some (a + 1)) none
        have l3 := cutD_len (ns.map .int) (some 1) none
        rw [List.length_map] at l1 l2 l3
        try simp only [List.length_append, List.length_cons, List.length_nil, List.append_assoc, List.cons_append, List.nil_append]
        repeat refine And.intro (by omega) ?_
        refine ⟨8, rfl, by decide, by decide, fun j j0 j1 => ?_⟩
        walk_at "rd"
        refine optD_all lenOk (opts_ok (by rw [List.length_map]; exact hl) (by omega) (by omega) (by omega)) j0 j1 fun x hx => ?_
        try simp only [List.length_append, List.length_cons, List.length_nil, List.append_assoc, List.cons_append, List.nil_append]
        repeat refine And.intro (by omega) ?_
        refine h _ (vok trivial shp_C ?_)
        intro d hd
        simp only [List.mem_cons, List.not_mem_nil, or_false] at hd
        subst hd; exact hx
      clear hR R
      have hne : 0 < ns.length := by
        cases ns with
        | nil => simp at hemp
        | cons a r => simp
      refine dSeq_cut fun R hR => ?_
      walk_at "rd"
      refine ⟨_, rfl, by omega, by omega, fun a a0 a1 => hR _ _ ?_⟩
      clear hR R
      refine dSeq_cut fun R hR => ?_
      walk_at "rd"
      obtain ⟨A, eA, lA⟩ : ∃ A, A = cutD (ns.map .int) (some 1) none ∧ A.length ≤ 20 := ⟨_, rfl, Nat.le_trans (cutD_len _ _ _) (by rw [List.length_map]; exact hl)⟩
      obtain ⟨B, eB, lB⟩ : ∃ A, A = cutD (ns.map .int) none (some (-1)) ∧ A.length ≤ 20 := ⟨_, rfl, Nat.le_trans (cutD_len _ _ _) (by rw [List.length_map]; exact hl)⟩
      obtain ⟨C, eC, lC⟩ : ∃ A, A = cutD (ns.map .int) (some (-1)) none ∧ A.length ≤ 20 := ⟨_, rfl, Nat.le_trans (cutD_len _ _ _) (by rw [List.length_map]; exact hl)⟩
      rw [← eA, ← eB, ← eC]
      clear eA eB eC
      repeat refine And.intro (by omega) ?_
      refine hR _ _ ?_
      clear hR R
      refine dSeq_cut fun R hR => dIf_cut fun T U hT hU => ?_
      walk_at "rd"
      refine ⟨shp_C, shp_R, ?_⟩
      rw [eqv_str]
      refine itF (by decide +kernel) (hU (hR _ _ ?_))
      clear hT hU hR R T U
      walk_at "rd"
      simp only [c2a, c2b, c2c, c2d, c2e]
      repeat refine And.intro (by omega) ?_
      refine ⟨_, rfl, by decide, by decide, fun j j0 j1 => ?_⟩
      walk_at "rd"
      refine optD_all lenOk (opts2_ok (by rw [List.length_map]; exact hl) (by omega) (by omega) (by omega)) j0 j1 fun x hx => ?_
      try simp only [List.length_append, List.length_cons, List.length_nil, List.append_assoc, List.cons_append, List.nil_append]
      repeat refine And.intro (by omega) ?_
      refine h _ (vok trivial shp_C ?_)
      intro d hd
      simp only [List.mem_cons, List.not_mem_nil, or_false] at hd
      subst hd
      exact hx
    | rest ns ps hl hp hn hx =>
      have hti : lenOk (tI ns) := len_tI hl
      have hpi : lenOk (.tuple (ps.map prD)) := by
        show (ps.map prD).length ≤ 1000
        rw [List.length_map]
        omega
      refine dSeq_cut fun R hR => ?_
      walk_at "rd"
      refine ⟨5, rfl, by decide, by decide, fun k k0 k1 => hR _ _ ?_⟩
      clear hR R
      refine dSeq_cut fun R hR => ?_
      walk_at "rd"
      simp only [c3a, c3b, c3c, c3d, c3e]
      refine ite2 (fun _ => ?_) fun _ => hR _ _ ?_
      · simp only [List.cons_append, List.nil_append, List.length_cons, List.length_nil]
        repeat refine And.intro (by decide) ?_
        refine ⟨8, rfl, by decide, by decide, fun k k0 k1 => ?_⟩
        walk_at "rd"
        refine optD_all VOk ?_ k0 k1 h
        intro d hd
        simp only [List.mem_cons, List.not_mem_nil, or_false] at hd
        rcases hd with rfl | rfl | rfl | rfl | rfl | rfl | rfl | rfl
        all_goals first | trivial | (refine vok trivial (by first | exact shp_C | exact shp_R | exact shp_none) ?_)
        all_goals (intro d hd; simp only [List.mem_cons, List.not_mem_nil, or_false] at hd)
        all_goals first | contradiction | (rcases hd with rfl | rfl | rfl) | (rcases hd with rfl | rfl) | subst hd
        all_goals first | exact hti | exact hpi | exact Nat.zero_le _
      clear hR R
      refine dSeq_cut fun R hR => ?_
      walk_at "rd"
      refine hR _ _ ?_
      clear hR R
      refine dSeq_cut fun R hR => ?_
      walk_at "rd"
      simp only [c3a, c3b, c3c, c3d, c3e]
      refine ite2 (fun _ => ?y1) fun _ => ite2 (fun _ => ?y2) fun hemp => hR _ _ ?y3
      case y1 | y2 =>
        refine ⟨_, rfl, by omega, by omega, fun a a0 a1 => ?_⟩
        walk_at "rd"
        have l1 := cutD_len (ns.map .int) none (some a)
        have l2 := cutD_len (ns.map .int) (some (a + 1)) none
        have l3 := cutD_len (ns.map .int) (some 1) none
        rw [List.length_map] at l1 l2 l3
        try simp only [List.length_append, List.length_cons, List.length_nil, List.append_assoc, List.cons_append, List.nil_append]
        repeat refine And.intro (by omega) ?_
        refine ⟨8, rfl, by decide, by decide, fun j j0 j1 => ?_⟩
        walk_at "rd"
        refine optD_all lenOk (opts_ok (by rw [List.length_map]; exact hl) (by omega) (by omega) (by omega)) j0 j1 fun x hx => ?_
        try simp only [List.length_append, List.length_cons, List.length_nil, List.append_assoc, List.cons_append, List.nil_append]
        repeat refine And.intro (by omega) ?_
        refine h _ (vok trivial shp_R ?_)
        intro d hd
        simp only [List.mem_cons, List.not_mem_nil, or_false] at hd
        rcases hd with rfl | rfl <;> assumption
      clear hR R
      have hne : 0 < ps.length := by
        cases ps with
        | nil => simp at hemp
        | cons a r => simp
      have hpl : (ps.map prD).length = ps.length := List.length_map ..
      refine dSeq_cut fun R hR => ?_
      walk_at "rd"
      refine ⟨_, rfl, by omega, by omega, fun a a0 a1 => hR _ _ ?_⟩
      clear hR R
      refine dSeq_cut fun R hR => ?_
      walk_at "rd"
      have hpl20 : ∀ lo hi, (cutD (ps.map prD) lo hi).length ≤ 20 := fun lo hi => Nat.le_trans (cutD_len _ _ _) (by rw [hpl]; exact hp)
      obtain ⟨A, eA, lA⟩ : ∃ A, A = cutD (ps.map prD) (some 1) none ∧ A.length ≤ 20 := ⟨_, rfl, hpl20 _ _⟩
      obtain ⟨B, eB, lB⟩ : ∃ A, A = cutD (ps.map prD) none (some (-1)) ∧ A.length ≤ 20 := ⟨_, rfl, hpl20 _ _⟩
      obtain ⟨C, eC, lC⟩ : ∃ A, A = cutD (ps.map prD) (some (-1)) none ∧ A.length ≤ 20 := ⟨_, rfl, hpl20 _ _⟩
      obtain ⟨A2, eA2, lA2⟩ : ∃ A, A = cutD (ps.map prD) none (some a) ∧ A.length ≤ 20 := ⟨_, rfl, hpl20 _ _⟩
      obtain ⟨B2, eB2, lB2⟩ : ∃ A, A = cutD (ps.map prD) (some (a + 1)) none ∧ A.length ≤ 20 := ⟨_, rfl, hpl20 _ _⟩
      rw [← eA, ← eB, ← eC]
      clear eA eB eC
      repeat refine And.intro (by omega) ?_
      refine hR _ _ ?_
      clear hR R
      have hop := opts2_ok (ns := ps.map prD) (A := A) (B := B) (C := C) (by omega) lA lB lC
      generalize hopl : [PyData.tuple A, .tuple B, .tuple (ps.map prD ++ C), .tuple (ps.map prD).reverse, .list (ps.map prD), .none] = op at hop ⊢
      have hopn : op.length = 6 := by rw [← hopl]; rfl
      clear hopl
      refine dSeq_cut fun R hR => dIf_cut fun T U hT hU => ?_
      walk_at "rd"
      refine ⟨shp_R, shp_R, ?_⟩
      rw [eqv_str]
      refine itT (by decide +kernel) (hT ?_)
      clear hT hU T U
      refine dSeq_cut fun R1 hR1 => ?_
      walk_at "rd"
      refine optD_all (fun d => ∃ x y : Int, d = .tuple [.int x, .int y]) (fun d hd => ?_) a0 (by rw [hpl]; exact a1) ?_
      · obtain ⟨x, _, rfl⟩ := List.mem_map.mp hd
        exact ⟨x.1, x.2, rfl⟩
      rintro d ⟨x, y, rfl⟩
      walk_at "rd"
      refine hR1 _ _ ?_
      clear hR1 R1
      refine dSeq_cut fun R1 hR1 => ?_
      walk_at "rd"
      repeat refine And.intro (by decide) ?_
      refine hR1 _ _ ?_
      clear hR1 R1
      generalize hodl : [PyData.tuple [.int y, .int x], .tuple [.int (x + 1), .int (y - 1)], .tuple [.int (x - 1), .int (y + 1)], .tuple [.int x, .int (y + 1)], .list [.int x, .int y], .tuple [.int x], .none, .tuple [.bool true, .int y], .tuple [.int x, .int x]] = od
      have hodn : od.length = 9 := by rw [← hodl]; rfl
      clear hodl
      walk_at "rd"
      rw [← eA2, ← eB2]
      clear eA2 eB2
      refine ⟨9, rfl, by decide, by decide, fun j j0 j1 => ?_⟩
      walk_at "rd"
      refine optD_all (fun _ => True) (fun _ _ => trivial) j0 (by rw [hodn]; exact j1) fun e _ => ?_
      obtain ⟨z, ez, lz⟩ : ∃ z, z = A2 ++ [e] ++ B2 ∧ z.length ≤ 1000 := ⟨_, rfl, by simp only [List.length_append, List.length_cons, List.length_nil]; omega⟩
      have hlen6 : (List.replicate (Int.toNat 6) [PyData.tuple z]).flatten.length = 6 := rfl
      have hall : ∀ d ∈ op ++ (List.replicate (Int.toNat 6) [PyData.tuple z]).flatten, lenOk d := fun d hd => by
        rcases List.mem_append.mp hd with hd | hd
        · exact hop d hd
        · obtain ⟨l, hl1, hl2⟩ := List.mem_flatten.mp hd
          rw [List.eq_of_mem_replicate hl1] at hl2
          rw [List.mem_singleton.mp hl2]
          exact lz
      rw [← ez]
      generalize (List.replicate (Int.toNat 6) [PyData.tuple z]).flatten = six at hlen6 hall
      have l0 : (A2 ++ [e]).length + B2.length ≤ 100000 := by simp only [List.length_append, List.length_cons, List.length_nil]; omega
      refine ⟨by decide, by omega, l0, by decide, by decide, by omega, hR _ _ ?_⟩
      clear hR R
      have hoptn : (op ++ six).length = 12 := by rw [List.length_append]; omega
      generalize op ++ six = opt at hall hoptn
      walk_at "rd"
      rw [hoptn]
      refine ⟨_, rfl, by decide, by decide, fun j j0 j1 => ?_⟩
      walk_at "rd"
      refine optD_all lenOk hall j0 (by rw [hoptn]; exact j1) fun x hx => ?_
      refine ⟨by decide, by show 2 + 1 ≤ 100000; decide, ?_⟩
      show q (.tuple [.str wR, tI ns, x])
      refine h _ (vok trivial shp_R ?_)
      intro d hd
      simp only [List.mem_cons, List.not_mem_nil, or_false] at hd
      rcases hd with rfl | rfl <;> assumption
end Qm


namespace Qm
open PySem PySem.Spec PyProof.Rows L2

/-! ### the mathematics: what is collated in front may be taken away -/
theorem refl_app (p a b : List Int) : refl p (a ++ b) = refl p b ++ refl p a := by simp [refl]
theorem refl_refl {p s : List Int} (hp : Pap p) (hs : Mks p s) : refl p (refl p s) = s := by
  unfold refl
  rw [← List.map_reverse, List.reverse_reverse, List.map_map]
  have e : ∀ m ∈ s, (gi p ∘ gi p) m = m := fun m hm => by
    obtain ⟨m0, m1⟩ := hs m hm
    exact hp.inv m m0 m1
  rw [List.map_congr_left e, List.map_id']
structure Gt (p w : List Int) : Prop where
  pos : 0 < w.length
  ev : w.length % 2 = 0
  rf : refl p w = w
theorem gt_of {p w : List Int} (hp : Pap p) (hs : Mks p w) (h : gatB p w = true) : Gt p w := by
  obtain ⟨h0, h2, _⟩ := gatB_iff.mp h
  refine ⟨h0, h2, ?_⟩
  have e := refl_gat hp hs h0 h2
  rw [h] at e
  exact of_decide_eq_true e
theorem gt_to {p w : List Int} (hp : Pap p) (hs : Mks p w) (h : Gt p w) : gatB p w = true := by
  rw [← refl_gat hp hs h.pos h.ev]
  exact decide_eq_true h.rf
theorem g_split {p x r : List Int} (hp : Pap p) (hs : Mks p (x ++ r)) (hx : Gt p x) (hg : Gt p (x ++ r)) (hr : 0 < r.length) (hm : ∀ k : Nat, 1 ≤ k → 2 * k < x.length → ¬ Gt p ((x ++ r).take (2 * k))) : ∃ m, r = m ++ x ∧ (m = [] ∨ Gt p m) := by
  have e1 : refl p r ++ x = x ++ r := by
    have e := hg.rf
    rw [refl_app, hx.rf] at e
    exact e
  have hsr : Mks p r := fun m hm => hs m (List.mem_append_right _ hm)
  have hl : (refl p r).length = r.length := refl_len p r
  have hgl := hg.ev
  have hxl := hx.ev
  rw [List.length_append] at hgl
  rcases List.append_eq_append_iff.mp e1 with ⟨u, h1, h2⟩ | ⟨m, h1, h2⟩
  · have hu : refl p u = u := by
      have e2 : refl p x = x := hx.rf
      rw [h1, refl_app, refl_refl hp hsr, ← h1, h2] at e2
      exact List.append_cancel_right e2
    have hul : x.length = u.length + r.length := by rw [← List.length_append, ← h2]
    by_cases hz : u = []
    · subst hz
      exact ⟨[], by rw [List.nil_append] at h2 ⊢; exact h2.symm, .inl rfl⟩
    · have hup : 0 < u.length := List.length_pos_iff.mpr hz
      refine absurd ⟨?_, ?_, ?_⟩ (hm (u.length / 2) (by omega) (by omega))
      all_goals
        have e3 : (x ++ r).take (2 * (u.length / 2)) = u := by
          rw [show 2 * (u.length / 2) = u.length by omega, h2, List.append_assoc, List.take_left']
          rfl
        rw [e3]
      · exact hup
      · omega
      · exact hu
  · refine ⟨m, h2, ?_⟩
    by_cases hz : m = []
    · exact .inl hz
    · refine .inr ⟨List.length_pos_iff.mpr hz, ?_, ?_⟩
      · rw [h2, List.length_append] at hgl
        omega
      · have e2 := h1
        rw [h2, refl_app, hx.rf] at e2
        exact List.append_cancel_left e2
inductive Col (p : List Int) : List Int → Prop
  | nil : Col p []
  | cons {g t : List Int} (a : Gt p g) (b : Col p t) : Col p (g ++ t)
theorem least {P : Nat → Prop} : ∀ (n : Nat), P n → ∃ k, k ≤ n ∧ P k ∧ ∀ j, j < k → ¬ P j := by
  intro n
  induction n using Nat.strongRecOn with
  | ind n ih =>
    intro h
    by_cases hz : ∃ j, j < n ∧ P j
    · obtain ⟨j, hj, pj⟩ := hz
      obtain ⟨k, k1, k2, k3⟩ := ih j hj pj
      exact ⟨k, by omega, k2, k3⟩
    · exact ⟨n, Nat.le_refl n, h, fun j hj pj => hz ⟨j, hj, pj⟩⟩
theorem col_first {p s : List Int} (hp : Pap p) (hs : Mks p s) (h : Col p s) (hne : 0 < s.length) : ∃ x t, s = x ++ t ∧ Gt p x ∧ (∀ k : Nat, 1 ≤ k → 2 * k < x.length → ¬ Gt p (s.take (2 * k))) ∧ Col p t := by
  cases h with
  | nil => simp at hne
  | @cons g t a b =>
    have hgev := a.ev
    have hgp := a.pos
    obtain ⟨k, k1, k2, k3⟩ := least (P := fun k => 1 ≤ k ∧ Gt p ((g ++ t).take (2 * k))) (g.length / 2) ⟨by omega, by
      rw [show 2 * (g.length / 2) = g.length by omega, List.take_left']
      · exact a
      · rfl⟩
    have hkg : 2 * k ≤ g.length := by omega
    have ex : (g ++ t).take (2 * k) = g.take (2 * k) := List.take_append_of_le_length hkg
    have hxl : (g.take (2 * k)).length = 2 * k := by rw [List.length_take]; omega
    rw [ex] at k2
    have hmin : ∀ j : Nat, 1 ≤ j → 2 * j < (g.take (2 * k)).length → ¬ Gt p ((g ++ t).take (2 * j)) := fun j j1 j2 z => k3 j (by omega) ⟨j1, z⟩
    by_cases hlt : 2 * k < g.length
    · have eg : g = g.take (2 * k) ++ g.drop (2 * k) := (List.take_append_drop _ _).symm
      have hsg : Mks p g := fun m hm => hs m (List.mem_append_left _ hm)
      obtain ⟨m, e1, e2⟩ := g_split (x := g.take (2 * k)) (r := g.drop (2 * k)) hp (by rw [← eg]; exact hsg) k2.2 (by rw [← eg]; exact a) (by rw [List.length_drop]; omega) (fun j j1 j2 => by
        rw [← eg]
        have z := hmin j j1 j2
        rw [List.take_append_of_le_length (by omega)] at z
        exact z)
      refine ⟨g.take (2 * k), m ++ (g.take (2 * k) ++ t), ?_, k2.2, hmin, ?_⟩
      · conv => lhs; rw [eg, e1]
        simp only [List.append_assoc]
      · have c1 : Col p (g.take (2 * k) ++ t) := .cons k2.2 b
        rcases e2 with rfl | e2
        · exact c1
        · exact .cons e2 c1
    · have e : g.take (2 * k) = g := List.take_of_length_le (by omega)
      rw [e] at hmin
      exact ⟨g, t, rfl, a, hmin, b⟩
theorem col_cancel {p : List Int} (hp : Pap p) : ∀ (n : Nat) (A B : List Int), A.length ≤ n → Mks p (A ++ B) → Col p A → Col p (A ++ B) → Col p B := by
  intro n
  induction n with
  | zero =>
    intro A B hA _ _ h
    have e : A = [] := List.length_eq_zero_iff.mp (by omega)
    subst e
    exact h
  | succ n ih =>
    intro A B hA hs cA cAB
    by_cases hz : A.length = 0
    · have e : A = [] := List.length_eq_zero_iff.mp hz
      subst e
      exact cAB
    · obtain ⟨x, tA, rfl, gx, mx, cA'⟩ := col_first hp (fun m hm => hs m (List.mem_append_left _ hm)) cA (by omega)
      obtain ⟨y, t, e, gy, my, ct⟩ := col_first hp hs cAB (by rw [List.length_append]; omega)
      have xp := gx.pos
      have xe := gx.ev
      have yp := gy.pos
      have ye := gy.ev
      have hxy : x.length = y.length := by
        by_cases h1 : x.length < y.length
        · refine absurd ?_ (my (x.length / 2) (by omega) (by omega))
          rw [show 2 * (x.length / 2) = x.length by omega, List.append_assoc, List.take_left' rfl]
          exact gx
        · by_cases h2 : y.length < x.length
          · refine absurd ?_ (mx (y.length / 2) (by omega) (by omega))
            have e2 : (x ++ tA).take (2 * (y.length / 2)) = y := by
              rw [show 2 * (y.length / 2) = y.length by omega]
              have e3 : (x ++ tA ++ B).take y.length = y := by rw [e, List.take_left' rfl]
              rw [List.take_append_of_le_length (by rw [List.length_append]; omega)] at e3
              exact e3
            rw [e2]
            exact gy
          · omega
      rw [List.append_assoc] at e hs
      obtain ⟨rfl, rfl⟩ := List.append_inj e hxy
      exact ih tA B (by rw [List.length_append] at hA; omega) (fun m hm => hs m (List.mem_append_right _ hm)) cA' ct
theorem col_of {p : List Int} (hp : Pap p) : ∀ (ns s : List Int), Mks p s → isC p s ns → Col p s
  | [], s, _, h => by
    have e : s = [] := List.length_eq_zero_iff.mp (isC_nil.mp h)
    subst e
    exact .nil
  | n :: r, s, hs, h => by
    obtain ⟨h1, h2, h3, h4⟩ := isC_cons.mp h
    have c := col_of hp r _ (mks_drop _ hs) h4
    have g := gt_of hp (mks_take _ hs) h3
    rw [← List.take_append_drop (2 * n).toNat s]
    exact .cons g c
theorem prt_no {p s : List Int} (hp : Pap p) (hs : Mks p s) {st k : Nat} {d : PyData} (hl : st + (2 * k + 2) ≤ s.length) (h : partsB p s (st : Int) (2 * (k : Int) + 2) d = true) : gatB p ((s.drop st).take (2 * (k + 1))) = false := by
  cases d with
  | tuple ds =>
    match ds, h with
    | [], h => simp [partsB] at h
    | [_], h => simp [partsB] at h
    | _ :: _ :: _ :: _, h => simp [partsB] at h
    | [x, y], h =>
      cases x with
      | int a =>
        cases y with
        | int b =>
          rw [parts_int] at h
          simp only [Bool.and_eq_true, decide_eq_true_eq, Bool.not_eq_true', decide_eq_false_iff_not] at h
          obtain ⟨⟨⟨h1, h2⟩, h3⟩, h4⟩ := h
          cases hb : gatB p ((s.drop st).take (2 * (k + 1))) with
          | false => rfl
          | true =>
            have hlen : ((s.drop st).take (2 * (k + 1))).length = 2 * (k + 1) := by
              rw [List.length_take, List.length_drop]
              omega
            obtain ⟨_, _, hg⟩ := gatB_iff.mp hb
            rw [hlen] at hg
            obtain ⟨i, rfl⟩ : ∃ i : Nat, a = (st : Int) + (i : Int) := ⟨(a - st).toNat, by omega⟩
            have e := hg i (by omega)
            have gd : ∀ j : Nat, j < 2 * (k + 1) → gi ((s.drop st).take (2 * (k + 1))) (j : Int) = gi s ((st : Int) + (j : Int)) := fun j hj => by
              rw [show (st : Int) + (j : Int) = ((st + j : Nat) : Int) by omega, gi_nat, gi_nat, List.getElem?_take_of_lt hj, List.getElem?_drop]
            rw [gd i (by omega), show ((2 * (k + 1) : Nat) : Int) - 1 - (i : Int) = ((2 * (k + 1) - 1 - i : Nat) : Int) by omega, gd _ (by omega), show (st : Int) + ((2 * (k + 1) - 1 - i : Nat) : Int) = b by omega] at e
            exact absurd e h4
        | _ => simp [partsB] at h
      | _ => simp [partsB] at h
  | _ => simp [partsB] at h
theorem shows_no {p s : List Int} {rs : List (List Int)} {t ps : PyData} (hp : Pap p) (hs : Mks p s) (hr : Rws p s rs) (h : showsB p s t ps = true) : rs = [] := by
  cases hf : formB t with
  | false =>
    rw [showsB_form hf] at h
    cases h
  | true =>
    obtain ⟨ns, rfl, hn⟩ := formB_ex hf
    cases ps with
    | tuple ps =>
      rw [showsB_ints hn] at h
      simp only [Bool.and_eq_true, decide_eq_true_eq] at h
      obtain ⟨⟨⟨h1, h2⟩, h3⟩, h4⟩ := h
      have hsn := sum_nn hn
      obtain ⟨st, est⟩ : ∃ st : Nat, 2 * ns.sum = (st : Int) := ⟨(2 * ns.sum).toNat, by omega⟩
      rw [est] at h1 h2 h3 h4
      rw [show ((st : Nat) : Int).toNat = st by omega] at h2
      have cA : Col p (s.take st) := col_of hp ns _ (mks_take _ hs) ⟨fun n hn' => (hn n hn').1, by rw [List.length_take]; omega, h2⟩
      cases rs with
      | nil => rfl
      | cons ms rs =>
        have cS : Col p s := col_of hp ms s hs ((hr.mem ms).mp List.mem_cons_self)
        rw [← List.take_append_drop st s] at cS
        have cB := col_cancel hp _ _ _ (Nat.le_refl _) (by rw [List.take_append_drop]; exact hs) cA cS
        have hdl : (s.drop st).length = s.length - st := List.length_drop ..
        obtain ⟨x, tB, e, gx, _, _⟩ := col_first hp (mks_drop _ hs) cB (by omega)
        have xp := gx.pos
        have xe := gx.ev
        have hxl : x.length ≤ s.length - st := by
          rw [← hdl, e, List.length_append]
          omega
        have hk : x.length / 2 - 1 < ps.length := by omega
        have hmem : PyData.tuple [.int ((x.length / 2 - 1 : Nat) : Int), ps[x.length / 2 - 1]] ∈ enumL ps := by
          have e := enumL_drop (List.getElem?_eq_getElem hk)
          exact List.mem_of_mem_drop (i := x.length / 2 - 1) (by rw [e]; exact List.mem_cons_self)
        have hpr := List.all_eq_true.mp h4 _ hmem
        have hno := prt_no (k := x.length / 2 - 1) hp hs (by omega) hpr
        rw [show 2 * (x.length / 2 - 1 + 1) = x.length by omega, e, List.take_left' rfl, gt_to hp (fun m hm => mks_drop st hs m (by rw [e]; exact List.mem_append_left _ hm)) gx] at hno
        cases hno
    | _ =>
      rw [showsB_tup rfl] at h
      cases h
theorem acc_word {p s : List Int} {rs : List (List Int)} {v : PyData} (hp : Pap p) (hs : Mks p s) (hr : Rws p s rs) (h : accB p s v = true) : ∃ w r, v = .tuple (.str w :: r) ∧ (w == wC) = !rs.isEmpty := by
  cases v with
  | tuple ds =>
    cases ds with
    | nil => exact nomatch h
    | cons x r =>
      cases x with
      | str w =>
        refine ⟨w, r, rfl, ?_⟩
        simp only [accB] at h
        by_cases hc : (w == wC) = true
        · rw [if_pos hc] at h
          rw [hc]
          match r, h with
          | [c], h =>
            have h : collB p s c = true := h
            cases hf : formB c with
            | false =>
              rw [collB_form hf] at h
              cases h
            | true =>
              obtain ⟨ns, rfl, hn⟩ := formB_ex hf
              rw [← mem_coll hr hn] at h
              have hm := of_decide_eq_true h
              cases rs with
              | nil => exact nomatch hm
              | cons a b => rfl
          | [], h => exact nomatch h
          | _ :: _ :: _, h => exact nomatch h
        · rw [if_neg hc] at h
          by_cases hc2 : (w == wR) = true
          · rw [if_pos hc2] at h
            match r, h with
            | [t, ps], h =>
              have h : showsB p s t ps = true := h
              rw [shows_no hp hs hr h]
              cases hw : (w == wC) with
              | true => exact absurd hw hc
              | false => rfl
            | [], h => exact nomatch h
            | [_], h => exact nomatch h
            | _ :: _ :: _ :: _, h => exact nomatch h
          · rw [if_neg hc2] at h
            cases h
      | _ => exact nomatch h
  | _ => exact nomatch h
end Qm


namespace Qm
open PySem PySem.Spec PyProof.Rows L2
local macro_rules | `(tactic| walk_at "rd") => `(tactic| simp only [↓dv0, ↓dv1, ↓dv2, ↓dv3, ↓dv4, ↓dv5, ↓dv6, ↓dv7, ↓dv8, ↓dv9, ↓dv10, ↓dv11, ↓dv12, ↓dv13, ↓dv14, ↓dv15, ↓boolD_b, ↓intD_i, ↓tupD_t, ↓lstD_l, ↓pairD_2, ↓truD_n, ↓truD_b, ↓truD_i, ↓truD_l, ↓truD_t, ↓rdLen_t, ↓rdLen_l, ↓rdTuple_t, ↓rdTuple_l, ↓rdList_t, ↓rdList_l, ↓rdIx_t, ↓rdIx_l, ↓rdMul_i, ↓rdMul_t, ↓rdMul_l, ↓rdAdd_i, ↓rdAdd_t, ↓rdAdd_l, ↓rdI_i, ↓rdI0_i, ↓rdIn_l, ↓rdNotIn_l, ↓rdIs_n, ↓rdSum_t, ↓intsD_map, ↓rg1_1, ↓rg2_2, ↓optD_s, ↓true_and, dRet, dDrop, dAnd, dOr, dUn, rdIsi, dC, dNotV, dChain, dBin, rdEq, rdNe, rdNeg, dTB, tAndD, tOrD, tNotD, dTru, dNil, dCons, dTup, dLst, dSl, dNoPart, dPart, dRev, dNext, dSeq, dIf, dAsg, gN, gP, dCall, dNever, dNewL, dApp, dTupO, dNewD, dGetO, dPutO, selO, noOwn, dRng, dIlst, dItup, dIenum, boolD_b, intD_i, tupD_t, lstD_l, pairD_2, truD_n, truD_b, truD_i, truD_l, truD_t, rdLen_t, rdLen_l, rdTuple_t, rdTuple_l, rdList_t, rdList_l, rdIx_t, rdIx_l, rdMul_i, rdMul_t, rdMul_l, rdAdd_i, rdAdd_t, rdAdd_l, rdI_i, rdI0_i, rdIn_l, rdNotIn_l, rdIs_n, rdSum_t, intsD_map, intsD_1, intsD_2, intsD_3, rg1_1, rg2_2, rg3_3, optD_s, atI_0, atI_1, atI_2, atI_l1, atI_l2, atI_l3, startD, List.map, List.length, List.cons_append, List.nil_append, Nat.reduceAdd, Nat.reduceSub, Nat.sub_self, List.replicate, List.append_nil, List.set, Nat.zero_add, wipeD, if_true, if_false, reduceIte, Bool.not_true, Bool.not_false, Bool.false_eq_true, List.length_map, shp_int, eqv_int, true_and, and_true, CDiv, Int.reduceLT, Int.reduceLE, Int.reducePow, Int.reduceNeg, Int.reduceMul, isIntD_int, isBoolD_int, isBoolD_bool, isIntD_bool, isTupD_tup, isStrD_str, dVar, sel])
theorem raw_vok {v : PyData} (h : Raw v) : VOk v := by
  cases h with
  | col ns hl hn =>
    refine vok trivial shp_C fun d hd => ?_
    rw [List.mem_singleton.mp hd]
    exact len_tI hl
  | rest ns ps hl hp hn hx =>
    refine vok trivial shp_R fun d hd => ?_
    simp only [List.mem_cons, List.not_mem_nil, or_false] at hd
    rcases hd with rfl | rfl
    · exact len_tI hl
    · show (ps.map prD).length ≤ 1000
      rw [List.length_map]
      omega
theorem eqv_rows (rs : List (List Int)) : PyData.eqv (.list (rs.map tI)) (.list []) = rs.isEmpty := by
  cases rs with
  | nil => simp [PyData.eqv, PyData.eqvAll]
  | cons a r => rw [List.map_cons, PyData.eqv]; simp [PyData.eqvAll]
theorem shp_nil : SeqAt.shaped (.list []) = true := shp_rows []
theorem optD_last {xs : List PyData} {Q : PyData → Prop} (P : PyData → Prop) (h : ∀ d ∈ xs, P d) (hne : xs ≠ []) (q : ∀ d, P d → Q d) : optD (atI xs (-1)) Q := by
  have hl : 0 < xs.length := List.length_pos_iff.mpr hne
  have e : atI xs (-1) = some (xs[xs.length - 1]'(by omega)) := by
    unfold atI ixN
    rw [if_neg (by decide), if_pos (by omega)]
    show xs[((-1 : Int) + xs.length).toNat]? = _
    rw [show ((-1 : Int) + (xs.length : Int)).toNat = xs.length - 1 by omega]
    exact List.getElem?_eq_getElem (by omega)
  rw [e]
  exact q _ (h _ (List.getElem_mem _))
theorem sum_le : ∀ {ns : List Int}, (∀ n ∈ ns, 0 ≤ n ∧ n ≤ 100) → 0 ≤ ns.sum ∧ ns.sum ≤ 100 * (ns.length : Int)
  | [], _ => by simp
  | n :: r, h => by
    have h1 := h n List.mem_cons_self
    have h2 := sum_le (ns := r) fun m hm => h m (List.mem_cons_of_mem _ hm)
    rw [List.sum_cons, List.length_cons]
    omega
abbrev st_law : Stmt := topS 44
abbrev N_law : List Str := ["_law_script", "_law_stream_here", "_law_paper_here", "_law_sequence_here", "_law_rows", "_law_turn", "_law_told", "_law_values", "_law_value", "_law_pick", "_law_due_here", "_law_last", "_law_more", "_law_odd", "_law_leaf", "_law_pair"]
theorem sc_law : FnScope N_law ["_law_script"] (defScope st_law) := ⟨rfl, rfl, rfl, by decide +kernel, rfl, by decide +kernel, by decide +kernel⟩
theorem law_body {g : Gm} (m_len : g.mg "len" = none) (m_range : g.mg "range" = none) (m_sum : g.mg "sum" = none) (h_law_paper : FD g 2 "_law_paper" fn_law_paper) (h_law_sequence : FD g 4 "_law_sequence" fn_law_sequence) (h_law_next : FD g 1 "_law_next" fn_law_next) (h_law_all_collations : FD g 3 "_law_all_collations" fn_law_all_collations) (h_sequence_evidence : FD g 5 "sequence_evidence" fn_sequence_evidence) (h_law_drawn : FD g 4 "_law_drawn" fn_law_drawn) (h_law_turned : FD g 2 "_law_turned" fn_law_turned) (h_law_due : FD g 5 "_law_due" fn_law_due) (h_law_equal : FD g 2 "_law_equal" fn_law_equal) (h_accepts_sequence : FD g 5 "accepts_sequence" fn_accepts_sequence) : ∃ tb, Ss ⟨g, N_law, defScope st_law, 5, true⟩ ((defBody st_law).drop 1) tb ∧ tb { nx := fun _ _ => False, rt := fun d => d = .bool true } .no [.u, .d (.dict []), .u, .u, .u, .u, .u, .u, .u, .u, .u, .u, .u, .u, .u, .u] := by
  refine ⟨_, (ss_cons (sd_asg (pd_call h_law_paper (show (2 : Nat) ≤ 5 by decide) rfl (ad_cons (pd_w (i := 1) rfl (.inl rfl)) ad_nil)) (gd_name (i := 2) rfl (.inl ⟨rfl, .inl rfl⟩)))
      (ss_cons (sd_asg (pd_call h_law_sequence (show (4 : Nat) ≤ 5 by decide) rfl (ad_cons (pd_w (i := 1) rfl (.inl rfl)) (ad_cons (pd_w (i := 2) rfl (.inl rfl)) (ad_cons (pd_ix (pd_lst (ad_cons pd_int (ad_cons pd_int (ad_cons pd_int ad_nil)))) (pd_call h_law_next (show (1 : Nat) ≤ 5 by decide) rfl (ad_cons (pd_w (i := 1) rfl (.inl rfl)) (ad_cons pd_int ad_nil))) (fun _ _ => rfl)) ad_nil)))) (gd_name (i := 3) rfl (.inl ⟨rfl, .inl rfl⟩)))
      (ss_cons (sd_asg (pd_call h_law_all_collations (show (3 : Nat) ≤ 5 by decide) rfl (ad_cons (pd_w (i := 2) rfl (.inl rfl)) (ad_cons (pd_w (i := 3) rfl (.inl rfl)) ad_nil))) (gd_name (i := 4) rfl (.inl ⟨rfl, .inl rfl⟩)))
      (ss_cons (sd_for rfl (id_range1 rfl m_range (ad_cons pd_int ad_nil)) (gd_name (i := 5) rfl (.inl ⟨rfl, .inl rfl⟩)) (ss_cons (sd_asg (pd_call h_sequence_evidence (show (5 : Nat) ≤ 5 by decide) rfl (ad_cons (pd_w (i := 2) rfl (.inl rfl)) (ad_cons (pd_w (i := 3) rfl (.inl rfl)) ad_nil))) (gd_name (i := 8) rfl (.inl ⟨rfl, .inl rfl⟩)))
      (ss_cons (sd_asg (pd_call h_law_next (show (1 : Nat) ≤ 5 by decide) rfl (ad_cons (pd_w (i := 1) rfl (.inl rfl)) (ad_cons pd_int ad_nil))) (gd_name (i := 9) rfl (.inl ⟨rfl, .inl rfl⟩)))
      (ss_cons (sd_if (Wdd.td (wd_and (td_cmp od_eq (pd_w (i := 9) rfl (.inl rfl)) pd_int (nomark _)) (wd_and1 (td_tru (pd_w (i := 4) rfl (.inl rfl)) (fun _ _ => rfl))))) (ss_one (sd_asg (pd_tup (ad_cons pd_str (ad_cons (pd_ix (pd_w (i := 4) rfl (.inl rfl)) (pd_call h_law_next (show (1 : Nat) ≤ 5 by decide) rfl (ad_cons (pd_w (i := 1) rfl (.inl rfl)) (ad_cons (pd_callB cd_len rfl m_len (by decide +kernel) (pd_w (i := 4) rfl (.inl rfl))) ad_nil))) (fun _ _ => rfl)) ad_nil))) (gd_name (i := 8) rfl (.inl ⟨rfl, .inl rfl⟩)))) ss_nil)
      (ss_cons (sd_if (td_cmp od_eq (pd_w (i := 9) rfl (.inl rfl)) pd_int (nomark _)) (ss_one (sd_asg (pd_call h_law_drawn (show (4 : Nat) ≤ 5 by decide) rfl (ad_cons (pd_w (i := 1) rfl (.inl rfl)) (ad_cons (pd_w (i := 2) rfl (.inl rfl)) (ad_cons (pd_w (i := 3) rfl (.inl rfl)) ad_nil)))) (gd_name (i := 8) rfl (.inl ⟨rfl, .inl rfl⟩)))) ss_nil)
      (ss_cons (sd_if (td_cmp od_eq (pd_call h_law_next (show (1 : Nat) ≤ 5 by decide) rfl (ad_cons (pd_w (i := 1) rfl (.inl rfl)) (ad_cons pd_int ad_nil))) pd_int (nomark _)) (ss_one (sd_asg (pd_call h_law_turned (show (2 : Nat) ≤ 5 by decide) rfl (ad_cons (pd_w (i := 1) rfl (.inl rfl)) (ad_cons (pd_w (i := 8) rfl (.inl rfl)) ad_nil))) (gd_name (i := 8) rfl (.inl ⟨rfl, .inl rfl⟩)))) ss_nil)
      (ss_cons (sd_asg (pd_call h_law_due (show (5 : Nat) ≤ 5 by decide) rfl (ad_cons (pd_w (i := 2) rfl (.inl rfl)) (ad_cons (pd_w (i := 3) rfl (.inl rfl)) (ad_cons (pd_w (i := 8) rfl (.inl rfl)) ad_nil)))) (gd_name (i := 10) rfl (.inl ⟨rfl, .inl rfl⟩)))
      (ss_one (sd_if (Wdd.td (wd_or (td_not (td_tru (pd_call h_law_equal (show (2 : Nat) ≤ 5 by decide) rfl (ad_cons (pd_call h_accepts_sequence (show (5 : Nat) ≤ 5 by decide) rfl (ad_cons (pd_w (i := 2) rfl (.inl rfl)) (ad_cons (pd_w (i := 3) rfl (.inl rfl)) (ad_cons (pd_w (i := 8) rfl (.inl rfl)) ad_nil)))) (ad_cons (pd_w (i := 10) rfl (.inl rfl)) ad_nil))) (fun _ _ => rfl))) (wd_or1 (Wdd.td (wd_and (td_tru (pd_w (i := 10) rfl (.inl rfl)) (fun _ _ => rfl)) (wd_and1 (td_cmp od_ne (pd_cmp od_eq (pd_ix (pd_w (i := 8) rfl (.inl rfl)) pd_int (fun _ _ => rfl)) pd_str (nomark _)) (pd_cmp od_ne (pd_w (i := 4) rfl (.inl rfl)) (pd_lst ad_nil) (nomark _)) (nomark _)))))))) (ss_one (sd_ret pd_bl)) ss_nil)))))))))
      (ss_cons (sd_asg (pd_call h_sequence_evidence (show (5 : Nat) ≤ 5 by decide) rfl (ad_cons (pd_w (i := 2) rfl (.inl rfl)) (ad_cons (pd_w (i := 3) rfl (.inl rfl)) ad_nil))) (gd_name (i := 6) rfl (.inl ⟨rfl, .inr rfl⟩)))
      (ss_cons (sd_if (td_cmp od_ne (pd_ix (pd_w (i := 6) rfl (.inr (.inl rfl))) pd_int (fun _ _ => rfl)) pd_str (nomark _)) (ss_one (sd_ret pd_bl)) ss_nil)
      (ss_cons (sd_setLc (i := 7) rfl rfl rfl rfl (by decide +kernel) (own := [("_law_odd", 13)]) (id_list (pd_lst (ad_cons (pd_tup (ad_cons pd_non ad_nil)) (ad_cons (pd_tup (ad_cons pd_str ad_nil)) (ad_cons (pd_tup (ad_cons (pd_lst (ad_cons pd_int ad_nil)) ad_nil)) (ad_cons (pd_bin od_add (pd_ix (pd_w (i := 6) rfl (.inr (.inl rfl))) pd_int (fun _ _ => rfl)) (pd_tup (ad_cons pd_bl ad_nil))) (ad_cons (pd_bin od_add (pd_ix (pd_w (i := 6) rfl (.inr (.inl rfl))) pd_int (fun _ _ => rfl)) (pd_tup (ad_cons pd_non ad_nil))) ad_nil))))))) (blk_ok (N := N_law) (sc := defScope st_law) (by decide +kernel)) (gd_name (i := 13) rfl (.inr rfl)) (fun _ h => h) (pd_tup (ad_cons pd_str (ad_cons (pd_w (i := 13) rfl (.inl rfl)) (ad_cons (pd_ix (pd_w (i := 6) rfl (.inr (.inl rfl))) pd_int (fun _ _ => rfl)) ad_nil)))))
      (ss_cons (sd_if (td_tru (pd_ix (pd_w (i := 6) rfl (.inr (.inl rfl))) pd_int (fun _ _ => rfl)) (fun _ _ => rfl)) (ss_cons (sd_asg (pd_ix (pd_ix (pd_w (i := 6) rfl (.inr (.inl rfl))) pd_int (fun _ _ => rfl)) (pd_neg pd_int) (fun _ _ => rfl)) (gd_name (i := 11) rfl (.inl ⟨rfl, .inr rfl⟩)))
      (ss_cons (sd_asg (pd_lst (ad_cons (pd_bin od_add (pd_w (i := 11) rfl (.inr (.inl rfl))) (pd_tup (ad_cons pd_int ad_nil))) (ad_cons (pd_tup (ad_cons (pd_ix (pd_w (i := 11) rfl (.inr (.inl rfl))) pd_int (fun _ _ => rfl)) (ad_cons pd_non ad_nil))) (ad_cons (pd_tup (ad_cons (pd_ix (pd_w (i := 11) rfl (.inr (.inl rfl))) pd_int (fun _ _ => rfl)) (ad_cons pd_str ad_nil))) (ad_cons (pd_tup (ad_cons pd_non (ad_cons (pd_ix (pd_w (i := 11) rfl (.inr (.inl rfl))) pd_int (fun _ _ => rfl)) ad_nil))) (ad_cons (pd_tup (ad_cons (pd_lst (ad_cons (pd_ix (pd_w (i := 11) rfl (.inr (.inl rfl))) pd_int (fun _ _ => rfl)) ad_nil)) (ad_cons (pd_ix (pd_w (i := 11) rfl (.inr (.inl rfl))) pd_int (fun _ _ => rfl)) ad_nil))) ad_nil)))))) (gd_name (i := 12) rfl (.inl ⟨rfl, .inl rfl⟩)))
      (ss_cons (sd_asg (pd_bin od_add (pd_w (i := 12) rfl (.inl rfl)) (pd_lc (own := [("_law_leaf", 14)]) (id_range2 rfl m_range (ad_cons (pd_bin od_add (pd_ix (pd_w (i := 11) rfl (.inr (.inl rfl))) pd_int (fun _ _ => rfl)) pd_int) (ad_cons (pd_bin od_add (pd_bin od_mul pd_int (pd_callB cd_sum rfl m_sum (by decide +kernel) (pd_ix (pd_w (i := 6) rfl (.inr (.inl rfl))) pd_int (fun _ _ => rfl)))) (pd_bin od_mul pd_int (pd_callB cd_len rfl m_len (by decide +kernel) (pd_ix (pd_w (i := 6) rfl (.inr (.inl rfl))) pd_int (fun _ _ => rfl))))) ad_nil))) (blk_ok (N := N_law) (sc := defScope st_law) (by decide +kernel)) (gd_name (i := 14) rfl (.inr rfl)) (fun _ h => h) (pd_tup (ad_cons (pd_ix (pd_w (i := 11) rfl (.inr (.inl rfl))) pd_int (fun _ _ => rfl)) (ad_cons (pd_w (i := 14) rfl (.inl rfl)) ad_nil))))) (gd_name (i := 12) rfl (.inl ⟨rfl, .inl rfl⟩)))
      (ss_one (sd_asg (pd_bin od_add (pd_w (i := 7) rfl (.inl rfl)) (pd_lc (own := [("_law_pair", 15)]) (id_list (pd_w (i := 12) rfl (.inl rfl))) (blk_ok (N := N_law) (sc := defScope st_law) (by decide +kernel)) (gd_name (i := 15) rfl (.inr rfl)) (fun _ h => h) (pd_tup (ad_cons pd_str (ad_cons (pd_ix (pd_w (i := 6) rfl (.inr (.inl rfl))) pd_int (fun _ _ => rfl)) (ad_cons (pd_bin od_add (pd_slice (pd_ix (pd_w (i := 6) rfl (.inr (.inl rfl))) pd_int (fun _ _ => rfl)) od_none (od_some (pd_neg pd_int))) (pd_tup (ad_cons (pd_w (i := 15) rfl (.inl rfl)) ad_nil))) ad_nil)))))) (gd_name (i := 7) rfl (.inl ⟨rfl, .inl rfl⟩))))))) ss_nil)
      (ss_cons (sd_for rfl (id_list (pd_w (i := 7) rfl (.inl rfl))) (gd_name (i := 8) rfl (.inl ⟨rfl, .inl rfl⟩)) (ss_one (sd_if (td_not (td_tru (pd_call h_law_equal (show (2 : Nat) ≤ 5 by decide) rfl (ad_cons (pd_call h_accepts_sequence (show (5 : Nat) ≤ 5 by decide) rfl (ad_cons (pd_w (i := 2) rfl (.inl rfl)) (ad_cons (pd_w (i := 3) rfl (.inl rfl)) (ad_cons (pd_w (i := 8) rfl (.inl rfl)) ad_nil)))) (ad_cons (pd_call h_law_due (show (5 : Nat) ≤ 5 by decide) rfl (ad_cons (pd_w (i := 2) rfl (.inl rfl)) (ad_cons (pd_w (i := 3) rfl (.inl rfl)) (ad_cons (pd_w (i := 8) rfl (.inl rfl)) ad_nil)))) ad_nil))) (fun _ _ => rfl))) (ss_one (sd_ret pd_bl)) ss_nil)))
      (ss_one (sd_ret pd_bl))))))))))), ?_⟩
  refine dSeq_cut fun R hR => ?_
  walk_at "rd"
  refine ⟨rfl, fun p hp => hR _ _ ?_⟩
  clear hR R
  refine dSeq_cut fun R hR => ?_
  walk_at "rd"
  repeat refine And.intro (by decide) ?_
  refine ⟨3, rfl, by decide, by decide, fun k k0 k1 => ?_⟩
  walk_at "rd"
  refine optD_all (fun d => ∃ n : Int, d = .int n ∧ 0 ≤ n ∧ n ≤ 16) (fun d hd => ?_) k0 k1 ?_
  · simp only [List.mem_cons, List.not_mem_nil, or_false] at hd
    rcases hd with rfl | rfl | rfl <;> exact ⟨_, rfl, by decide, by decide⟩
  rintro d ⟨n, rfl, n0, n1⟩
  refine ⟨p, n, rfl, hp, n0, n1, fun s hs hl => hR _ _ ?_⟩
  clear hR R
  have hl16 : s.length ≤ 16 := by omega
  refine dSeq_cut fun R hR => ?_
  walk_at "rd"
  refine ⟨p, s, rfl, hp, hs, hl16, fun rs hr => hR _ _ ?_⟩
  clear hR R
  have hrl : rs.length ≤ 256 := by
    have h1 := hr.len
    have h2 : 2 ^ (s.length / 2) ≤ 2 ^ 8 := Nat.pow_le_pow_right (by decide) (by omega)
    omega
  refine dSeq_cut fun R hR => ?_
  refine for_run (rangeL 0 1 6) (fun R h => ?_) (fun i ow ρ => ow = .no ∧ ∃ a b c d, ρ = [.u, .d (.dict []), .d (tI p), .d (tI s), .d (.list (rs.map tI)), a, .u, .u, b, c, d, .u, .u, .u, .u, .u]) ⟨rfl, .u, .u, .u, .u, rfl⟩ (fun i d ow ρ hd hi => ?_) (fun ow ρ hi => hR _ _ ?_)
  · walk_at "rd"
    exact h
  · obtain ⟨rfl, a, b, c, e, rfl⟩ := hi
    refine (show dSeq _ _ _ _ [.u, .d (.dict []), .d (tI p), .d (tI s), .d (.list (rs.map tI)), .d d, .u, .u, b, c, e, .u, .u, .u, .u, .u] from ?_)
    refine dSeq_cut fun R hR => ?_
    walk_at "rd"
    refine ⟨p, s, rfl, hp, hs, hl16, fun v hv => hR _ _ ?_⟩
    clear hR R
    refine dSeq_cut fun R hR => ?_
    walk_at "rd"
    refine ⟨3, rfl, by decide, by decide, fun k k0 k1 => hR _ _ ?_⟩
    clear hR R
    refine dSeq_cut fun R hR => dIf_cut fun T U hT hU => ?_
    refine (fun (join : ∀ v, Raw v → R .no [.u, .d (.dict []), .d (tI p), .d (tI s), .d (.list (rs.map tI)), .d d, .u, .u, .d v, .d (.int k), e, .u, .u, .u, .u, .u]) => ?_) (fun v hv => hR _ _ ?_)
    · walk_at "rd"
      refine ite2 (fun _ => ite2 (fun hne => hT ?_) fun _ => hU (join v hv)) fun _ => hU (join v hv)
      walk_at "rd"
      refine ⟨_, rfl, ?_, by omega, fun j j0 j1 => ?_⟩
      · cases rs with
        | nil => simp at hne
        | cons a r =>
          rw [List.length_cons]
          omega
      walk_at "rd"
      refine optD_all (fun d => ∃ ns, d = tI ns ∧ isC p s ns) (fun d hd => ?_) j0 (by rw [List.length_map]; exact j1) ?_
      · obtain ⟨ns, hns, rfl⟩ := List.mem_map.mp hd
        exact ⟨ns, rfl, (hr.mem ns).mp hns⟩
      rintro d ⟨ns, rfl, hns⟩
      have hsm := isC_small hns hl16
      exact ⟨by decide, join _ (.col ns hsm.1 hsm.2)⟩
    clear hR hT hU R T U
    refine dSeq_cut fun R hR => dIf_cut fun T U hT hU => ?_
    refine (fun (join : ∀ v, Raw v → R .no [.u, .d (.dict []), .d (tI p), .d (tI s), .d (.list (rs.map tI)), .d d, .u, .u, .d v, .d (.int k), e, .u, .u, .u, .u, .u]) => ?_) (fun v hv => hR _ _ ?_)
    · walk_at "rd"
      refine ite2 (fun _ => hT ?_) fun _ => hU (join v hv)
      walk_at "rd"
      exact ⟨p, s, rfl, hp, hs, hl16, fun v hv => join v hv⟩
    clear hR hT hU R T U
    refine dSeq_cut fun R hR => dIf_cut fun T U hT hU => ?_
    refine (fun (join : ∀ v, VOk v → R .no [.u, .d (.dict []), .d (tI p), .d (tI s), .d (.list (rs.map tI)), .d d, .u, .u, .d v, .d (.int k), e, .u, .u, .u, .u, .u]) => ?_) (fun v hv => hR _ _ ?_)
    · walk_at "rd"
      refine ⟨2, rfl, by decide, by decide, fun j _ _ => ⟨shp_int _, ite2 (fun _ => hT ?_) fun _ => hU (join v (raw_vok hv))⟩⟩
      walk_at "rd"
      exact ⟨v, rfl, hv, fun v' hv' => join v' hv'⟩
    clear hR hT hU R T U
    refine dSeq_cut fun R hR => ?_
    walk_at "rd"
    refine ⟨p, s, v, rfl, hp, hs, hl16, hv, hR _ _ ?_⟩
    clear hR R
    refine dIf_cut fun T U hT hU => ?_
    have hU' : U := hU ⟨rfl, _, _, _, _, rfl⟩
    clear hT hU
    walk_at "rd"
    refine ⟨p, s, v, rfl, hp, hs, hl16, hv, _, _, rfl, ?_⟩
    walk_at "rd"
    cases hacc : accB p s v with
    | false => exact hU'
    | true =>
      obtain ⟨w, r, rfl, hw⟩ := acc_word hp hs hr hacc
      have hsh := hv.2 _ rfl
      refine itF (by decide) (itT rfl ?_)
      walk_at "rd"
      refine ⟨hsh, shp_C, by decide, shp_rows rs, shp_nil, shp_bool _, shp_bool _, ?_⟩
      rw [eqv_bool, eqv_str, eqv_rows]
      have hw' : (w == (Str.ofString "collation")) = !rs.isEmpty := hw
      rw [hw']
      exact itF (by cases rs.isEmpty <;> decide) hU'
  · obtain ⟨rfl, a, b, c, e, rfl⟩ := hi
    clear hR R
    refine dSeq_cut fun R hR => ?_
    walk_at "rd"
    refine ⟨p, s, rfl, hp, hs, hl16, fun v hv => hR _ _ ?_⟩
    clear hR R
    cases hv with
    | col ns hl hn =>
      refine dSeq_cut fun R hR => dIf_cut fun T U hT hU => ?_
      walk_at "rd"
      refine ⟨shp_C, shp_R, ?_⟩
      rw [eqv_str]
      refine itT (by decide +kernel) (hT ?_)
      walk_at "rd"
    | rest ns ps hl hpl hn hx =>
      refine dSeq_cut fun R hR => dIf_cut fun T U hT hU => ?_
      walk_at "rd"
      refine ⟨shp_R, shp_R, ?_⟩
      rw [eqv_str]
      refine itF (by decide +kernel) (hU (hR _ _ ?_))
      clear hT hU hR T U R
      refine dSeq_cut fun R hR => ?_
      refine lc_each [.tuple [.none], .tuple [.str "1"], .tuple [.list [.int 1]], .tuple (ns.map .int ++ [.bool true]), .tuple (ns.map .int ++ [.none])] VOk (fun R h => ?_) (by show 5 ≤ 100000; decide) (fun i d hd R hR => ?_) fun xs hxl hxs => hR _ _ ?_
      · walk_at "rd"
        repeat refine And.intro (by omega) ?_
        exact h
      · have hd' := List.mem_of_getElem? hd
        walk_at "rd"
        refine ⟨by decide, hR _ (vok trivial shp_R fun z hz => ?_)⟩
        simp only [List.mem_cons, List.not_mem_nil, or_false] at hz
        rcases hz with rfl | rfl
        · simp only [List.mem_cons, List.not_mem_nil, or_false] at hd'
          rcases hd' with rfl | rfl | rfl | rfl | rfl <;> simp only [lenOk, List.length_cons, List.length_nil, List.length_append, List.length_map] <;> omega
        · show (ps.map prD).length ≤ 1000
          rw [List.length_map]
          omega
      clear hR R
      have hxl5 : xs.length = 5 := hxl
      refine (show dSeq _ _ _ _ [.u, .d (.dict []), .d (tI p), .d (tI s), .d (.list (rs.map tI)), a, .d (.tuple [.str wR, tI ns, .tuple (ps.map prD)]), .d (.list xs), b, c, e, .u, .u, .u, .u, .u] from ?_)
      refine dSeq_cut fun R hR => dIf_cut fun T U hT hU => ?_
      refine (fun (join : ∀ xs x1 x2, (∀ x ∈ xs, VOk x) → xs.length ≤ 10000 → R .no [.u, .d (.dict []), .d (tI p), .d (tI s), .d (.list (rs.map tI)), a, .d (.tuple [.str wR, tI ns, .tuple (ps.map prD)]), .d (.list xs), b, c, e, x1, x2, .u, .u, .u]) => ?_) (fun xs x1 x2 hxs hxl => hR _ _ ?_)
      · walk_at "rd"
        refine ite2 (fun hne => hT ?_) fun _ => hU (join xs _ _ hxs (by omega))
        clear hT hU hR
        refine dSeq_cut fun R1 hR1 => ?_
        walk_at "rd"
        refine optD_last (fun d => ∃ x y : Int, d = .tuple [.int x, .int y] ∧ (-100 ≤ x ∧ x ≤ 100)) (fun d hd => ?_) (fun z => ?_) ?_
        · obtain ⟨x, hxm, rfl⟩ := List.mem_map.mp hd
          exact ⟨x.1, x.2, rfl, (hx x hxm).1⟩
        · rw [z] at hne
          simp at hne
        rintro d ⟨x, y, rfl, xb⟩
        refine hR1 _ _ ?_
        clear hR1 R1
        refine dSeq_cut fun R1 hR1 => ?_
        walk_at "rd"
        repeat refine And.intro (by decide) ?_
        refine hR1 _ _ ?_
        clear hR1 R1
        generalize hM : [PyData.tuple [PyData.int x, PyData.int y, PyData.int 0], .tuple [.int x, .none], .tuple [.int x, .str (Str.ofString "1")], .tuple [.none, .int y], .tuple [.list [.int x], .int y]] = M
        have hMl : M.length = 5 := by rw [← hM]; rfl
        clear hM
        refine dSeq_cut fun R1 hR1 => ?_
        walk_at "rd"
        have hsum := sum_le hn
        have hpn : (ps.map prD).length = ps.length := List.length_map ..
        refine lc_each (rangeL (x + 1) 1 ((2 * ns.sum + 2 * (ps.length : Int)) - (x + 1)).toNat) (fun _ => True) (fun R h => ?_) (by rw [rangeL_len]; omega) (fun i d hd R hR => ?_) fun ys hyl hys => ?_
        · walk_at "rd"
          repeat refine And.intro (by omega) ?_
          exact h
        · walk_at "rd"
          exact ⟨by decide, hR _ trivial⟩
        rw [rangeL_len] at hyl
        walk_at "rd"
        refine ⟨by omega, hR1 _ _ ?_⟩
        clear hR1 R1
        have hMy : (M ++ ys).length ≤ 5000 := by rw [List.length_append]; omega
        generalize M ++ ys = My at hMy
        walk_at "rd"
        refine lc_each My VOk (fun R h => ?_) (by omega) (fun i d hd R hR => ?_) fun zs hzl hzs => ?_
        · walk_at "rd"
          exact h
        · walk_at "rd"
          have lc := cutD_len (ps.map prD) none (some (-1))
          rw [hpn] at lc
          refine ⟨by decide, by omega, by decide, hR _ (vok trivial shp_R fun z hz => ?_)⟩
          simp only [List.mem_cons, List.not_mem_nil, or_false] at hz
          rcases hz with rfl | rfl
          · exact len_tI hl
          · show (cutD (ps.map prD) none (some (-1)) ++ [d]).length ≤ 1000
            rw [List.length_append, List.length_cons, List.length_nil]
            omega
        walk_at "rd"
        refine ⟨by omega, join _ _ _ (fun z hz => (List.mem_append.mp hz).elim (hxs z) (hzs z)) (by rw [List.length_append]; omega)⟩
      clear hT hU hR T U R
      refine dSeq_cut fun R hR => ?_
      refine for_run xs (fun R h => ?_) (fun i ow ρ => ow = .no ∧ ∃ y, ρ = [.u, .d (.dict []), .d (tI p), .d (tI s), .d (.list (rs.map tI)), a, .d (.tuple [.str wR, tI ns, .tuple (ps.map prD)]), .d (.list xs), y, c, e, x1, x2, .u, .u, .u]) ⟨rfl, _, rfl⟩ (fun i d ow ρ hd hi => ?_) (fun ow ρ hi => hR _ _ ?_)
      · walk_at "rd"
        exact h
      · obtain ⟨rfl, y, rfl⟩ := hi
        clear hR
        have hv := hxs d (List.mem_of_getElem? hd)
        refine (show dIf _ _ _ _ _ [.u, .d (.dict []), .d (tI p), .d (tI s), .d (.list (rs.map tI)), a, .d (.tuple [.str wR, tI ns, .tuple (ps.map prD)]), .d (.list xs), .d d, c, e, x1, x2, .u, .u, .u] from ?_)
        refine dIf_cut fun T U hT hU => ?_
        have hU' : U := hU ⟨rfl, _, rfl⟩
        clear hT hU
        walk_at "rd"
        refine ⟨p, s, d, rfl, hp, hs, hl16, hv, p, s, d, rfl, hp, hs, hl16, hv, _, _, rfl, ?_⟩
        walk_at "rd"
        cases hacc : accB p s d with
        | false => exact hU'
        | true => exact hU'
      · obtain ⟨rfl, y, rfl⟩ := hi
        walk_at "rd"
end Qm


namespace Qm
open PySem PySem.Spec PyProof.Rows L2
local macro_rules | `(tactic| walk_at "rd") => `(tactic| simp only [↓dv0, ↓dv1, ↓dv2, ↓dv3, ↓dv4, ↓dv5, ↓dv6, ↓dv7, ↓dv8, ↓dv9, ↓dv10, ↓dv11, ↓dv12, ↓dv13, ↓dv14, ↓dv15, ↓boolD_b, ↓intD_i, ↓tupD_t, ↓lstD_l, ↓pairD_2, ↓truD_n, ↓truD_b, ↓truD_i, ↓truD_l, ↓truD_t, ↓rdLen_t, ↓rdLen_l, ↓rdTuple_t, ↓rdTuple_l, ↓rdList_t, ↓rdList_l, ↓rdIx_t, ↓rdIx_l, ↓rdMul_i, ↓rdMul_t, ↓rdMul_l, ↓rdAdd_i, ↓rdAdd_t, ↓rdAdd_l, ↓rdI_i, ↓rdI0_i, ↓rdIn_l, ↓rdNotIn_l, ↓rdIs_n, ↓rdSum_t, ↓intsD_map, ↓rg1_1, ↓rg2_2, ↓optD_s, ↓true_and, dRet, dDrop, dAnd, dOr, dUn, rdIsi, dC, dNotV, dChain, dBin, rdEq, rdNe, rdNeg, dTB, tAndD, tOrD, tNotD, dTru, dNil, dCons, dTup, dLst, dSl, dNoPart, dPart, dRev, dNext, dSeq, dIf, dAsg, gN, gP, dCall, dNever, dNewL, dApp, dTupO, dNewD, dGetO, dPutO, selO, noOwn, dRng, dIlst, dItup, dIenum, boolD_b, intD_i, tupD_t, lstD_l, pairD_2, truD_n, truD_b, truD_i, truD_l, truD_t, rdLen_t, rdLen_l, rdTuple_t, rdTuple_l, rdList_t, rdList_l, rdIx_t, rdIx_l, rdMul_i, rdMul_t, rdMul_l, rdAdd_i, rdAdd_t, rdAdd_l, rdI_i, rdI0_i, rdIn_l, rdNotIn_l, rdIs_n, rdSum_t, intsD_map, intsD_1, intsD_2, intsD_3, rg1_1, rg2_2, rg3_3, optD_s, atI_0, atI_1, atI_2, atI_l1, atI_l2, atI_l3, startD, List.map, List.length, List.cons_append, List.nil_append, Nat.reduceAdd, Nat.reduceSub, Nat.sub_self, List.replicate, List.append_nil, List.set, Nat.zero_add, wipeD, if_true, if_false, reduceIte, Bool.not_true, Bool.not_false, Bool.false_eq_true, List.length_map, shp_int, eqv_int, true_and, and_true, CDiv, Int.reduceLT, Int.reduceLE, Int.reducePow, Int.reduceNeg, Int.reduceMul, isIntD_int, isBoolD_int, isBoolD_bool, isIntD_bool, isTupD_tup, isStrD_str, dVar, sel])
/-! ### _law_stream, law -/
def spStream (K : PySem.W.Frag) : Sp := fun vs H Q _ => ∃ (a : Addr) (ns : List Int), vs = [.ref a] ∧ SqL K H a (ns.map V.int) ∧ ns.length ≤ 63 ∧ ∀ (H' : Hp) (c S : Addr), Same H H' → H c = none → H S = none → c ≠ S → H' c = some (.lst (ns.map V.int)) → H' S = some (.lst [.ref c, .int 0, .int 0]) → Q (.ref S) H'
abbrev st_law_stream : Stmt := topS 28
abbrev N_law_stream : List Str := ["_law_script"]
theorem sc_law_stream : FnScope N_law_stream ["_law_script"] (defScope st_law_stream) := ⟨rfl, rfl, rfl, by decide +kernel, rfl, by decide +kernel, by decide +kernel⟩
theorem ok_law_stream {g : Gm} {f : Addr} {fd : FuncData} {k : Nat} (F : Fun g.K "_law_stream" "_law_stream" st_law_stream f fd) (m_list : g.mg "list" = none) : FnOk g.P g.w g.K g.mg g.base CX0 (k + 1) f fd ["_law_script"] (spStream g.K) := by
  refine F.ok sc_law_stream (fun vs H Q E h => ?_) (fun cdv A outer s H vs Q E hr h => ?_)
  · obtain ⟨a, ns, rfl, _⟩ := h
    rfl
  · obtain ⟨a, ns, rfl, hS, hlen, q⟩ := h
    refine ⟨_, pss_one (ps_ret (pe_lst (pa_cons (pe_callTy call_list_of (by rfl) m_list (by decide +kernel) (pa_cons (pv 0) pa_nil)) (pa_cons pe_int (pa_cons pe_int pa_nil))))), ?_⟩
    refine ⟨.ref a, rfl, a, _, rfl, .inl hS, fun c nc => ?_⟩
    refine ⟨(by show 3 ≤ sizeLine; decide), fun S nS => ?_⟩
    have hcS : c ≠ S := fun z => by
      subst z
      rw [upd_same] at nS
      cases nS
    have nS' : H S = none := by
      rw [upd_ne hcS.symm] at nS
      exact nS
    refine q _ c S (fun b x e => ?_) nc nS' hcS ?_ upd_same
    · rw [upd_ne (ne_of_none e nS'), upd_ne (ne_of_none e nc)]
      exact e
    · rw [upd_ne hcS, upd_same]
def spLaw (K : PySem.W.Frag) : Sp := fun vs H Q _ => ∃ (a : Addr) (ns : List Int), vs = [.ref a] ∧ SqL K H a (ns.map V.int) ∧ ns.length ≤ 63 ∧ ∀ H', Q (.bl true) H'
theorem ok_law {g : Gm} {f fS : Addr} {fd fdS : FuncData} {tb : DTS} (F : Fun g.K "law" "law" st_law f fd) (GS : FnOk g.P g.w g.K g.mg g.base CX0 5 fS fdS ["_law_script"] (spStream g.K)) (kS : PySem.W.keepIn g.K (.ref fS) = true) (bS : Binds g.K fdS ["_law_script"] []) (gS : g.mg "_law_stream" = some (.ref fS))
    (body : Ss ⟨g, N_law, defScope st_law, 5, true⟩ ((defBody st_law).drop 1) tb) (hread : tb { nx := fun _ _ => False, rt := fun d => d = .bool true } .no [.u, .d (.dict []), .u, .u, .u, .u, .u, .u, .u, .u, .u, .u, .u, .u, .u, .u]) :
    FnOk g.P g.w g.K g.mg g.base CX0 6 f fd ["_law_script"] (spLaw g.K) := by
  refine F.ok sc_law (fun vs H Q E h => ?_) (fun cdv A outer s H vs Q E hr h => ?_)
  · obtain ⟨a, ns, rfl, _⟩ := h
    rfl
  · obtain ⟨a, ns, rfl, hS, hlen, q⟩ := h
    have hX : CxS ⟨g, N_law, defScope st_law, 5, true⟩ (cxOf CX0 g.P g.w g.K g.mg g.base N_law "law" (defScope st_law) f cdv A outer s H E).nox :=
      ⟨rfl, rfl, rfl, rfl, rfl, rfl, sc_law.nd, rfl, rfl, hr, fun _ _ => rfl, fun _ => PassesOwn.never⟩
    refine ⟨_, pss_cons (ps_set (i := 1) sc_law.nd rfl (.inl rfl) (pe_call GS hr (by rfl) gS kS bS .nil pass0 (pa_cons (pv 0) pa_nil))) wss, ?_⟩
    refine ⟨.ref a, rfl, a, ns, rfl, hS, hlen, fun H1 c S sm nc nS ncS ec eS => ?_⟩
    refine body.run _ _ _ hread _ hX S (upd (fun _ => none) c (.lst (ns.map V.int))) (upd (fun _ => none) c (.lst (ns.map V.int))) H1 0 _ (upd (fun _ => none) c (.lst (ns.map V.int))) H1 _ ⟨Same.refl _, Gr.refl S _ _, trivial, ⟨fun b x e => ?_, ?_, c, ns, 0, 0, upd_same, hlen, eS, by decide, by decide⟩, trivial, ?_⟩ ⟨fun _ _ _ _ _ _ _ h => False.elim h, fun d v G1 H1 g1 w1 r1 h1 => ?_, fun _ _ _ _ _ _ _ h => False.elim h, fun _ _ _ _ _ _ _ h => False.elim h⟩
    · by_cases hb : b = c
      · subst hb
        rw [upd_same] at e
        rw [← e]
        exact ec
      · rw [upd_ne hb] at e
        cases e
    · rw [upd_ne ncS.symm]
    · refine ⟨rfl, fun i x e => ?_⟩
      match i, e with
      | 0, e => cases e; exact ⟨_, rfl, trivial⟩
      | 1, e => cases e; exact ⟨_, rfl, _, rfl, .hnd⟩
      | i + 2, e =>
        have hi : i < 14 := by
          have h16 : i + 2 < 16 := (List.getElem?_eq_some_iff.mp e).1
          omega
        have hx : x = .u := by
          have h14 : ([Sl.u, .d (.dict []), .u, .u, .u, .u, .u, .u, .u, .u, .u, .u, .u, .u, .u, .u] : Rho)[i + 2]? = (List.replicate 14 Sl.u)[i]? := rfl
          rw [h14, List.getElem?_replicate, if_pos hi] at e
          exact (Option.some.inj e).symm
        subst hx
        refine ⟨none, ?_, trivial⟩
        show (List.replicate 14 (none : Option V))[i]? = _
        rw [List.getElem?_replicate, if_pos hi]
    · subst h1
      cases r1
      exact q _
end Qm


namespace Qm
open PySem PySem.Spec PyProof.Rows L2
/-! ### what the top has written -/
theorem all_mk {l : PySem.W.OpenLaw} {w : World} {K : PySem.W.Frag} {h : Heap} {mg : Str → Option Value} {fa : Addr} (X : K.In h) (G : h.Ns mainGlobals mg) (hfa : mg "law" = some (.ref fa))
    {f0 : Addr} {od0 an0 : Option Addr} {sl0 : Array (Option Value)} {oc0 kV0 dc0 pm0 cd0 ct0 : Value}
    {f1 : Addr} {od1 an1 : Option Addr} {sl1 : Array (Option Value)} {oc1 kV1 dc1 pm1 cd1 ct1 : Value}
    {f2 : Addr} {od2 an2 : Option Addr} {sl2 : Array (Option Value)} {oc2 kV2 dc2 pm2 cd2 ct2 : Value}
    {f3 : Addr} {od3 an3 : Option Addr} {sl3 : Array (Option Value)} {oc3 kV3 dc3 pm3 cd3 ct3 : Value}
    {f4 : Addr} {od4 an4 : Option Addr} {sl4 : Array (Option Value)} {oc4 kV4 dc4 pm4 cd4 ct4 : Value}
    {f5 : Addr} {od5 an5 : Option Addr} {sl5 : Array (Option Value)} {oc5 kV5 dc5 pm5 cd5 ct5 : Value}
    {f6 : Addr} {od6 an6 : Option Addr} {sl6 : Array (Option Value)} {oc6 kV6 dc6 pm6 cd6 ct6 : Value}
    {f7 : Addr} {od7 an7 : Option Addr} {sl7 : Array (Option Value)} {oc7 kV7 dc7 pm7 cd7 ct7 : Value}
    {f8 : Addr} {od8 an8 : Option Addr} {sl8 : Array (Option Value)} {oc8 kV8 dc8 pm8 cd8 ct8 : Value}
    {f9 : Addr} {od9 an9 : Option Addr} {sl9 : Array (Option Value)} {oc9 kV9 dc9 pm9 cd9 ct9 : Value}
    {f10 : Addr} {od10 an10 : Option Addr} {sl10 : Array (Option Value)} {oc10 kV10 dc10 pm10 cd10 ct10 : Value}
    {f11 : Addr} {od11 an11 : Option Addr} {sl11 : Array (Option Value)} {oc11 kV11 dc11 pm11 cd11 ct11 : Value}
    {f12 : Addr} {od12 an12 : Option Addr} {sl12 : Array (Option Value)} {oc12 kV12 dc12 pm12 cd12 ct12 : Value}
    {f13 : Addr} {od13 an13 : Option Addr} {sl13 : Array (Option Value)} {oc13 kV13 dc13 pm13 cd13 ct13 : Value}
    {f14 : Addr} {od14 an14 : Option Addr} {sl14 : Array (Option Value)} {oc14 kV14 dc14 pm14 cd14 ct14 : Value}
    {f15 : Addr} {od15 an15 : Option Addr} {sl15 : Array (Option Value)} {oc15 kV15 dc15 pm15 cd15 ct15 : Value}
    {f16 : Addr} {od16 an16 : Option Addr} {sl16 : Array (Option Value)} {oc16 kV16 dc16 pm16 cd16 ct16 : Value}
    {f17 : Addr} {od17 an17 : Option Addr} {sl17 : Array (Option Value)} {oc17 kV17 dc17 pm17 cd17 ct17 : Value}
    {f18 : Addr} {od18 an18 : Option Addr} {sl18 : Array (Option Value)} {oc18 kV18 dc18 pm18 cd18 ct18 : Value}
    {f19 : Addr} {od19 an19 : Option Addr} {sl19 : Array (Option Value)} {oc19 kV19 dc19 pm19 cd19 ct19 : Value}
    {f20 : Addr} {od20 an20 : Option Addr} {sl20 : Array (Option Value)} {oc20 kV20 dc20 pm20 cd20 ct20 : Value}
    {f21 : Addr} {od21 an21 : Option Addr} {sl21 : Array (Option Value)} {oc21 kV21 dc21 pm21 cd21 ct21 : Value}
    {f22 : Addr} {od22 an22 : Option Addr} {sl22 : Array (Option Value)} {oc22 kV22 dc22 pm22 cd22 ct22 : Value}
    {f23 : Addr} {od23 an23 : Option Addr} {sl23 : Array (Option Value)} {oc23 kV23 dc23 pm23 cd23 ct23 : Value}
    {f24 : Addr} {od24 an24 : Option Addr} {sl24 : Array (Option Value)} {oc24 kV24 dc24 pm24 cd24 ct24 : Value}
    {f25 : Addr} {od25 an25 : Option Addr} {sl25 : Array (Option Value)} {oc25 kV25 dc25 pm25 cd25 ct25 : Value}
    {f26 : Addr} {od26 an26 : Option Addr} {sl26 : Array (Option Value)} {oc26 kV26 dc26 pm26 cd26 ct26 : Value}
    {f27 : Addr} {od27 an27 : Option Addr} {sl27 : Array (Option Value)} {oc27 kV27 dc27 pm27 cd27 ct27 : Value}
    {f28 : Addr} {od28 an28 : Option Addr} {sl28 : Array (Option Value)} {oc28 kV28 dc28 pm28 cd28 ct28 : Value}
    {f29 : Addr} {od29 an29 : Option Addr} {sl29 : Array (Option Value)} {oc29 kV29 dc29 pm29 cd29 ct29 : Value}
    {f30 : Addr} {od30 an30 : Option Addr} {sl30 : Array (Option Value)} {oc30 kV30 dc30 pm30 cd30 ct30 : Value}
    {f31 : Addr} {od31 an31 : Option Addr} {sl31 : Array (Option Value)} {oc31 kV31 dc31 pm31 cd31 ct31 : Value}
    {f32 : Addr} {od32 an32 : Option Addr} {sl32 : Array (Option Value)} {oc32 kV32 dc32 pm32 cd32 ct32 : Value}
    {t_MOST_MARKS : Tok}
    {t_MOST_LEAVES : Tok}
    {t_MOST_SHEETS : Tok}
    (a0 : PySem.W.nsIn K mainGlobals "is_whole" = some (some (.ref f0)))
    (l0 : K.lookup f0 = some ⟨oc0, od0, .func (PySem.W.fnOf "is_whole" "is_whole" (defArgs st_is_whole) (defBody st_is_whole) (defScope st_is_whole) .none kV0 dc0 pm0 an0 cd0 ct0), sl0⟩)
    (c0 : PySem.W.codeIn K cd0 "is_whole" = true) (k0 : PySem.W.keepIn K (.ref f0) = true)
    (a1 : PySem.W.nsIn K mainGlobals "is_paper" = some (some (.ref f1)))
    (l1 : K.lookup f1 = some ⟨oc1, od1, .func (PySem.W.fnOf "is_paper" "is_paper" (defArgs st_is_paper) (defBody st_is_paper) (defScope st_is_paper) .none kV1 dc1 pm1 an1 cd1 ct1), sl1⟩)
    (c1 : PySem.W.codeIn K cd1 "is_paper" = true) (k1 : PySem.W.keepIn K (.ref f1) = true)
    (a2 : PySem.W.nsIn K mainGlobals "are_marks" = some (some (.ref f2)))
    (l2 : K.lookup f2 = some ⟨oc2, od2, .func (PySem.W.fnOf "are_marks" "are_marks" (defArgs st_are_marks) (defBody st_are_marks) (defScope st_are_marks) .none kV2 dc2 pm2 an2 cd2 ct2), sl2⟩)
    (c2 : PySem.W.codeIn K cd2 "are_marks" = true) (k2 : PySem.W.keepIn K (.ref f2) = true)
    (a3 : PySem.W.nsIn K mainGlobals "is_sequence" = some (some (.ref f3)))
    (l3 : K.lookup f3 = some ⟨oc3, od3, .func (PySem.W.fnOf "is_sequence" "is_sequence" (defArgs st_is_sequence) (defBody st_is_sequence) (defScope st_is_sequence) .none kV3 dc3 pm3 an3 cd3 ct3), sl3⟩)
    (c3 : PySem.W.codeIn K cd3 "is_sequence" = true) (k3 : PySem.W.keepIn K (.ref f3) = true)
    (a4 : PySem.W.nsIn K mainGlobals "check_paper" = some (some (.ref f4)))
    (l4 : K.lookup f4 = some ⟨oc4, od4, .func (PySem.W.fnOf "check_paper" "check_paper" (defArgs st_check_paper) (defBody st_check_paper) (defScope st_check_paper) .none kV4 dc4 pm4 an4 cd4 ct4), sl4⟩)
    (c4 : PySem.W.codeIn K cd4 "check_paper" = true) (k4 : PySem.W.keepIn K (.ref f4) = true)
    (a5 : PySem.W.nsIn K mainGlobals "check_sequence" = some (some (.ref f5)))
    (l5 : K.lookup f5 = some ⟨oc5, od5, .func (PySem.W.fnOf "check_sequence" "check_sequence" (defArgs st_check_sequence) (defBody st_check_sequence) (defScope st_check_sequence) .none kV5 dc5 pm5 an5 cd5 ct5), sl5⟩)
    (c5 : PySem.W.codeIn K cd5 "check_sequence" = true) (k5 : PySem.W.keepIn K (.ref f5) = true)
    (a6 : PySem.W.nsIn K mainGlobals "conflict_of" = some (some (.ref f6)))
    (l6 : K.lookup f6 = some ⟨oc6, od6, .func (PySem.W.fnOf "conflict_of" "conflict_of" (defArgs st_conflict_of) (defBody st_conflict_of) (defScope st_conflict_of) .none kV6 dc6 pm6 an6 cd6 ct6), sl6⟩)
    (c6 : PySem.W.codeIn K cd6 "conflict_of" = true) (k6 : PySem.W.keepIn K (.ref f6) = true)
    (a7 : PySem.W.nsIn K mainGlobals "is_gathering_of" = some (some (.ref f7)))
    (l7 : K.lookup f7 = some ⟨oc7, od7, .func (PySem.W.fnOf "is_gathering_of" "is_gathering_of" (defArgs st_is_gathering_of) (defBody st_is_gathering_of) (defScope st_is_gathering_of) .none kV7 dc7 pm7 an7 cd7 ct7), sl7⟩)
    (c7 : PySem.W.codeIn K cd7 "is_gathering_of" = true) (k7 : PySem.W.keepIn K (.ref f7) = true)
    (a8 : PySem.W.nsIn K mainGlobals "shortest_at" = some (some (.ref f8)))
    (l8 : K.lookup f8 = some ⟨oc8, od8, .func (PySem.W.fnOf "shortest_at" "shortest_at" (defArgs st_shortest_at) (defBody st_shortest_at) (defScope st_shortest_at) .none kV8 dc8 pm8 an8 cd8 ct8), sl8⟩)
    (c8 : PySem.W.codeIn K cd8 "shortest_at" = true) (k8 : PySem.W.keepIn K (.ref f8) = true)
    (a9 : PySem.W.nsIn K mainGlobals "split_of" = some (some (.ref f9)))
    (l9 : K.lookup f9 = some ⟨oc9, od9, .func (PySem.W.fnOf "split_of" "split_of" (defArgs st_split_of) (defBody st_split_of) (defScope st_split_of) .none kV9 dc9 pm9 an9 cd9 ct9), sl9⟩)
    (c9 : PySem.W.codeIn K cd9 "split_of" = true) (k9 : PySem.W.keepIn K (.ref f9) = true)
    (a10 : PySem.W.nsIn K mainGlobals "is_collation_form" = some (some (.ref f10)))
    (l10 : K.lookup f10 = some ⟨oc10, od10, .func (PySem.W.fnOf "is_collation_form" "is_collation_form" (defArgs st_is_collation_form) (defBody st_is_collation_form) (defScope st_is_collation_form) .none kV10 dc10 pm10 an10 cd10 ct10), sl10⟩)
    (c10 : PySem.W.codeIn K cd10 "is_collation_form" = true) (k10 : PySem.W.keepIn K (.ref f10) = true)
    (a11 : PySem.W.nsIn K mainGlobals "is_collation_of" = some (some (.ref f11)))
    (l11 : K.lookup f11 = some ⟨oc11, od11, .func (PySem.W.fnOf "is_collation_of" "is_collation_of" (defArgs st_is_collation_of) (defBody st_is_collation_of) (defScope st_is_collation_of) .none kV11 dc11 pm11 an11 cd11 ct11), sl11⟩)
    (c11 : PySem.W.codeIn K cd11 "is_collation_of" = true) (k11 : PySem.W.keepIn K (.ref f11) = true)
    (a12 : PySem.W.nsIn K mainGlobals "sequence_evidence" = some (some (.ref f12)))
    (l12 : K.lookup f12 = some ⟨oc12, od12, .func (PySem.W.fnOf "sequence_evidence" "sequence_evidence" (defArgs st_sequence_evidence) (defBody st_sequence_evidence) (defScope st_sequence_evidence) .none kV12 dc12 pm12 an12 cd12 ct12), sl12⟩)
    (c12 : PySem.W.codeIn K cd12 "sequence_evidence" = true) (k12 : PySem.W.keepIn K (.ref f12) = true)
    (a13 : PySem.W.nsIn K mainGlobals "parts" = some (some (.ref f13)))
    (l13 : K.lookup f13 = some ⟨oc13, od13, .func (PySem.W.fnOf "parts" "parts" (defArgs st_parts) (defBody st_parts) (defScope st_parts) .none kV13 dc13 pm13 an13 cd13 ct13), sl13⟩)
    (c13 : PySem.W.codeIn K cd13 "parts" = true) (k13 : PySem.W.keepIn K (.ref f13) = true)
    (a14 : PySem.W.nsIn K mainGlobals "shows_rest" = some (some (.ref f14)))
    (l14 : K.lookup f14 = some ⟨oc14, od14, .func (PySem.W.fnOf "shows_rest" "shows_rest" (defArgs st_shows_rest) (defBody st_shows_rest) (defScope st_shows_rest) .none kV14 dc14 pm14 an14 cd14 ct14), sl14⟩)
    (c14 : PySem.W.codeIn K cd14 "shows_rest" = true) (k14 : PySem.W.keepIn K (.ref f14) = true)
    (a15 : PySem.W.nsIn K mainGlobals "accepts_sequence" = some (some (.ref f15)))
    (l15 : K.lookup f15 = some ⟨oc15, od15, .func (PySem.W.fnOf "accepts_sequence" "accepts_sequence" (defArgs st_accepts_sequence) (defBody st_accepts_sequence) (defScope st_accepts_sequence) .none kV15 dc15 pm15 an15 cd15 ct15), sl15⟩)
    (c15 : PySem.W.codeIn K cd15 "accepts_sequence" = true) (k15 : PySem.W.keepIn K (.ref f15) = true)
    (a16 : PySem.W.nsIn K mainGlobals "_law_stream" = some (some (.ref f16)))
    (l16 : K.lookup f16 = some ⟨oc16, od16, .func (PySem.W.fnOf "_law_stream" "_law_stream" (defArgs st_law_stream) (defBody st_law_stream) (defScope st_law_stream) .none kV16 dc16 pm16 an16 cd16 ct16), sl16⟩)
    (c16 : PySem.W.codeIn K cd16 "_law_stream" = true) (k16 : PySem.W.keepIn K (.ref f16) = true)
    (a17 : PySem.W.nsIn K mainGlobals "_law_next" = some (some (.ref f17)))
    (l17 : K.lookup f17 = some ⟨oc17, od17, .func (PySem.W.fnOf "_law_next" "_law_next" (defArgs st_law_next) (defBody st_law_next) (defScope st_law_next) .none kV17 dc17 pm17 an17 cd17 ct17), sl17⟩)
    (c17 : PySem.W.codeIn K cd17 "_law_next" = true) (k17 : PySem.W.keepIn K (.ref f17) = true)
    (a18 : PySem.W.nsIn K mainGlobals "_law_is_integer" = some (some (.ref f18)))
    (l18 : K.lookup f18 = some ⟨oc18, od18, .func (PySem.W.fnOf "_law_is_integer" "_law_is_integer" (defArgs st_law_is_integer) (defBody st_law_is_integer) (defScope st_law_is_integer) .none kV18 dc18 pm18 an18 cd18 ct18), sl18⟩)
    (c18 : PySem.W.codeIn K cd18 "_law_is_integer" = true) (k18 : PySem.W.keepIn K (.ref f18) = true)
    (a19 : PySem.W.nsIn K mainGlobals "_law_equal" = some (some (.ref f19)))
    (l19 : K.lookup f19 = some ⟨oc19, od19, .func (PySem.W.fnOf "_law_equal" "_law_equal" (defArgs st_law_equal) (defBody st_law_equal) (defScope st_law_equal) .none kV19 dc19 pm19 an19 cd19 ct19), sl19⟩)
    (c19 : PySem.W.codeIn K cd19 "_law_equal" = true) (k19 : PySem.W.keepIn K (.ref f19) = true)
    (a20 : PySem.W.nsIn K mainGlobals "_law_paper" = some (some (.ref f20)))
    (l20 : K.lookup f20 = some ⟨oc20, od20, .func (PySem.W.fnOf "_law_paper" "_law_paper" (defArgs st_law_paper) (defBody st_law_paper) (defScope st_law_paper) .none kV20 dc20 pm20 an20 cd20 ct20), sl20⟩)
    (c20 : PySem.W.codeIn K cd20 "_law_paper" = true) (k20 : PySem.W.keepIn K (.ref f20) = true)
    (a21 : PySem.W.nsIn K mainGlobals "_law_reflected" = some (some (.ref f21)))
    (l21 : K.lookup f21 = some ⟨oc21, od21, .func (PySem.W.fnOf "_law_reflected" "_law_reflected" (defArgs st_law_reflected) (defBody st_law_reflected) (defScope st_law_reflected) .none kV21 dc21 pm21 an21 cd21 ct21), sl21⟩)
    (c21 : PySem.W.codeIn K cd21 "_law_reflected" = true) (k21 : PySem.W.keepIn K (.ref f21) = true)
    (a22 : PySem.W.nsIn K mainGlobals "_law_marks" = some (some (.ref f22)))
    (l22 : K.lookup f22 = some ⟨oc22, od22, .func (PySem.W.fnOf "_law_marks" "_law_marks" (defArgs st_law_marks) (defBody st_law_marks) (defScope st_law_marks) .none kV22 dc22 pm22 an22 cd22 ct22), sl22⟩)
    (c22 : PySem.W.codeIn K cd22 "_law_marks" = true) (k22 : PySem.W.keepIn K (.ref f22) = true)
    (a23 : PySem.W.nsIn K mainGlobals "_law_book" = some (some (.ref f23)))
    (l23 : K.lookup f23 = some ⟨oc23, od23, .func (PySem.W.fnOf "_law_book" "_law_book" (defArgs st_law_book) (defBody st_law_book) (defScope st_law_book) .none kV23 dc23 pm23 an23 cd23 ct23), sl23⟩)
    (c23 : PySem.W.codeIn K cd23 "_law_book" = true) (k23 : PySem.W.keepIn K (.ref f23) = true)
    (a24 : PySem.W.nsIn K mainGlobals "_law_sequence" = some (some (.ref f24)))
    (l24 : K.lookup f24 = some ⟨oc24, od24, .func (PySem.W.fnOf "_law_sequence" "_law_sequence" (defArgs st_law_sequence) (defBody st_law_sequence) (defScope st_law_sequence) .none kV24 dc24 pm24 an24 cd24 ct24), sl24⟩)
    (c24 : PySem.W.codeIn K cd24 "_law_sequence" = true) (k24 : PySem.W.keepIn K (.ref f24) = true)
    (a25 : PySem.W.nsIn K mainGlobals "_law_is_gathering" = some (some (.ref f25)))
    (l25 : K.lookup f25 = some ⟨oc25, od25, .func (PySem.W.fnOf "_law_is_gathering" "_law_is_gathering" (defArgs st_law_is_gathering) (defBody st_law_is_gathering) (defScope st_law_is_gathering) .none kV25 dc25 pm25 an25 cd25 ct25), sl25⟩)
    (c25 : PySem.W.codeIn K cd25 "_law_is_gathering" = true) (k25 : PySem.W.keepIn K (.ref f25) = true)
    (a26 : PySem.W.nsIn K mainGlobals "_law_all_collations" = some (some (.ref f26)))
    (l26 : K.lookup f26 = some ⟨oc26, od26, .func (PySem.W.fnOf "_law_all_collations" "_law_all_collations" (defArgs st_law_all_collations) (defBody st_law_all_collations) (defScope st_law_all_collations) .none kV26 dc26 pm26 an26 cd26 ct26), sl26⟩)
    (c26 : PySem.W.codeIn K cd26 "_law_all_collations" = true) (k26 : PySem.W.keepIn K (.ref f26) = true)
    (a27 : PySem.W.nsIn K mainGlobals "_law_is_collation" = some (some (.ref f27)))
    (l27 : K.lookup f27 = some ⟨oc27, od27, .func (PySem.W.fnOf "_law_is_collation" "_law_is_collation" (defArgs st_law_is_collation) (defBody st_law_is_collation) (defScope st_law_is_collation) .none kV27 dc27 pm27 an27 cd27 ct27), sl27⟩)
    (c27 : PySem.W.codeIn K cd27 "_law_is_collation" = true) (k27 : PySem.W.keepIn K (.ref f27) = true)
    (a28 : PySem.W.nsIn K mainGlobals "_law_shows" = some (some (.ref f28)))
    (l28 : K.lookup f28 = some ⟨oc28, od28, .func (PySem.W.fnOf "_law_shows" "_law_shows" (defArgs st_law_shows) (defBody st_law_shows) (defScope st_law_shows) .none kV28 dc28 pm28 an28 cd28 ct28), sl28⟩)
    (c28 : PySem.W.codeIn K cd28 "_law_shows" = true) (k28 : PySem.W.keepIn K (.ref f28) = true)
    (a29 : PySem.W.nsIn K mainGlobals "_law_due" = some (some (.ref f29)))
    (l29 : K.lookup f29 = some ⟨oc29, od29, .func (PySem.W.fnOf "_law_due" "_law_due" (defArgs st_law_due) (defBody st_law_due) (defScope st_law_due) .none kV29 dc29 pm29 an29 cd29 ct29), sl29⟩)
    (c29 : PySem.W.codeIn K cd29 "_law_due" = true) (k29 : PySem.W.keepIn K (.ref f29) = true)
    (a30 : PySem.W.nsIn K mainGlobals "_law_drawn" = some (some (.ref f30)))
    (l30 : K.lookup f30 = some ⟨oc30, od30, .func (PySem.W.fnOf "_law_drawn" "_law_drawn" (defArgs st_law_drawn) (defBody st_law_drawn) (defScope st_law_drawn) .none kV30 dc30 pm30 an30 cd30 ct30), sl30⟩)
    (c30 : PySem.W.codeIn K cd30 "_law_drawn" = true) (k30 : PySem.W.keepIn K (.ref f30) = true)
    (a31 : PySem.W.nsIn K mainGlobals "_law_turned" = some (some (.ref f31)))
    (l31 : K.lookup f31 = some ⟨oc31, od31, .func (PySem.W.fnOf "_law_turned" "_law_turned" (defArgs st_law_turned) (defBody st_law_turned) (defScope st_law_turned) .none kV31 dc31 pm31 an31 cd31 ct31), sl31⟩)
    (c31 : PySem.W.codeIn K cd31 "_law_turned" = true) (k31 : PySem.W.keepIn K (.ref f31) = true)
    (a32 : PySem.W.nsIn K mainGlobals "law" = some (some (.ref f32)))
    (l32 : K.lookup f32 = some ⟨oc32, od32, .func (PySem.W.fnOf "law" "law" (defArgs st_law) (defBody st_law) (defScope st_law) .none kV32 dc32 pm32 an32 cd32 ct32), sl32⟩)
    (c32 : PySem.W.codeIn K cd32 "law" = true) (k32 : PySem.W.keepIn K (.ref f32) = true)
    (z_bool : PySem.W.nsIn K mainGlobals "bool" = some none)
    (z_int : PySem.W.nsIn K mainGlobals "int" = some none)
    (z_isinstance : PySem.W.nsIn K mainGlobals "isinstance" = some none)
    (z_all : PySem.W.nsIn K mainGlobals "all" = some none)
    (z_len : PySem.W.nsIn K mainGlobals "len" = some none)
    (z_range : PySem.W.nsIn K mainGlobals "range" = some none)
    (z_tuple : PySem.W.nsIn K mainGlobals "tuple" = some none)
    (z_sum : PySem.W.nsIn K mainGlobals "sum" = some none)
    (z_enumerate : PySem.W.nsIn K mainGlobals "enumerate" = some none)
    (z_str : PySem.W.nsIn K mainGlobals "str" = some none)
    (z_list : PySem.W.nsIn K mainGlobals "list" = some none)
    (z_abs : PySem.W.nsIn K mainGlobals "abs" = some none)
    (z_MOST_MARKS : PySem.W.nsIn K mainGlobals "MOST_MARKS" = some (some (.int 6 t_MOST_MARKS)))
    (z_MOST_LEAVES : PySem.W.nsIn K mainGlobals "MOST_LEAVES" = some (some (.int 16 t_MOST_LEAVES)))
    (z_MOST_SHEETS : PySem.W.nsIn K mainGlobals "MOST_SHEETS" = some (some (.int 8 t_MOST_SHEETS)))
    : ∃ fd : FuncData, (∀ (s : Shared) (v : Value), BindsTo s fd ⟨[v], []⟩ [("_law_script", v)]) ∧ ∀ base : Heap, K.In base → base.Ns mainGlobals mg → FnOk l.prog w K mg base CX0 6 fa fd ["_law_script"] (spLaw K) := by
  have e := hfa.symm.trans (PySem.W.mg_of X G a32)
  cases e
  refine ⟨PySem.W.fnOf "law" "law" (defArgs st_law) (defBody st_law) (defScope st_law) .none kV32 dc32 pm32 an32 cd32 ct32, fun s v => .of_eq rfl, fun base _ _ => ?_⟩
  have F0 := fun_mk (st := st_is_whole) l0 c0 k0
  have b0 := F0.binds (ps := ["value", "low", "high"]) fun _ _ _ _ _ _ us hl => match us, hl with | [_, _, _], _ => rfl
  have F1 := fun_mk (st := st_is_paper) l1 c1 k1
  have b1 := F1.binds (ps := ["value"]) fun _ _ _ _ _ _ us hl => match us, hl with | [_], _ => rfl
  have F2 := fun_mk (st := st_are_marks) l2 c2 k2
  have b2 := F2.binds (ps := ["paper", "value"]) fun _ _ _ _ _ _ us hl => match us, hl with | [_, _], _ => rfl
  have F3 := fun_mk (st := st_is_sequence) l3 c3 k3
  have b3 := F3.binds (ps := ["paper", "value"]) fun _ _ _ _ _ _ us hl => match us, hl with | [_, _], _ => rfl
  have F4 := fun_mk (st := st_check_paper) l4 c4 k4
  have b4 := F4.binds (ps := ["paper"]) fun _ _ _ _ _ _ us hl => match us, hl with | [_], _ => rfl
  have F5 := fun_mk (st := st_check_sequence) l5 c5 k5
  have b5 := F5.binds (ps := ["paper", "sequence"]) fun _ _ _ _ _ _ us hl => match us, hl with | [_, _], _ => rfl
  have F6 := fun_mk (st := st_conflict_of) l6 c6 k6
  have b6 := F6.binds (ps := ["paper", "sequence"]) fun _ _ _ _ _ _ us hl => match us, hl with | [_, _], _ => rfl
  have F7 := fun_mk (st := st_is_gathering_of) l7 c7 k7
  have b7 := F7.binds (ps := ["paper", "sequence"]) fun _ _ _ _ _ _ us hl => match us, hl with | [_, _], _ => rfl
  have F8 := fun_mk (st := st_shortest_at) l8 c8 k8
  have b8 := F8.binds (ps := ["paper", "sequence", "start"]) fun _ _ _ _ _ _ us hl => match us, hl with | [_, _, _], _ => rfl
  have F9 := fun_mk (st := st_split_of) l9 c9 k9
  have b9 := F9.binds (ps := ["paper", "sequence"]) fun _ _ _ _ _ _ us hl => match us, hl with | [_, _], _ => rfl
  have F10 := fun_mk (st := st_is_collation_form) l10 c10 k10
  have b10 := F10.binds (ps := ["value"]) fun _ _ _ _ _ _ us hl => match us, hl with | [_], _ => rfl
  have F11 := fun_mk (st := st_is_collation_of) l11 c11 k11
  have b11 := F11.binds (ps := ["paper", "sequence", "value"]) fun _ _ _ _ _ _ us hl => match us, hl with | [_, _, _], _ => rfl
  have F12 := fun_mk (st := st_sequence_evidence) l12 c12 k12
  have b12 := F12.binds (ps := ["paper", "sequence"]) fun _ _ _ _ _ _ us hl => match us, hl with | [_, _], _ => rfl
  have F13 := fun_mk (st := st_parts) l13 c13 k13
  have b13 := F13.binds (ps := ["paper", "sequence", "start", "many", "pair"]) fun _ _ _ _ _ _ us hl => match us, hl with | [_, _, _, _, _], _ => rfl
  have F14 := fun_mk (st := st_shows_rest) l14 c14 k14
  have b14 := F14.binds (ps := ["paper", "sequence", "told", "pairs"]) fun _ _ _ _ _ _ us hl => match us, hl with | [_, _, _, _], _ => rfl
  have F15 := fun_mk (st := st_accepts_sequence) l15 c15 k15
  have b15 := F15.binds (ps := ["paper", "sequence", "value"]) fun _ _ _ _ _ _ us hl => match us, hl with | [_, _, _], _ => rfl
  have F16 := fun_mk (st := st_law_stream) l16 c16 k16
  have b16 := F16.binds (ps := ["_law_script"]) fun _ _ _ _ _ _ us hl => match us, hl with | [_], _ => rfl
  have F17 := fun_mk (st := st_law_next) l17 c17 k17
  have b17 := F17.binds (ps := ["_law_stream_here", "_law_many"]) fun _ _ _ _ _ _ us hl => match us, hl with | [_, _], _ => rfl
  have F18 := fun_mk (st := st_law_is_integer) l18 c18 k18
  have b18 := F18.binds (ps := ["_law_actual"]) fun _ _ _ _ _ _ us hl => match us, hl with | [_], _ => rfl
  have F19 := fun_mk (st := st_law_equal) l19 c19 k19
  have b19 := F19.binds (ps := ["_law_actual", "_law_due_here"]) fun _ _ _ _ _ _ us hl => match us, hl with | [_, _], _ => rfl
  have F20 := fun_mk (st := st_law_paper) l20 c20 k20
  have b20 := F20.binds (ps := ["_law_stream_here"]) fun _ _ _ _ _ _ us hl => match us, hl with | [_], _ => rfl
  have F21 := fun_mk (st := st_law_reflected) l21 c21 k21
  have b21 := F21.binds (ps := ["_law_paper_here", "_law_sequence_here"]) fun _ _ _ _ _ _ us hl => match us, hl with | [_, _], _ => rfl
  have F22 := fun_mk (st := st_law_marks) l22 c22 k22
  have b22 := F22.binds (ps := ["_law_stream_here", "_law_paper_here", "_law_many"]) fun _ _ _ _ _ _ us hl => match us, hl with | [_, _, _], _ => rfl
  have F23 := fun_mk (st := st_law_book) l23 c23 k23
  have b23 := F23.binds (ps := ["_law_stream_here", "_law_paper_here", "_law_most"]) fun _ _ _ _ _ _ us hl => match us, hl with | [_, _, _], _ => rfl
  have F24 := fun_mk (st := st_law_sequence) l24 c24 k24
  have b24 := F24.binds (ps := ["_law_stream_here", "_law_paper_here", "_law_most"]) fun _ _ _ _ _ _ us hl => match us, hl with | [_, _, _], _ => rfl
  have F25 := fun_mk (st := st_law_is_gathering) l25 c25 k25
  have b25 := F25.binds (ps := ["_law_paper_here", "_law_sequence_here"]) fun _ _ _ _ _ _ us hl => match us, hl with | [_, _], _ => rfl
  have F26 := fun_mk (st := st_law_all_collations) l26 c26 k26
  have b26 := F26.binds (ps := ["_law_paper_here", "_law_sequence_here"]) fun _ _ _ _ _ _ us hl => match us, hl with | [_, _], _ => rfl
  have F27 := fun_mk (st := st_law_is_collation) l27 c27 k27
  have b27 := F27.binds (ps := ["_law_paper_here", "_law_sequence_here", "_law_value"]) fun _ _ _ _ _ _ us hl => match us, hl with | [_, _, _], _ => rfl
  have F28 := fun_mk (st := st_law_shows) l28 c28 k28
  have b28 := F28.binds (ps := ["_law_paper_here", "_law_sequence_here", "_law_told", "_law_pairs"]) fun _ _ _ _ _ _ us hl => match us, hl with | [_, _, _, _], _ => rfl
  have F29 := fun_mk (st := st_law_due) l29 c29 k29
  have b29 := F29.binds (ps := ["_law_paper_here", "_law_sequence_here", "_law_value"]) fun _ _ _ _ _ _ us hl => match us, hl with | [_, _, _], _ => rfl
  have F30 := fun_mk (st := st_law_drawn) l30 c30 k30
  have b30 := F30.binds (ps := ["_law_stream_here", "_law_paper_here", "_law_sequence_here"]) fun _ _ _ _ _ _ us hl => match us, hl with | [_, _, _], _ => rfl
  have F31 := fun_mk (st := st_law_turned) l31 c31 k31
  have b31 := F31.binds (ps := ["_law_stream_here", "_law_value"]) fun _ _ _ _ _ _ us hl => match us, hl with | [_, _], _ => rfl
  have F32 := fun_mk (st := st_law) l32 c32 k32
  have b32 := F32.binds (ps := ["_law_script"]) fun _ _ _ _ _ _ us hl => match us, hl with | [_], _ => rfl
  have h_is_whole := ok_is_whole (g := ⟨l.prog, w, K, mg, base⟩) F0 b0 (PySem.W.mg_of X G a0) (PySem.W.mg_none_of X G z_bool) (PySem.W.mg_none_of X G z_int) (PySem.W.mg_none_of X G z_isinstance)
  have h_is_paper := ok_is_paper (g := ⟨l.prog, w, K, mg, base⟩) F1 b1 (PySem.W.mg_of X G a1) (PySem.W.mg_none_of X G z_all) (PySem.W.mg_none_of X G z_isinstance) (PySem.W.mg_none_of X G z_len) (PySem.W.mg_none_of X G z_range) (PySem.W.mg_none_of X G z_tuple) (PySem.W.mg_of X G z_MOST_MARKS) h_is_whole
  have h_are_marks := ok_are_marks (g := ⟨l.prog, w, K, mg, base⟩) F2 b2 (PySem.W.mg_of X G a2) (PySem.W.mg_none_of X G z_all) (PySem.W.mg_none_of X G z_isinstance) (PySem.W.mg_none_of X G z_len) (PySem.W.mg_none_of X G z_tuple) h_is_whole
  have h_is_sequence := ok_is_sequence (g := ⟨l.prog, w, K, mg, base⟩) F3 b3 (PySem.W.mg_of X G a3) (PySem.W.mg_none_of X G z_len) (PySem.W.mg_of X G z_MOST_LEAVES) h_are_marks
  have h_check_paper := ok_check_paper (g := ⟨l.prog, w, K, mg, base⟩) F4 b4 (PySem.W.mg_of X G a4) h_is_paper
  have h_check_sequence := ok_check_sequence (g := ⟨l.prog, w, K, mg, base⟩) F5 b5 (PySem.W.mg_of X G a5) h_check_paper h_is_sequence
  have h_conflict_of := ok_conflict_of (g := ⟨l.prog, w, K, mg, base⟩) F6 b6 (PySem.W.mg_of X G a6) (PySem.W.mg_none_of X G z_len) (PySem.W.mg_none_of X G z_range)
  have h_is_gathering_of := ok_is_gathering_of (g := ⟨l.prog, w, K, mg, base⟩) F7 b7 (PySem.W.mg_of X G a7) h_conflict_of
  have h_shortest_at := ok_shortest_at (g := ⟨l.prog, w, K, mg, base⟩) F8 b8 (PySem.W.mg_of X G a8) (PySem.W.mg_none_of X G z_len) (PySem.W.mg_none_of X G z_range) h_is_gathering_of
  have h_split_of := ok_split_of (g := ⟨l.prog, w, K, mg, base⟩) F9 b9 (PySem.W.mg_of X G a9) (PySem.W.mg_none_of X G z_len) (PySem.W.mg_none_of X G z_tuple) h_shortest_at
  have h_is_collation_form := ok_is_collation_form (g := ⟨l.prog, w, K, mg, base⟩) F10 b10 (PySem.W.mg_of X G a10) (PySem.W.mg_none_of X G z_all) (PySem.W.mg_none_of X G z_isinstance) (PySem.W.mg_none_of X G z_tuple) (PySem.W.mg_of X G z_MOST_SHEETS) h_is_whole
  have h_is_collation_of := ok_is_collation_of (g := ⟨l.prog, w, K, mg, base⟩) F11 b11 (PySem.W.mg_of X G a11) (PySem.W.mg_none_of X G z_len) (PySem.W.mg_none_of X G z_sum) h_is_collation_form h_is_gathering_of
  have h_sequence_evidence := ok_sequence_evidence (g := ⟨l.prog, w, K, mg, base⟩) F12 b12 (PySem.W.mg_of X G a12) (PySem.W.mg_none_of X G z_len) (PySem.W.mg_none_of X G z_range) (PySem.W.mg_none_of X G z_tuple) h_check_sequence h_split_of h_conflict_of
  have h_parts := ok_parts (g := ⟨l.prog, w, K, mg, base⟩) F13 b13 (PySem.W.mg_of X G a13) (PySem.W.mg_none_of X G z_all) (PySem.W.mg_none_of X G z_isinstance) (PySem.W.mg_none_of X G z_len) (PySem.W.mg_none_of X G z_tuple) h_is_whole
  have h_shows_rest := ok_shows_rest (g := ⟨l.prog, w, K, mg, base⟩) F14 b14 (PySem.W.mg_of X G a14) (PySem.W.mg_none_of X G z_all) (PySem.W.mg_none_of X G z_enumerate) (PySem.W.mg_none_of X G z_isinstance) (PySem.W.mg_none_of X G z_len) (PySem.W.mg_none_of X G z_sum) (PySem.W.mg_none_of X G z_tuple) h_is_collation_form h_is_collation_of h_parts
  have h_accepts_sequence := ok_accepts_sequence (g := ⟨l.prog, w, K, mg, base⟩) F15 b15 (PySem.W.mg_of X G a15) (PySem.W.mg_none_of X G z_isinstance) (PySem.W.mg_none_of X G z_len) (PySem.W.mg_none_of X G z_str) (PySem.W.mg_none_of X G z_tuple) h_check_sequence h_is_collation_of h_shows_rest
  have h_law_next := ok_law_next (g := ⟨l.prog, w, K, mg, base⟩) F17 b17 (PySem.W.mg_of X G a17) (PySem.W.mg_none_of X G z_int) (PySem.W.mg_none_of X G z_len) (PySem.W.mg_none_of X G z_abs)
  have h_law_is_integer := ok_law_is_integer (g := ⟨l.prog, w, K, mg, base⟩) F18 b18 (PySem.W.mg_of X G a18) (PySem.W.mg_none_of X G z_bool) (PySem.W.mg_none_of X G z_int) (PySem.W.mg_none_of X G z_isinstance)
  have h_law_equal := ok_law_equal (g := ⟨l.prog, w, K, mg, base⟩) F19 b19 (PySem.W.mg_of X G a19) (PySem.W.mg_none_of X G z_bool) (PySem.W.mg_none_of X G z_isinstance)
  have h_law_paper := ok_law_paper (g := ⟨l.prog, w, K, mg, base⟩) F20 b20 (PySem.W.mg_of X G a20) h_law_next
  have h_law_reflected := ok_law_reflected (g := ⟨l.prog, w, K, mg, base⟩) F21 b21 (PySem.W.mg_of X G a21) (PySem.W.mg_none_of X G z_tuple)
  have h_law_marks := ok_law_marks (g := ⟨l.prog, w, K, mg, base⟩) F22 b22 (PySem.W.mg_of X G a22) (PySem.W.mg_none_of X G z_len) (PySem.W.mg_none_of X G z_range) (PySem.W.mg_none_of X G z_tuple) h_law_next
  have h_law_book := ok_law_book (g := ⟨l.prog, w, K, mg, base⟩) F23 b23 (PySem.W.mg_of X G a23) (PySem.W.mg_none_of X G z_len) (PySem.W.mg_none_of X G z_range) h_law_next h_law_marks h_law_reflected
  have h_law_sequence := ok_law_sequence (g := ⟨l.prog, w, K, mg, base⟩) F24 b24 (PySem.W.mg_of X G a24) h_law_book h_law_next h_law_marks
  have h_law_is_gathering := ok_law_is_gathering (g := ⟨l.prog, w, K, mg, base⟩) F25 b25 (PySem.W.mg_of X G a25) (PySem.W.mg_none_of X G z_len) h_law_reflected
  have h_law_all_collations := ok_law_all_collations (g := ⟨l.prog, w, K, mg, base⟩) F26 b26 (PySem.W.mg_of X G a26) (PySem.W.mg_none_of X G z_len) (PySem.W.mg_none_of X G z_range) h_law_is_gathering
  have h_law_is_collation := ok_law_is_collation (g := ⟨l.prog, w, K, mg, base⟩) F27 b27 (PySem.W.mg_of X G a27) (PySem.W.mg_none_of X G z_all) (PySem.W.mg_none_of X G z_isinstance) (PySem.W.mg_none_of X G z_tuple) h_law_is_integer h_law_all_collations
  have h_law_shows := ok_law_shows (g := ⟨l.prog, w, K, mg, base⟩) F28 b28 (PySem.W.mg_of X G a28) (PySem.W.mg_none_of X G z_all) (PySem.W.mg_none_of X G z_isinstance) (PySem.W.mg_none_of X G z_len) (PySem.W.mg_none_of X G z_range) (PySem.W.mg_none_of X G z_sum) (PySem.W.mg_none_of X G z_tuple) h_law_is_integer h_law_all_collations
  have h_law_due := ok_law_due (g := ⟨l.prog, w, K, mg, base⟩) F29 b29 (PySem.W.mg_of X G a29) (PySem.W.mg_none_of X G z_isinstance) (PySem.W.mg_none_of X G z_len) (PySem.W.mg_none_of X G z_tuple) h_law_is_collation h_law_shows
  have h_law_drawn := ok_law_drawn (g := ⟨l.prog, w, K, mg, base⟩) F30 b30 (PySem.W.mg_of X G a30) (PySem.W.mg_none_of X G z_len) (PySem.W.mg_none_of X G z_range) (PySem.W.mg_none_of X G z_tuple) h_law_next h_law_all_collations
  have h_law_turned := ok_law_turned (g := ⟨l.prog, w, K, mg, base⟩) F31 b31 (PySem.W.mg_of X G a31) (PySem.W.mg_none_of X G z_len) (PySem.W.mg_none_of X G z_list) h_law_next
  obtain ⟨tb, body, hread⟩ := law_body (g := ⟨l.prog, w, K, mg, base⟩) (PySem.W.mg_none_of X G z_len) (PySem.W.mg_none_of X G z_range) (PySem.W.mg_none_of X G z_sum) h_law_paper h_law_sequence h_law_next h_law_all_collations h_sequence_evidence h_law_drawn h_law_turned h_law_due h_law_equal h_accepts_sequence
  exact ok_law (g := ⟨l.prog, w, K, mg, base⟩) F32 (ok_law_stream F16 (PySem.W.mg_none_of X G z_list)) k16 b16 (PySem.W.mg_of X G a16) body hread
end Qm
open PySem PySem.W PyProof.Rows
set_option maxHeartbeats 0 in
theorem PySem.Challenge.cw_quiremarks_k27_whole_any_evidence_of_seq_holds : PySem.Challenge.rw_quiremarks_k27_whole_any_evidence_of_seq.Holds := by
  w_on; o_law; k_head; (case hw => w_witness2)
  k_fill
  refine L2.walk_of (l := PySem.Challenge.rw_quiremarks_k27_whole_any_evidence_of_seq) (n := 63) (k := 6) (x := "_law_script") (CX := fun _ => L2.CX0) (sp := fun w => Qm.spLaw _) rfl (by decide) rfl ⟨rfl, by decide, by decide⟩ (fun w h Y => PySem.W.kIn_of Y) ?F (fun _ _ a ns hl _ hS => ⟨a, ns, rfl, hS, hl, fun _ => rfl⟩) (fun _ _ _ _ _ h => h)
  case F =>
    intro w mg fa h KX G hmg
    refine' Qm.all_mk KX G hmg ?a0 ?l0 ?c0 ?k0 ?a1 ?l1 ?c1 ?k1 ?a2 ?l2 ?c2 ?k2 ?a3 ?l3 ?c3 ?k3 ?a4 ?l4 ?c4 ?k4 ?a5 ?l5 ?c5 ?k5 ?a6 ?l6 ?c6 ?k6 ?a7 ?l7 ?c7 ?k7 ?a8 ?l8 ?c8 ?k8 ?a9 ?l9 ?c9 ?k9 ?a10 ?l10 ?c10 ?k10 ?a11 ?l11 ?c11 ?k11 ?a12 ?l12 ?c12 ?k12 ?a13 ?l13 ?c13 ?k13 ?a14 ?l14 ?c14 ?k14 ?a15 ?l15 ?c15 ?k15 ?a16 ?l16 ?c16 ?k16 ?a17 ?l17 ?c17 ?k17 ?a18 ?l18 ?c18 ?k18 ?a19 ?l19 ?c19 ?k19 ?a20 ?l20 ?c20 ?k20 ?a21 ?l21 ?c21 ?k21 ?a22 ?l22 ?c22 ?k22 ?a23 ?l23 ?c23 ?k23 ?a24 ?l24 ?c24 ?k24 ?a25 ?l25 ?c25 ?k25 ?a26 ?l26 ?c26 ?k26 ?a27 ?l27 ?c27 ?k27 ?a28 ?l28 ?c28 ?k28 ?a29 ?l29 ?c29 ?k29 ?a30 ?l30 ?c30 ?k30 ?a31 ?l31 ?c31 ?k31 ?a32 ?l32 ?c32 ?k32 ?z_bool ?z_int ?z_isinstance ?z_all ?z_len ?z_range ?z_tuple ?z_sum ?z_enumerate ?z_str ?z_list ?z_abs ?z_MOST_MARKS ?z_MOST_LEAVES ?z_MOST_SHEETS
    (case a0 => k_is)
    (case l0 => k_is)
    (case c0 => k_is)
    (case k0 => k_is)
    (case a1 => k_is)
    (case l1 => k_is)
    (case c1 => k_is)
    (case k1 => k_is)
    (case a2 => k_is)
    (case l2 => k_is)
    (case c2 => k_is)
    (case k2 => k_is)
    (case a3 => k_is)
    (case l3 => k_is)
    (case c3 => k_is)
    (case k3 => k_is)
    (case a4 => k_is)
    (case l4 => k_is)
    (case c4 => k_is)
    (case k4 => k_is)
    (case a5 => k_is)
    (case l5 => k_is)
    (case c5 => k_is)
    (case k5 => k_is)
    (case a6 => k_is)
    (case l6 => k_is)
    (case c6 => k_is)
    (case k6 => k_is)
    (case a7 => k_is)
    (case l7 => k_is)
    (case c7 => k_is)
    (case k7 => k_is)
    (case a8 => k_is)
    (case l8 => k_is)
    (case c8 => k_is)
    (case k8 => k_is)
    (case a9 => k_is)
    (case l9 => k_is)
    (case c9 => k_is)
    (case k9 => k_is)
    (case a10 => k_is)
    (case l10 => k_is)
    (case c10 => k_is)
    (case k10 => k_is)
    (case a11 => k_is)
    (case l11 => k_is)
    (case c11 => k_is)
    (case k11 => k_is)
    (case a12 => k_is)
    (case l12 => k_is)
    (case c12 => k_is)
    (case k12 => k_is)
    (case a13 => k_is)
    (case l13 => k_is)
    (case c13 => k_is)
    (case k13 => k_is)
    (case a14 => k_is)
    (case l14 => k_is)
    (case c14 => k_is)
    (case k14 => k_is)
    (case a15 => k_is)
    (case l15 => k_is)
    (case c15 => k_is)
    (case k15 => k_is)
    (case a16 => k_is)
    (case l16 => k_is)
    (case c16 => k_is)
    (case k16 => k_is)
    (case a17 => k_is)
    (case l17 => k_is)
    (case c17 => k_is)
    (case k17 => k_is)
    (case a18 => k_is)
    (case l18 => k_is)
    (case c18 => k_is)
    (case k18 => k_is)
    (case a19 => k_is)
    (case l19 => k_is)
    (case c19 => k_is)
    (case k19 => k_is)
    (case a20 => k_is)
    (case l20 => k_is)
    (case c20 => k_is)
    (case k20 => k_is)
    (case a21 => k_is)
    (case l21 => k_is)
    (case c21 => k_is)
    (case k21 => k_is)
    (case a22 => k_is)
    (case l22 => k_is)
    (case c22 => k_is)
    (case k22 => k_is)
    (case a23 => k_is)
    (case l23 => k_is)
    (case c23 => k_is)
    (case k23 => k_is)
    (case a24 => k_is)
    (case l24 => k_is)
    (case c24 => k_is)
    (case k24 => k_is)
    (case a25 => k_is)
    (case l25 => k_is)
    (case c25 => k_is)
    (case k25 => k_is)
    (case a26 => k_is)
    (case l26 => k_is)
    (case c26 => k_is)
    (case k26 => k_is)
    (case a27 => k_is)
    (case l27 => k_is)
    (case c27 => k_is)
    (case k27 => k_is)
    (case a28 => k_is)
    (case l28 => k_is)
    (case c28 => k_is)
    (case k28 => k_is)
    (case a29 => k_is)
    (case l29 => k_is)
    (case c29 => k_is)
    (case k29 => k_is)
    (case a30 => k_is)
    (case l30 => k_is)
    (case c30 => k_is)
    (case k30 => k_is)
    (case a31 => k_is)
    (case l31 => k_is)
    (case c31 => k_is)
    (case k31 => k_is)
    (case a32 => k_is)
    (case l32 => k_is)
    (case c32 => k_is)
    (case k32 => k_is)
    (case z_bool => k_is)
    (case z_int => k_is)
    (case z_isinstance => k_is)
    (case z_all => k_is)
    (case z_len => k_is)
    (case z_range => k_is)
    (case z_tuple => k_is)
    (case z_sum => k_is)
    (case z_enumerate => k_is)
    (case z_str => k_is)
    (case z_list => k_is)
    (case z_abs => k_is)
    (case z_MOST_MARKS => k_is)
    (case z_MOST_LEAVES => k_is)
    (case z_MOST_SHEETS => k_is)

