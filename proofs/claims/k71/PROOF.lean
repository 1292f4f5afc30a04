import PyProof.Rows.All
import Wide.All
import OpenK.AllK
import Wide.FinOn
import PyProof.EqAt
import PyProof.EqKinds
import PyProof.TupleCall
import KE.KLam
import HandS.ForMost
import HandS.Conv
import HandS.Star
import HandS.TupAny
import HandS.IsInst
import HandS.Walk
import HandS.Wide
import HandS.WideBits
import HandS.Set
import HandS.SetFor
import HandS.Strs
import KE.KExcInit
import HandS.Exc
import HandS.ExcOwn
import HandS.ExcIs
import HandS.ExcField
import HandS.Ends
import HandS.HotCalls
import HandS.HeadHook4
import HandS.Defaults
import HandS.Lambda
import HandS.EndTab
import HandS.Property
import KE.KStateDown
import Lean
import HandS.Head0
import HandS.Head1
import HandS.Head2
import KE.GoesEnum
import HandS.OwnEq
import HandS.Codes
import KE.KCallOwn
import HandS.Replace
import PyProof.ListStr
import PyProof.ReprRoads
import HandS.HeadWalk
import PySem.Challenge.RW_sameunions_k71_whole_desks_led_back
set_option Elab.async false
set_option linter.all false
set_option maxRecDepth 100000
set_option maxHeartbeats 4000000
namespace K7
open PySem PySem.Spec PyProof.Rows L2

/-! ### data in the heap: lists that are tracked, tuples that can be read -/
mutual
inductive Rp (K : PySem.W.Frag) (H : Hp) : V → PyData → Prop
  | non : Rp K H .non .none
  | bl (b : Bool) : Rp K H (.bl b) (.bool b)
  | int (i : Int) : Rp K H (.int i) (.int i)
  | str (x : Str) : Rp K H (.str x) (.str x)
  | lst {a : Addr} {xs : List V} {ds : List PyData} : H a = some (.lst xs) → RpAll K H xs ds → Rp K H (.ref a) (.list ds)
  | tup {a : Addr} {xs : List V} {ds : List PyData} : SqT K H a xs → RpAll K H xs ds → Rp K H (.ref a) (.tuple ds)
  | lots {a C dx t : Addr} {xs : List V} {ds : List PyData} {l : Str} : H a = some (.ins C dx [("words", .ref t), ("letters", .str l)]) → SqT K H t xs → RpAll K H xs ds → Rp K H (.ref a) (.dict [(.int C, .tuple ds), (.none, .str l)])
inductive RpAll (K : PySem.W.Frag) (H : Hp) : List V → List PyData → Prop
  | nil : RpAll K H [] []
  | cons {v : V} {vs : List V} {d : PyData} {ds : List PyData} : Rp K H v d → RpAll K H vs ds → RpAll K H (v :: vs) (d :: ds)
end
/-- the data of an instance of Lots, its class at C -/
abbrev LD (C : Addr) (ds : List PyData) (l : Str) : PyData := .dict [(.int C, .tuple ds), (.none, .str l)]
section
variable {K : PySem.W.Frag} {H H' H1 H2 : Hp}
theorem same_t {a : Addr} {xs : List V} (e : Same H H') (h : SqT K H a xs) : SqT K H' a xs := by
  rcases h with (h | ⟨o, h⟩) | h
  · exact .inl (.inl (e _ _ h))
  · exact .inl (.inr ⟨o, e _ _ h⟩)
  · exact .inr h
theorem same_new {p : Addr} {o : HO} (h : H p = none) : Same H (upd H p o) := fun a u e => by
  rw [upd_ne (ne_of_none e h)]
  exact e
/-- an address that H does not know may change behind it -/
theorem same_mut {p : Addr} {o : HO} (e : Same H H') (h : H p = none) : Same H (upd H' p o) := fun a u ha => by
  rw [upd_ne (ne_of_none ha h)]
  exact e a u ha
theorem fresh_of {p : Addr} (e : Same H H') (h : H' p = none) : H p = none := e.free h
mutual
theorem rp_mono (e : Same H H') : ∀ (d : PyData) (v : V), Rp K H v d → Rp K H' v d
  | .none, _, h => by cases h; exact .non
  | .bool b, _, h => by cases h; exact .bl b
  | .int i, _, h => by cases h; exact .int i
  | .str x, _, h => by cases h; exact .str x
  | .list ds, _, h => by
    cases h with
    | lst ha hr => exact .lst (e _ _ ha) (rpAll_mono e ds _ hr)
  | .tuple ds, _, h => by
    cases h with
    | tup ha hr => exact .tup (same_t e ha) (rpAll_mono e ds _ hr)
  | .dict [(_, .tuple ds), _], _, h => by
    cases h with
    | lots ha hs hr => exact .lots (e _ _ ha) (same_t e hs) (rpAll_mono e ds _ hr)
  | .dict [], _, h => by cases h
  | .dict [_], _, h => by cases h
  | .dict (_ :: _ :: _ :: _), _, h => by cases h
  | .dict [(_, .none), _], _, h => by cases h
  | .dict [(_, .bool _), _], _, h => by cases h
  | .dict [(_, .int _), _], _, h => by cases h
  | .dict [(_, .str _), _], _, h => by cases h
  | .dict [(_, .list _), _], _, h => by cases h
  | .dict [(_, .dict _), _], _, h => by cases h
theorem rpAll_mono (e : Same H H') : ∀ (ds : List PyData) (vs : List V), RpAll K H vs ds → RpAll K H' vs ds
  | [], _, h => by cases h; exact .nil
  | d :: ds, _, h => by
    cases h with
    | cons h1 h2 => exact .cons (rp_mono e d _ h1) (rpAll_mono e ds _ h2)
end
theorem Rp.mono {v : V} {d : PyData} (h : Rp K H v d) (e : Same H H') : Rp K H' v d := rp_mono e d v h
theorem RpAll.mono {vs : List V} {ds : List PyData} (h : RpAll K H vs ds) (e : Same H H') : RpAll K H' vs ds := rpAll_mono e ds vs h
/-! data without instances -/
mutual
def noI : PyData → Bool
  | .list ds => noIAll ds
  | .tuple ds => noIAll ds
  | .dict _ => false
  | _ => true
def noIAll : List PyData → Bool
  | [] => true
  | d :: ds => noI d && noIAll ds
end
mutual
theorem rp_dp : ∀ (d : PyData) (v : V), noI d = true → Rp K H v d → Dp K H v d
  | .none, _, _, h => by cases h; exact .non
  | .bool b, _, _, h => by cases h; exact .bl b
  | .int i, _, _, h => by cases h; exact .int i
  | .str x, _, _, h => by cases h; exact .str x
  | .list ds, _, n, h => by
    cases h with
    | lst ha hr => exact .lst (SqL.of ha) (rpAll_dp ds _ (by simpa [noI] using n) hr)
  | .tuple ds, _, n, h => by
    cases h with
    | tup ha hr => exact .tup ha (rpAll_dp ds _ (by simpa [noI] using n) hr)
  | .dict _, _, n, _ => by simp [noI] at n
theorem rpAll_dp : ∀ (ds : List PyData) (vs : List V), noIAll ds = true → RpAll K H vs ds → DpAll K H vs ds
  | [], _, _, h => by cases h; exact .nil
  | d :: ds, _, n, h => by
    have n' : noI d = true ∧ noIAll ds = true := by simpa [noIAll] using n
    cases h with
    | cons h1 h2 => exact .cons (rp_dp d _ n'.1 h1) (rpAll_dp ds _ n'.2 h2)
end
mutual
theorem noI_lay : ∀ d : PyData, d.canLay0 = true → noI d = true
  | .none, _ => rfl
  | .bool _, _ => rfl
  | .int _, _ => rfl
  | .str _, _ => rfl
  | .list ds, h => noIAll_lay ds h
  | .tuple ds, h => noIAll_lay ds h
  | .dict _, h => by cases h
theorem noIAll_lay : ∀ ds : List PyData, PyData.canLayAll0 ds = true → noIAll ds = true
  | [], _ => rfl
  | d :: ds, h => by
    have h' : (d.canLay0 && PyData.canLayAll0 ds) = true := h
    rw [Bool.and_eq_true] at h'
    show (noI d && noIAll ds) = true
    rw [noI_lay d h'.1, noIAll_lay ds h'.2]
    rfl
end
theorem noI_of {d : PyData} (h : SeqAt.shaped d = true) : noI d = true := noI_lay d (SeqAt.canLay_of_shaped h)
theorem Rp.dp {v : V} {d : PyData} (h : Rp K H v d) (n : noI d = true) : Dp K H v d := rp_dp d v n h
/-! what data rests on -/
/-- this object bears data -/
def bears : HO → Bool
  | .lst _ => true
  | .tup _ => true
  | .frz _ _ => true
  | .ins _ _ fs => fs.length == 2
  | _ => false
mutual
theorem rp_keep (e : ∀ a o, bears o = true → H a = some o → H' a = some o) : ∀ (d : PyData) (v : V), Rp K H v d → Rp K H' v d
  | .none, _, h => by cases h; exact .non
  | .bool b, _, h => by cases h; exact .bl b
  | .int i, _, h => by cases h; exact .int i
  | .str x, _, h => by cases h; exact .str x
  | .list ds, _, h => by
    cases h with
    | lst ha hr => exact .lst (e _ _ rfl ha) (rpAll_keep e ds _ hr)
  | .tuple ds, _, h => by
    cases h with
    | tup ha hr =>
      refine .tup ?_ (rpAll_keep e ds _ hr)
      rcases ha with (z | ⟨o, z⟩) | z
      · exact .inl (.inl (e _ _ rfl z))
      · exact .inl (.inr ⟨o, e _ _ rfl z⟩)
      · exact .inr z
  | .dict [(_, .tuple ds), _], _, h => by
    cases h with
    | lots ha hs hr =>
      refine .lots (e _ _ rfl ha) ?_ (rpAll_keep e ds _ hr)
      rcases hs with (z | ⟨o, z⟩) | z
      · exact .inl (.inl (e _ _ rfl z))
      · exact .inl (.inr ⟨o, e _ _ rfl z⟩)
      · exact .inr z
  | .dict [], _, h => by cases h
  | .dict [_], _, h => by cases h
  | .dict (_ :: _ :: _ :: _), _, h => by cases h
  | .dict [(_, .none), _], _, h => by cases h
  | .dict [(_, .bool _), _], _, h => by cases h
  | .dict [(_, .int _), _], _, h => by cases h
  | .dict [(_, .str _), _], _, h => by cases h
  | .dict [(_, .list _), _], _, h => by cases h
  | .dict [(_, .dict _), _], _, h => by cases h
theorem rpAll_keep (e : ∀ a o, bears o = true → H a = some o → H' a = some o) : ∀ (ds : List PyData) (vs : List V), RpAll K H vs ds → RpAll K H' vs ds
  | [], _, h => by cases h; exact .nil
  | d :: ds, _, h => by
    cases h with
    | cons h1 h2 => exact .cons (rp_keep e d _ h1) (rpAll_keep e ds _ h2)
end
/-- all but what stands at a -/
def cut (H : Hp) (a : Addr) : Hp := fun b => if b = a then none else H b
theorem cut_same (a : Addr) : Same (cut H a) H := fun b o h => by
  unfold cut at h
  split at h
  · cases h
  · exact h
theorem cut_at {a : Addr} : cut H a a = none := by unfold cut; rw [if_pos rfl]
theorem cut_ne {a b : Addr} (h : b ≠ a) : cut H a b = H b := by unfold cut; rw [if_neg h]
theorem cut_of {a : Addr} (h : Same H H') (n : H a = none) : Same H (cut H' a) := fun b o e => by
  rw [cut_ne (ne_of_none e n)]
  exact h b o e
theorem cut_mono {a : Addr} (h : Same H H') : Same (cut H a) (cut H' a) := cut_of ((cut_same a).trans h) cut_at
theorem cut_upd {a : Addr} {o : HO} : Same (cut H a) (upd H' a o) ↔ Same (cut H a) H' := by
  constructor
  · intro h b u e
    have n : b ≠ a := ne_of_none e cut_at
    have z := h b u e
    rwa [upd_ne n] at z
  · intro h b u e
    have n : b ≠ a := ne_of_none e cut_at
    rw [upd_ne n]
    exact h b u e
/-- data does not rest on what bears none -/
theorem Rp.cut {a : Addr} {v : V} {d : PyData} (h : Rp K H v d) (n : ∀ o, H a = some o → bears o = false) : Rp K (cut H a) v d :=
  rp_keep (fun b o hb e => by
    rw [cut_ne]
    · exact e
    · intro z
      rw [n o (by rw [← z]; exact e)] at hb
      cases hb) d v h

theorem RpAll.length : ∀ {vs : List V} {ds : List PyData}, RpAll K H vs ds → vs.length = ds.length
  | _, _, .nil => rfl
  | _, _, .cons _ t => by rw [List.length_cons, List.length_cons, RpAll.length t]
theorem RpAll.get : ∀ {vs : List V} {ds : List PyData} {i : Nat} {d : PyData}, RpAll K H vs ds → ds[i]? = some d → ∃ v, vs[i]? = some v ∧ Rp K H v d
  | _, _, _, _, .nil, e => by simp at e
  | _, _, 0, _, .cons r _, e => by simp at e; subst e; exact ⟨_, rfl, r⟩
  | _, _, i + 1, d, .cons _ t, e => by
    obtain ⟨u, h1, h2⟩ := RpAll.get (i := i) (d := d) t (by simpa using e)
    exact ⟨u, by simpa using h1, h2⟩
theorem RpAll.got : ∀ {vs : List V} {ds : List PyData} {i : Nat} {v : V}, RpAll K H vs ds → vs[i]? = some v → ∃ d, ds[i]? = some d ∧ Rp K H v d
  | _, _, _, _, .nil, e => by simp at e
  | _, _, 0, _, .cons r _, e => by simp at e; subst e; exact ⟨_, rfl, r⟩
  | _, _, i + 1, v, .cons _ t, e => by
    obtain ⟨u, h1, h2⟩ := RpAll.got (i := i) (v := v) t (by simpa using e)
    exact ⟨u, by simpa using h1, h2⟩
theorem RpAll.append : ∀ {xs ys : List V} {ds es : List PyData}, RpAll K H xs ds → RpAll K H ys es → RpAll K H (xs ++ ys) (ds ++ es)
  | _, _, _, _, .nil, s => s
  | _, _, _, _, .cons r t, s => .cons r (RpAll.append t s)
theorem RpAll.take : ∀ {xs : List V} {ds : List PyData} (n : Nat), RpAll K H xs ds → RpAll K H (xs.take n) (ds.take n)
  | _, _, 0, _ => by simp; exact .nil
  | _, _, _ + 1, .nil => .nil
  | _, _, n + 1, .cons r t => .cons r (RpAll.take n t)
theorem RpAll.drop : ∀ {xs : List V} {ds : List PyData} (n : Nat), RpAll K H xs ds → RpAll K H (xs.drop n) (ds.drop n)
  | _, _, 0, r => r
  | _, _, _ + 1, .nil => .nil
  | _, _, n + 1, .cons _ t => RpAll.drop n t
theorem RpAll.ints : ∀ {xs : List V} {ns : List Int}, RpAll K H xs (ns.map PyData.int) → xs = ns.map V.int
  | [], [], _ => rfl
  | [], _ :: _, h => by cases h
  | _ :: _, [], h => by cases h
  | x :: xs, n :: ns, h => by
    cases h with
    | cons h1 h2 => cases h1; rw [RpAll.ints h2]; rfl
theorem RpAll.strs : ∀ {xs : List V} {ns : List Str}, RpAll K H xs (ns.map PyData.str) → xs = ns.map V.str
  | [], [], _ => rfl
  | [], _ :: _, h => by cases h
  | _ :: _, [], h => by cases h
  | x :: xs, n :: ns, h => by
    cases h with
    | cons h1 h2 => cases h1; rw [RpAll.strs h2]; rfl
theorem RpAll.bools : ∀ {xs : List V} {ns : List Bool}, RpAll K H xs (ns.map PyData.bool) → xs = ns.map V.bl
  | [], [], _ => rfl
  | [], _ :: _, h => by cases h
  | _ :: _, [], h => by cases h
  | x :: xs, n :: ns, h => by
    cases h with
    | cons h1 h2 => cases h1; rw [RpAll.bools h2]; rfl
theorem rpAll_ints (ns : List Int) : RpAll K H (ns.map V.int) (ns.map PyData.int) := by
  induction ns with
  | nil => exact .nil
  | cons n ns ih => exact .cons (.int n) ih
theorem rpAll_strs (ns : List Str) : RpAll K H (ns.map V.str) (ns.map PyData.str) := by
  induction ns with
  | nil => exact .nil
  | cons n ns ih => exact .cons (.str n) ih
theorem rpAll_bools (ns : List Bool) : RpAll K H (ns.map V.bl) (ns.map PyData.bool) := by
  induction ns with
  | nil => exact .nil
  | cons n ns ih => exact .cons (.bl n) ih
end

/-! ### what evaluates to what, whatever is laid besides -/
section
variable (K : PySem.W.Frag)
def EvD (te : TE) (σ : L2.St) (H : Hp) (d : PyData) : Prop := ∀ H1, Same H H1 → ∀ Q : VK, (∀ v H2, Same H1 H2 → Rp K H2 v d → Q v H2) → te σ H1 Q
def EvA (ta : TA) (σ : L2.St) (H : Hp) (ds : List PyData) : Prop := ∀ H1, Same H H1 → ∀ Q : List V → Hp → Prop, (∀ vs H2, Same H1 H2 → RpAll K H2 vs ds → Q vs H2) → ta σ H1 Q
end
def EvT (tt : TT) (σ : L2.St) (H : Hp) (b : Bool) : Prop := ∀ H1, Same H H1 → ∀ Q : Bool → Hp → Prop, (∀ H2, Same H1 H2 → Q b H2) → tt σ H1 Q
def EvO (to : TO) (σ : L2.St) (H : Hp) (o : Option Int) : Prop := ∀ H1, Same H H1 → ∀ Q : Option Int → Hp → Prop, (∀ H2, Same H1 H2 → Q o H2) → to σ H1 Q
/-- a walk over the data ds -/
structure WalksD (K : PySem.W.Frag) (J : It) (H : Hp) (ds : List PyData) : Prop where
  ex : ∃ (G : Hp → Prop) (Y : Nat → Hp → V → Hp → Prop), Walk J ds.length G Y ∧ G H ∧ (∀ H1 H2, Same H1 H2 → G H1 → G H2) ∧ ∀ i H1 x H2, Same H H1 → i < ds.length → Y i H1 x H2 → Same H1 H2 ∧ ∃ d, ds[i]? = some d ∧ Rp K H2 x d
def EvI (K : PySem.W.Frag) (wi : TI) (σ : L2.St) (H : Hp) (ds : List PyData) : Prop := ∀ H1, Same H H1 → ∀ R : It → Hp → Prop, (∀ J H2, Same H1 H2 → WalksD K J H2 ds → R J H2) → wi σ H1 R

section
variable {K : PySem.W.Frag} {σ : L2.St} {H H' : Hp} {ta tb tc te : TE} {t u : TT} {r : R2}
theorem EvD.mono {d : PyData} (h : EvD K te σ H d) (e : Same H H') : EvD K te σ H' d := fun H1 a Q q => h H1 (e.trans a) Q q
theorem EvA.mono {ts : TA} {ds : List PyData} (h : EvA K ts σ H ds) (e : Same H H') : EvA K ts σ H' ds := fun H1 a Q q => h H1 (e.trans a) Q q
theorem EvT.mono {b : Bool} (h : EvT t σ H b) (e : Same H H') : EvT t σ H' b := fun H1 a Q q => h H1 (e.trans a) Q q
theorem EvI.mono {wi : TI} {ds : List PyData} (h : EvI K wi σ H ds) (e : Same H H') : EvI K wi σ H' ds := fun H1 a Q q => h H1 (e.trans a) Q q
theorem ev_var {i : Nat} {v : V} {d : PyData} (h : σ[i]? = some (some v)) (hr : Rp K H v d) : EvD K (tVar i) σ H d := fun H1 e _ q => ⟨v, h, q v H1 (Same.refl H1) (hr.mono e)⟩
theorem ev_c {v : V} {d : PyData} (hr : Rp K H v d) : EvD K (tC v) σ H d := fun H1 e _ q => q v H1 (Same.refl H1) (hr.mono e)
theorem ev_int {i : Int} : EvD K (tC (.int i)) σ H (.int i) := ev_c (.int i)
theorem ev_str {x : Str} : EvD K (tC (.str x)) σ H (.str x) := ev_c (.str x)
theorem ev_bl {b : Bool} : EvD K (tC (.bl b)) σ H (.bool b) := ev_c (.bl b)
theorem ev_non : EvD K (tC .non) σ H .none := ev_c .non
/-- two operands, their data; what the operator asks -/
theorem ev_op2 {d e f : PyData} (ha : EvD K ta σ H d) (hb : EvD K tb σ H e) (hr : ∀ v w H1, Same H H1 → Rp K H1 v d → Rp K H1 w e → ∀ Q : VK, (∀ z H2, Same H1 H2 → Rp K H2 z f → Q z H2) → r v w H1 Q) : EvD K (tOp r ta tb) σ H f := fun H1 e1 Q q =>
  ha H1 e1 _ fun v H2 e2 hv => hb H2 (e1.trans e2) _ fun w H3 e3 hw => hr v w H3 ((e1.trans e2).trans e3) (hv.mono e3) hw Q fun z H4 e4 hz => q z H4 ((e2.trans e3).trans e4) hz
theorem ev_I0 {g : Int → Int → V} {f : PyData} {i j : Int} (hf : ∀ H, Rp K H (g i j) f) (ha : EvD K ta σ H (.int i)) (hb : EvD K tb σ H (.int j)) : EvD K (tOp (rI0 g) ta tb) σ H f :=
  ev_op2 ha hb fun v w H1 e1 hv hw Q q => by cases hv; cases hw; exact ⟨i, j, rfl, rfl, q _ H1 (Same.refl H1) (hf H1)⟩
theorem ev_I {C : Int → Int → Prop} {g : Int → Int → V} {f : PyData} {i j : Int} (hf : ∀ H, Rp K H (g i j) f) (hc : C i j) (ha : EvD K ta σ H (.int i)) (hb : EvD K tb σ H (.int j)) : EvD K (tOp (rI C g) ta tb) σ H f :=
  ev_op2 ha hb fun v w H1 e1 hv hw Q q => by cases hv; cases hw; exact ⟨i, j, rfl, rfl, hc, q _ H1 (Same.refl H1) (hf H1)⟩
end
end K7

set_option Elab.async false
set_option linter.all false
set_option maxRecDepth 100000
set_option maxHeartbeats 4000000
namespace K7
open PySem PySem.Spec PyProof.Rows L2

/-! ### rules that serve several kinds at once -/
def rStrAdd : R2 := fun x y H Q => ∃ i j, x = .str i ∧ y = .str j ∧ i.length + j.length ≤ sizeLine ∧ Q (.str (i ++ j)) H
def rAddU (K : PySem.W.Frag) : R2 := fun x y H Q => rI0 (fun i j => .int (i + j)) x y H Q ∨ rStrAdd x y H Q ∨ rCatA K x y H Q ∨ rCat x y H Q
theorem op_addU {X : Cx} : OpR X (binaryOp .Add) (rAddU X.K) := OpR.or op_add (OpR.or op_add_str (OpR.or op_catA op_cat))
def rLtU : R2 := fun x y H Q => rI0 (fun i j => .bl (decide (i < j))) x y H Q ∨ ∃ i j, x = .str i ∧ y = .str j ∧ Q (.bl (decide (i.cps.toList < j.cps.toList))) H
theorem op_ltU {X : Cx} : OpR X (compareOp .Lt) rLtU := OpR.or op_lt op_lt_str
def rGeU : R2 := fun x y H Q => rI0 (fun i j => .bl (decide (j ≤ i))) x y H Q ∨ ∃ i j, x = .str i ∧ y = .str j ∧ Q (.bl (!decide (i.cps.toList < j.cps.toList))) H
theorem op_geU {X : Cx} : OpR X (compareOp .GtE) rGeU := OpR.or op_ge op_ge_str
def rInSg : R2 := fun x y H Q => ∃ (c : Nat) (z : Str), x = .str ⟨#[c]⟩ ∧ y = .str z ∧ Q (.bl (decide (c ∈ z.cps.toList))) H
def rInU (K : PySem.W.Frag) : R2 := fun x y H Q => rInSg x y H Q ∨ rIn K false x y H Q
theorem op_inU {X : Cx} : OpR X (compareOp .In) (rInU X.K) := OpR.or op_in_sign op_in_seq
def rNiSg : R2 := fun x y H Q => ∃ (c : Nat) (z : Str), x = .str ⟨#[c]⟩ ∧ y = .str z ∧ Q (.bl (!decide (c ∈ z.cps.toList))) H
def rNiU (K : PySem.W.Frag) : R2 := fun x y H Q => rNiSg x y H Q ∨ rIn K true x y H Q
theorem op_niU {X : Cx} : OpR X (compareOp .NotIn) (rNiU X.K) := OpR.or op_notIn_sign op_notIn_seq
abbrev rSlAny := V → Option Int → Option Int → Hp → VK → Prop
def rSlU (K : PySem.W.Frag) : rSlAny := fun x lo hi H Q => rSlL K x lo hi H Q ∨ rSlA K x lo hi H Q ∨ rSlS x lo hi H Q
theorem sl_U {X : Cx} : SlR X (rSlU X.K) := SlR.or sl_list (SlR.or sl_tupA sl_str)
abbrev rLen (K : PySem.W.Frag) : List V → Hp → VK → Prop := fun xs H Q => ∃ x n, xs = [x] ∧ LenV K x H n ∧ Q (.int n) H

section
variable {K : PySem.W.Frag} {σ : L2.St} {H H' : Hp} {ta tb tc te : TE} {t u : TT} {r : R2} {ts tr : TA} {d e f : PyData} {i j : Int} {b c : Bool}
/-! ### numbers -/
theorem ev_addI (ha : EvD K ta σ H (.int i)) (hb : EvD K tb σ H (.int j)) : EvD K (tOp (rAddU K) ta tb) σ H (.int (i + j)) :=
  ev_op2 ha hb fun v w H1 e1 hv hw Q q => by cases hv; cases hw; exact .inl ⟨i, j, rfl, rfl, q _ H1 (Same.refl H1) (.int _)⟩
theorem ev_subI (ha : EvD K ta σ H (.int i)) (hb : EvD K tb σ H (.int j)) : EvD K (tOp (rI0 fun i j => .int (i - j)) ta tb) σ H (.int (i - j)) := ev_I0 (fun _ => .int _) ha hb
theorem ev_andI (ha : EvD K ta σ H (.int i)) (hb : EvD K tb σ H (.int j)) : EvD K (tOp (rI0 fun i j => .int (Builtin.bitAnd i j)) ta tb) σ H (.int (Builtin.bitAnd i j)) := ev_I0 (fun _ => .int _) ha hb
theorem ev_orI (ha : EvD K ta σ H (.int i)) (hb : EvD K tb σ H (.int j)) : EvD K (tOp (rI0 fun i j => .int (Builtin.bitOr i j)) ta tb) σ H (.int (Builtin.bitOr i j)) := ev_I0 (fun _ => .int _) ha hb
theorem ev_mulI (hc : CMul i j) (ha : EvD K ta σ H (.int i)) (hb : EvD K tb σ H (.int j)) : EvD K (tOp (rI CMul fun i j => .int (i * j)) ta tb) σ H (.int (i * j)) := ev_I (fun _ => .int _) hc ha hb
theorem ev_modI (hc : 0 < j) (ha : EvD K ta σ H (.int i)) (hb : EvD K tb σ H (.int j)) : EvD K (tOp (rI (fun _ j => 0 < j) fun i j => .int (i % j)) ta tb) σ H (.int (i % j)) := ev_I (fun _ => .int _) hc ha hb
theorem ev_fdivI (hc : CDiv i j) (ha : EvD K ta σ H (.int i)) (hb : EvD K tb σ H (.int j)) : EvD K (tOp (rI CDiv fun i j => .int (i / j)) ta tb) σ H (.int (i / j)) := ev_I (fun _ => .int _) hc ha hb
theorem ev_powI (hc : CPow i j) (ha : EvD K ta σ H (.int i)) (hb : EvD K tb σ H (.int j)) : EvD K (tOp (rI CPow fun i j => .int (i ^ j.toNat)) ta tb) σ H (.int (i ^ j.toNat)) := ev_I (fun _ => .int _) hc ha hb
theorem ev_shlI (hc : CPow i j) (ha : EvD K ta σ H (.int i)) (hb : EvD K tb σ H (.int j)) : EvD K (tOp (rI CPow fun i j => .int (i * 2 ^ j.toNat)) ta tb) σ H (.int (i * 2 ^ j.toNat)) := ev_I (fun _ => .int _) hc ha hb
theorem ev_shrI (hc : 0 ≤ j) (ha : EvD K ta σ H (.int i)) (hb : EvD K tb σ H (.int j)) : EvD K (tOp (rI (fun _ j => 0 ≤ j) fun i j => .int (i / 2 ^ j.toNat)) ta tb) σ H (.int (i / 2 ^ j.toNat)) := ev_I (fun _ => .int _) hc ha hb
theorem ev_negI (ha : EvD K ta σ H (.int i)) : EvD K (tUn (rU fun i => .int (-i)) ta) σ H (.int (-i)) := fun H1 e1 Q q => ha H1 e1 _ fun v H2 e2 hv => by cases hv; exact ⟨i, rfl, q _ H2 e2 (.int _)⟩
theorem ev_ltI (ha : EvD K ta σ H (.int i)) (hb : EvD K tb σ H (.int j)) : EvD K (tOp rLtU ta tb) σ H (.bool (decide (i < j))) :=
  ev_op2 ha hb fun v w H1 e1 hv hw Q q => by cases hv; cases hw; exact .inl ⟨i, j, rfl, rfl, q _ H1 (Same.refl H1) (.bl _)⟩
theorem ev_geI (ha : EvD K ta σ H (.int i)) (hb : EvD K tb σ H (.int j)) : EvD K (tOp rGeU ta tb) σ H (.bool (decide (j ≤ i))) :=
  ev_op2 ha hb fun v w H1 e1 hv hw Q q => by cases hv; cases hw; exact .inl ⟨i, j, rfl, rfl, q _ H1 (Same.refl H1) (.bl _)⟩
theorem ev_leI (ha : EvD K ta σ H (.int i)) (hb : EvD K tb σ H (.int j)) : EvD K (tOp (rI0 fun i j => .bl (decide (i ≤ j))) ta tb) σ H (.bool (decide (i ≤ j))) := ev_I0 (fun _ => .bl _) ha hb
theorem ev_gtI (ha : EvD K ta σ H (.int i)) (hb : EvD K tb σ H (.int j)) : EvD K (tOp (rI0 fun i j => .bl (decide (j < i))) ta tb) σ H (.bool (decide (j < i))) := ev_I0 (fun _ => .bl _) ha hb
/-! ### texts -/
theorem ev_addS {x y : Str} (hz : x.length + y.length ≤ sizeLine) (ha : EvD K ta σ H (.str x)) (hb : EvD K tb σ H (.str y)) : EvD K (tOp (rAddU K) ta tb) σ H (.str (x ++ y)) :=
  ev_op2 ha hb fun v w H1 e1 hv hw Q q => by cases hv; cases hw; exact .inr (.inl ⟨x, y, rfl, rfl, hz, q _ H1 (Same.refl H1) (.str _)⟩)
theorem ev_ltS {x y : Str} (ha : EvD K ta σ H (.str x)) (hb : EvD K tb σ H (.str y)) : EvD K (tOp rLtU ta tb) σ H (.bool (decide (x.cps.toList < y.cps.toList))) :=
  ev_op2 ha hb fun v w H1 e1 hv hw Q q => by cases hv; cases hw; exact .inr ⟨x, y, rfl, rfl, q _ H1 (Same.refl H1) (.bl _)⟩
theorem ev_geS {x y : Str} (ha : EvD K ta σ H (.str x)) (hb : EvD K tb σ H (.str y)) : EvD K (tOp rGeU ta tb) σ H (.bool (!decide (x.cps.toList < y.cps.toList))) :=
  ev_op2 ha hb fun v w H1 e1 hv hw Q q => by cases hv; cases hw; exact .inr ⟨x, y, rfl, rfl, q _ H1 (Same.refl H1) (.bl _)⟩
theorem ev_inS {n : Nat} {y : Str} (ha : EvD K ta σ H (.str ⟨#[n]⟩)) (hb : EvD K tb σ H (.str y)) : EvD K (tOp (rInU K) ta tb) σ H (.bool (decide (n ∈ y.cps.toList))) :=
  ev_op2 ha hb fun v w H1 e1 hv hw Q q => by cases hv; cases hw; exact .inl ⟨n, y, rfl, rfl, q _ H1 (Same.refl H1) (.bl _)⟩
theorem ev_niS {n : Nat} {y : Str} (ha : EvD K ta σ H (.str ⟨#[n]⟩)) (hb : EvD K tb σ H (.str y)) : EvD K (tOp (rNiU K) ta tb) σ H (.bool (!decide (n ∈ y.cps.toList))) :=
  ev_op2 ha hb fun v w H1 e1 hv hw Q q => by cases hv; cases hw; exact .inl ⟨n, y, rfl, rfl, q _ H1 (Same.refl H1) (.bl _)⟩
/-! ### in, for flat things -/
theorem inV_strs (x : Str) : ∀ ws : List Str, inV (.str x) (ws.map V.str) = decide (x ∈ ws)
  | [] => by simp [inV]
  | w :: ws => by
    have ih := inV_strs x ws
    unfold inV at ih ⊢
    rw [List.map_cons, List.any_cons, ih]
    by_cases h : w = x
    · subst h; simp [eqV]
    · have h2 : ¬ x = w := fun z => h z.symm
      simp [eqV, h, h2]
theorem inV_ints (x : Int) : ∀ ws : List Int, inV (.int x) (ws.map V.int) = decide (x ∈ ws)
  | [] => by simp [inV]
  | w :: ws => by
    have ih := inV_ints x ws
    unfold inV at ih ⊢
    rw [List.map_cons, List.any_cons, ih]
    by_cases h : w = x
    · subst h; simp [eqV]
    · have h2 : ¬ x = w := fun z => h z.symm
      simp [eqV, h, h2]
theorem inV_bools (x : Bool) : ∀ ws : List Bool, inV (.bl x) (ws.map V.bl) = decide (x ∈ ws)
  | [] => by simp [inV]
  | w :: ws => by
    have ih := inV_bools x ws
    unfold inV at ih ⊢
    rw [List.map_cons, List.any_cons, ih]
    by_cases h : w = x
    · subst h; simp [eqV]
    · have h2 : ¬ x = w := fun z => h z.symm
      simp [eqV, h, h2]
theorem flat_strs (ws : List Str) : (ws.map V.str).all flatV = true := by simp [flatV]
theorem flat_ints (ws : List Int) : (ws.map V.int).all flatV = true := by simp [flatV]
theorem flat_bools (ws : List Bool) : (ws.map V.bl).all flatV = true := by simp [flatV]
theorem ev_inT {x : Str} {ws : List Str} (ha : EvD K ta σ H (.str x)) (hb : EvD K tb σ H (.tuple (ws.map .str))) : EvD K (tOp (rInU K) ta tb) σ H (.bool (decide (x ∈ ws))) :=
  ev_op2 ha hb fun v w H1 e1 hv hw Q q => by
    cases hv
    cases hw with
    | tup hs hr =>
      have e := hr.strs
      subst e
      refine .inr ⟨_, _, rfl, .inr hs, rfl, flat_strs ws, ?_⟩
      rw [if_neg Bool.false_ne_true, inV_strs]
      exact q _ H1 (Same.refl H1) (.bl _)
theorem ev_inL {x : Str} {ws : List Str} (ha : EvD K ta σ H (.str x)) (hb : EvD K tb σ H (.list (ws.map .str))) : EvD K (tOp (rInU K) ta tb) σ H (.bool (decide (x ∈ ws))) :=
  ev_op2 ha hb fun v w H1 e1 hv hw Q q => by
    cases hv
    cases hw with
    | lst hs hr =>
      have e := hr.strs
      subst e
      refine .inr ⟨_, _, rfl, .inl (SqL.of hs), rfl, flat_strs ws, ?_⟩
      rw [if_neg Bool.false_ne_true, inV_strs]
      exact q _ H1 (Same.refl H1) (.bl _)
theorem ev_niTI {x : Int} {ws : List Int} (ha : EvD K ta σ H (.int x)) (hb : EvD K tb σ H (.tuple (ws.map .int))) : EvD K (tOp (rNiU K) ta tb) σ H (.bool (!decide (x ∈ ws))) :=
  ev_op2 ha hb fun v w H1 e1 hv hw Q q => by
    cases hv
    cases hw with
    | tup hs hr =>
      have e := hr.ints
      subst e
      refine .inr ⟨_, _, rfl, .inr hs, rfl, flat_ints ws, ?_⟩
      rw [if_pos rfl, inV_ints]
      exact q _ H1 (Same.refl H1) (.bl _)
theorem ev_niLB {x : Bool} {ws : List Bool} (ha : EvD K ta σ H (.bool x)) (hb : EvD K tb σ H (.list (ws.map .bool))) : EvD K (tOp (rNiU K) ta tb) σ H (.bool (!decide (x ∈ ws))) :=
  ev_op2 ha hb fun v w H1 e1 hv hw Q q => by
    cases hv
    cases hw with
    | lst hs hr =>
      have e := hr.bools
      subst e
      refine .inr ⟨_, _, rfl, .inl (SqL.of hs), rfl, flat_bools ws, ?_⟩
      rw [if_pos rfl, inV_bools]
      exact q _ H1 (Same.refl H1) (.bl _)
/-! ### ==, is None -/
theorem ev_eq (sd : SeqAt.shaped d = true) (se : SeqAt.shaped e = true) (ha : EvD K ta σ H d) (hb : EvD K tb σ H e) : EvD K (tOp (rEqD K) ta tb) σ H (.bool (PyData.eqv d e)) :=
  ev_op2 ha hb fun v w H1 e1 hv hw Q q => ⟨d, e, hv.dp (noI_of sd), hw.dp (noI_of se), sd, se, q _ H1 (Same.refl H1) (.bl _)⟩
theorem ev_ne (sd : SeqAt.shaped d = true) (se : SeqAt.shaped e = true) (ha : EvD K ta σ H d) (hb : EvD K tb σ H e) : EvD K (tOp (rNeD K) ta tb) σ H (.bool (!PyData.eqv d e)) :=
  ev_op2 ha hb fun v w H1 e1 hv hw Q q => ⟨d, e, hv.dp (noI_of sd), hw.dp (noI_of se), sd, se, q _ H1 (Same.refl H1) (.bl _)⟩
def isNon : PyData → Bool
  | .none => true
  | _ => false
theorem rp_non {v : V} (h : Rp K H v d) : decide (v = .non) = isNon d := by
  cases h <;> simp [isNon]
theorem ev_isN (ha : EvD K ta σ H d) : EvD K (tIsN ta) σ H (.bool (isNon d)) := fun H1 e1 Q q => ha H1 e1 _ fun v H2 e2 hv => by
  show Q (.bl (decide (v = .non))) H2
  rw [rp_non hv]
  exact q _ H2 e2 (.bl _)
theorem ev_notN (ha : EvD K ta σ H d) : EvD K (tNotN ta) σ H (.bool (!isNon d)) := fun H1 e1 Q q => ha H1 e1 _ fun v H2 e2 hv => by
  show Q (.bl (!decide (v = .non))) H2
  rw [rp_non hv]
  exact q _ H2 e2 (.bl _)
/-! ### truth -/
theorem ev_andT (ha : EvD K ta σ H (.bool true)) (hb : EvD K tb σ H (.bool b)) : EvD K (tAndV ta tb) σ H (.bool b) := fun H1 e1 Q q => ha H1 e1 _ fun v H2 e2 hv => by
  cases hv
  exact ⟨true, rfl, iteT (hb H2 (e1.trans e2) _ fun w H3 e3 hw => q w H3 (e2.trans e3) hw)⟩
theorem ev_andF (ha : EvD K ta σ H (.bool false)) : EvD K (tAndV ta tb) σ H (.bool false) := fun H1 e1 Q q => ha H1 e1 _ fun v H2 e2 hv => by
  cases hv
  exact ⟨false, rfl, iteF (q _ H2 e2 (.bl _))⟩
theorem ev_and (ha : EvD K ta σ H (.bool b)) (hb : b = true → EvD K tb σ H (.bool c)) : EvD K (tAndV ta tb) σ H (.bool (b && c)) := by
  cases b with
  | true => simpa using ev_andT ha (hb rfl)
  | false => simpa using ev_andF ha
theorem ev_not (ha : EvD K ta σ H (.bool b)) : EvD K (tNotV ta) σ H (.bool (!b)) := fun H1 e1 Q q => ha H1 e1 _ fun v H2 e2 hv => by
  cases hv
  exact ⟨b, rfl, q _ H2 e2 (.bl _)⟩
theorem ev_if (hc : EvT t σ H b) (ha : b = true → EvD K ta σ H d) (hb : b = false → EvD K tb σ H d) : EvD K (tIf t ta tb) σ H d := fun H1 e1 Q q => hc H1 e1 _ fun H2 e2 => by
  cases b with
  | true => exact iteT (ha rfl H2 (e1.trans e2) _ fun w H3 e3 hw => q w H3 (e2.trans e3) hw)
  | false => exact iteF (hb rfl H2 (e1.trans e2) _ fun w H3 e3 hw => q w H3 (e2.trans e3) hw)
theorem et_val (ha : EvD K ta σ H (.bool b)) : EvT (tB ta) σ H b := fun H1 e1 Q q => ha H1 e1 _ fun v H2 e2 hv => by cases hv; exact ⟨b, rfl, q H2 e2⟩
theorem et_test (ha : EvD K ta σ H (.bool b)) : EvT (tTest ta) σ H b := fun H1 e1 Q q => ha H1 e1 _ fun v H2 e2 hv => by cases hv; exact ⟨b, rfl, q H2 e2⟩
theorem et_not (ha : EvT t σ H b) : EvT (tNot t) σ H (!b) := fun H1 e1 Q q => ha H1 e1 _ fun H2 e2 => q H2 e2
theorem et_and (ha : EvT t σ H b) (hb : b = true → EvT u σ H c) : EvT (tAnd t u) σ H (b && c) := fun H1 e1 Q q => ha H1 e1 _ fun H2 e2 => by
  cases b with
  | true => exact iteT (hb rfl H2 (e1.trans e2) _ fun H3 e3 => by simpa using q H3 (e2.trans e3))
  | false => exact iteF (by simpa using q H2 e2)
theorem et_or (ha : EvT t σ H b) (hb : b = false → EvT u σ H c) : EvT (tOr t u) σ H (b || c) := fun H1 e1 Q q => ha H1 e1 _ fun H2 e2 => by
  cases b with
  | true => exact iteT (by simpa using q H2 e2)
  | false => exact iteF (hb rfl H2 (e1.trans e2) _ fun H3 e3 => by simpa using q H3 (e2.trans e3))
/-- a <= b <= c, of numbers -/
theorem ev_chainI {p q : Int → Int → Bool} {k : Int} (ha : EvD K ta σ H (.int i)) (hb : EvD K tb σ H (.int j)) (hc : EvD K tc σ H (.int k)) :
    EvD K (tChain (rI0 fun i j => .bl (p i j)) (rI0 fun i j => .bl (q i j)) ta tb tc) σ H (.bool (p i j && q j k)) := fun H1 e1 Q qq =>
  ha H1 e1 _ fun v H2 e2 hv => hb H2 (e1.trans e2) _ fun w H3 e3 hw => by
    cases hv; cases hw
    refine ⟨i, j, rfl, rfl, p i j, rfl, ?_⟩
    cases hp : p i j with
    | true =>
      refine iteT (hc H3 ((e1.trans e2).trans e3) _ fun z H4 e4 hz => ?_)
      cases hz
      exact ⟨j, k, rfl, rfl, by rw [hp] at qq; simpa using qq _ H4 ((e2.trans e3).trans e4) (.bl _)⟩
    | false => exact iteF (by rw [hp] at qq; simpa using qq _ H3 (e2.trans e3) (.bl _))
/-! ### items, slices -/
theorem RpAll.atI {xs : List V} {ds : List PyData} (h : RpAll K H xs ds) {i : Int} {d : PyData} (e : L2.atI ds i = some d) : ∃ v, L2.atI xs i = some v ∧ Rp K H v d := by
  unfold L2.atI at e ⊢
  rw [h.length]
  cases q : ixN ds.length i with
  | none => rw [q] at e; cases e
  | some j =>
    rw [q] at e
    exact h.get e
theorem ev_ixL {ds : List PyData} (hi : L2.atI ds i = some d) (ha : EvD K ta σ H (.list ds)) (hb : EvD K tb σ H (.int i)) : EvD K (tOp (rIx K) ta tb) σ H d :=
  ev_op2 ha hb fun v w H1 e1 hv hw Q q => by
    cases hw
    cases hv with
    | lst hs hr =>
      obtain ⟨v, h1, h2⟩ := hr.atI hi
      exact .inl ⟨_, _, i, v, rfl, rfl, SqL.of hs, h1, q _ H1 (Same.refl H1) h2⟩
theorem ev_ixT {ds : List PyData} (hi : L2.atI ds i = some d) (ha : EvD K ta σ H (.tuple ds)) (hb : EvD K tb σ H (.int i)) : EvD K (tOp (rIx K) ta tb) σ H d :=
  ev_op2 ha hb fun v w H1 e1 hv hw Q q => by
    cases hw
    cases hv with
    | tup hs hr =>
      obtain ⟨v, h1, h2⟩ := hr.atI hi
      exact .inr (.inl ⟨_, _, i, v, rfl, rfl, hs, h1, q _ H1 (Same.refl H1) h2⟩)
theorem ev_ixS {z : Str} {n : Nat} (hz : z.length ≤ sizeLine) (hi : L2.atI z.cps.toList i = some n) (ha : EvD K ta σ H (.str z)) (hb : EvD K tb σ H (.int i)) : EvD K (tOp (rIx K) ta tb) σ H (.str ⟨#[n]⟩) :=
  ev_op2 ha hb fun v w H1 e1 hv hw Q q => by
    cases hw; cases hv
    exact .inr (.inr ⟨z, i, n, rfl, rfl, hz, hi, q _ H1 (Same.refl H1) (.str _)⟩)
def cutD (ds : List PyData) (lo hi : Option Int) : List PyData := (ds.drop (HT.sIx ds.length 0 lo)).take (HT.sIx ds.length ds.length hi - HT.sIx ds.length 0 lo)
theorem RpAll.cut {xs : List V} {ds : List PyData} (h : RpAll K H xs ds) (lo hi : Option Int) : RpAll K H (cutV xs lo hi) (cutD ds lo hi) := by
  unfold cutV cutD
  rw [h.length]
  exact (h.drop _).take _
theorem eo_none : EvO tNoPart σ H none := fun H1 _ Q q => q H1 (Same.refl H1)
theorem eo_some (ha : EvD K ta σ H (.int i)) : EvO (tPart ta) σ H (some i) := fun H1 e1 Q q => ha H1 e1 _ fun v H2 e2 hv => by cases hv; exact ⟨i, rfl, q H2 e2⟩
theorem ev_sl {rr : rSlAny} {tl th : TO} {lo hi : Option Int} (ha : EvD K ta σ H d) (hl : EvO tl σ H lo) (hh : EvO th σ H hi)
    (hr : ∀ v H1, Same H H1 → Rp K H1 v d → ∀ Q : VK, (∀ z H2, Same H1 H2 → Rp K H2 z f → Q z H2) → rr v lo hi H1 Q) : EvD K (tSl rr ta tl th) σ H f := fun H1 e1 Q q =>
  ha H1 e1 _ fun v H2 e2 hv => hl H2 (e1.trans e2) _ fun H3 e3 => hh H3 ((e1.trans e2).trans e3) _ fun H4 e4 =>
    hr v H4 (((e1.trans e2).trans e3).trans e4) (hv.mono (e3.trans e4)) Q fun z H5 e5 hz => q z H5 (((e2.trans e3).trans e4).trans e5) hz
theorem ev_slL {tl th : TO} {lo hi : Option Int} {ds : List PyData} (ha : EvD K ta σ H (.list ds)) (hl : EvO tl σ H lo) (hh : EvO th σ H hi) : EvD K (tSl (rSlU K) ta tl th) σ H (.list (cutD ds lo hi)) :=
  ev_sl ha hl hh fun v H1 e1 hv Q q => by
    cases hv with
    | lst hs hr => exact .inl ⟨_, _, rfl, SqL.of hs, fun p hp => q _ _ (same_new hp) (.lst upd_same ((hr.cut lo hi).mono (same_new hp)))⟩
theorem cutV_whole {xs : List V} {lo hi : Option Int} (h : HT.sIx xs.length 0 lo = 0 ∧ HT.sIx xs.length xs.length hi = xs.length) : cutV xs lo hi = xs := by
  unfold cutV
  rw [h.1, h.2]
  simp
theorem ev_slT {tl th : TO} {lo hi : Option Int} {ds : List PyData} (ha : EvD K ta σ H (.tuple ds)) (hl : EvO tl σ H lo) (hh : EvO th σ H hi) : EvD K (tSl (rSlU K) ta tl th) σ H (.tuple (cutD ds lo hi)) :=
  ev_sl ha hl hh fun v H1 e1 hv Q q => by
    cases hv with
    | tup hs hr =>
      have hc := hr.cut lo hi
      refine .inr (.inl ⟨_, _, rfl, hs, fun w => q _ H1 (Same.refl H1) (.tup hs ?_), fun _ p hp => q _ _ (same_new hp) (.tup (SqT.of upd_same) (hc.mono (same_new hp)))⟩)
      rw [cutV_whole w] at hc
      exact hc
theorem ev_slS {tl th : TO} {lo hi : Option Int} {z : Str} (hz : z.length ≤ sizeLine) (ha : EvD K ta σ H (.str z)) (hl : EvO tl σ H lo) (hh : EvO th σ H hi) : EvD K (tSl (rSlU K) ta tl th) σ H (.str (cutS z lo hi)) :=
  ev_sl ha hl hh fun v H1 e1 hv Q q => by
    cases hv
    exact .inr (.inr ⟨z, rfl, hz, q _ H1 (Same.refl H1) (.str _)⟩)
/-! ### tuples, lists -/
theorem ev_catT {ds es : List PyData} (hz : ds.length + es.length ≤ sizeLine) (ha : EvD K ta σ H (.tuple ds)) (hb : EvD K tb σ H (.tuple es)) : EvD K (tOp (rAddU K) ta tb) σ H (.tuple (ds ++ es)) :=
  ev_op2 ha hb fun v w H1 e1 hv hw Q q => by
    cases hv with
    | tup hs hr =>
      cases hw with
      | tup ht hq =>
        rename_i a xs b ys
        refine .inr (.inr (.inl ⟨a, b, xs, ys, rfl, rfl, hs, ht, by rw [hr.length, hq.length]; exact hz, fun hx => ?_, fun _ hy => ?_, fun _ _ p hp => ?_⟩))
        · subst hx
          cases hr
          exact q _ H1 (Same.refl H1) (.tup ht hq)
        · subst hy
          cases hq
          rw [List.append_nil] at q
          exact q _ H1 (Same.refl H1) (.tup hs hr)
        · exact q _ _ (same_new hp) (.tup (SqT.of upd_same) ((hr.append hq).mono (same_new hp)))
theorem ev_catL {ds es : List PyData} (hz : ds.length + es.length ≤ sizeLine) (ha : EvD K ta σ H (.list ds)) (hb : EvD K tb σ H (.list es)) : EvD K (tOp (rAddU K) ta tb) σ H (.list (ds ++ es)) :=
  ev_op2 ha hb fun v w H1 e1 hv hw Q q => by
    cases hv with
    | lst hs hr =>
      cases hw with
      | lst ht hq =>
        exact .inr (.inr (.inr ⟨_, _, _, _, rfl, rfl, hs, ht, by rw [hr.length, hq.length]; exact hz, fun p hp => q _ _ (same_new hp) (.lst upd_same ((hr.append hq).mono (same_new hp)))⟩))
theorem ea_nil : EvA K tNil σ H [] := fun H1 _ Q q => q [] H1 (Same.refl H1) .nil
theorem ea_cons {ds : List PyData} (ha : EvD K ta σ H d) (hr : EvA K tr σ H ds) : EvA K (tCons ta tr) σ H (d :: ds) := fun H1 e1 Q q =>
  ha H1 e1 _ fun v H2 e2 hv => hr H2 (e1.trans e2) _ fun vs H3 e3 hvs => q _ H3 (e2.trans e3) (.cons (hv.mono e3) hvs)
theorem ea_starT {ds es : List PyData} (ha : EvD K ta σ H (.tuple ds)) (hr : EvA K tr σ H es) : EvA K (StX.tStar K ta tr) σ H (ds ++ es) := fun H1 e1 Q q =>
  ha H1 e1 _ fun v H2 e2 hv => by
    cases hv with
    | tup hs hq => exact ⟨_, _, rfl, .inl hs, hr H2 (e1.trans e2) _ fun vs H3 e3 hvs => q _ H3 (e2.trans e3) ((hq.mono e3).append hvs)⟩
theorem ea_starL {ds es : List PyData} (ha : EvD K ta σ H (.list ds)) (hr : EvA K tr σ H es) : EvA K (StX.tStar K ta tr) σ H (ds ++ es) := fun H1 e1 Q q =>
  ha H1 e1 _ fun v H2 e2 hv => by
    cases hv with
    | lst hs hq => exact ⟨_, _, rfl, .inr (SqL.of hs), hr H2 (e1.trans e2) _ fun vs H3 e3 hvs => q _ H3 (e2.trans e3) ((hq.mono e3).append hvs)⟩
theorem ev_tup {ds : List PyData} (hz : ds.length ≤ sizeLine) (hs : EvA K ts σ H ds) : EvD K (tTup ts) σ H (.tuple ds) := fun H1 e1 Q q =>
  hs H1 e1 _ fun vs H2 e2 hv => ⟨by rw [hv.length]; exact hz, fun p hp => q _ _ (e2.trans (same_new hp)) (.tup (SqT.of upd_same) (hv.mono (same_new hp)))⟩
theorem ev_lst {ds : List PyData} (hz : ds.length ≤ sizeLine) (hs : EvA K ts σ H ds) : EvD K (tLst ts) σ H (.list ds) := fun H1 e1 Q q =>
  hs H1 e1 _ fun vs H2 e2 hv => ⟨by rw [hv.length]; exact hz, fun p hp => q _ _ (e2.trans (same_new hp)) (.lst upd_same (hv.mono (same_new hp)))⟩
/-! ### built-in functions -/
theorem ev_cb {rr : List V → Hp → VK → Prop} {ds : List PyData} (hs : EvA K ts σ H ds) (hr : ∀ vs H1, Same H H1 → RpAll K H1 vs ds → ∀ Q : VK, (∀ z H2, Same H1 H2 → Rp K H2 z f → Q z H2) → rr vs H1 Q) : EvD K (tCB rr ts) σ H f := fun H1 e1 Q q =>
  hs H1 e1 _ fun vs H2 e2 hv => hr vs H2 (e1.trans e2) hv Q fun z H3 e3 hz => q z H3 (e2.trans e3) hz
theorem ev_cb1 {rr : List V → Hp → VK → Prop} (ha : EvD K ta σ H d) (hr : ∀ v H1, Same H H1 → Rp K H1 v d → ∀ Q : VK, (∀ z H2, Same H1 H2 → Rp K H2 z f → Q z H2) → rr [v] H1 Q) : EvD K (tCB rr (tCons ta tNil)) σ H f :=
  ev_cb (ea_cons ha ea_nil) fun vs H1 e1 hv Q q => by
    cases hv with
    | cons h1 h2 => cases h2; exact hr _ H1 e1 h1 Q q
theorem ev_lenL {ds : List PyData} (ha : EvD K ta σ H (.list ds)) : EvD K (tCB (rLen K) (tCons ta tNil)) σ H (.int ds.length) := ev_cb1 ha fun v H1 e1 hv Q q => by
  cases hv with
  | lst hs hr => exact ⟨_, _, rfl, .inl ⟨_, SqL.of hs, rfl⟩, by rw [hr.length]; exact q _ H1 (Same.refl H1) (.int _)⟩
theorem ev_lenT {ds : List PyData} (ha : EvD K ta σ H (.tuple ds)) : EvD K (tCB (rLen K) (tCons ta tNil)) σ H (.int ds.length) := ev_cb1 ha fun v H1 e1 hv Q q => by
  cases hv with
  | tup hs hr => exact ⟨_, _, rfl, .inr ⟨_, hs, rfl⟩, by rw [hr.length]; exact q _ H1 (Same.refl H1) (.int _)⟩
theorem ev_lenS {z : Str} (hz : z.length ≤ sizeLine) (ha : EvD K ta σ H (.str z)) : EvD K (tCB (rLen K) (tCons ta tNil)) σ H (.int z.length) := ev_cb1 ha fun v H1 e1 hv Q q => by
  cases hv
  exact ⟨_, _, rfl, ⟨hz, rfl⟩, q _ H1 (Same.refl H1) (.int _)⟩
theorem ev_all {bs : List Bool} (ha : EvD K ta σ H (.list (bs.map .bool))) : EvD K (tCB (rAll K) (tCons ta tNil)) σ H (.bool (bs.all id)) := ev_cb1 ha fun v H1 e1 hv Q q => by
  cases hv with
  | lst hs hr =>
    have e := hr.bools
    subst e
    exact ⟨_, bs, rfl, SqL.of hs, q _ H1 (Same.refl H1) (.bl _)⟩
theorem ev_any {bs : List Bool} (ha : EvD K ta σ H (.list (bs.map .bool))) : EvD K (tCB (rAny K) (tCons ta tNil)) σ H (.bool (bs.any id)) := ev_cb1 ha fun v H1 e1 hv Q q => by
  cases hv with
  | lst hs hr =>
    have e := hr.bools
    subst e
    exact ⟨_, bs, rfl, SqL.of hs, q _ H1 (Same.refl H1) (.bl _)⟩
theorem ev_sum {ns : List Int} (ha : EvD K ta σ H (.list (ns.map .int))) : EvD K (tCB (rSum K) (tCons ta tNil)) σ H (.int ns.sum) := ev_cb1 ha fun v H1 e1 hv Q q => by
  cases hv with
  | lst hs hr =>
    have e := hr.ints
    subst e
    exact ⟨_, ns, rfl, SqL.of hs, q _ H1 (Same.refl H1) (.int _)⟩
theorem ev_max2 (ha : EvD K ta σ H (.int i)) (hb : EvD K tb σ H (.int j)) : EvD K (tCB (fun xs H Q => ∃ i j, xs = [.int i, .int j] ∧ Q (.int (if j > i then j else i)) H) (tCons ta (tCons tb tNil))) σ H (.int (if j > i then j else i)) :=
  ev_cb (ea_cons ha (ea_cons hb ea_nil)) fun vs H1 e1 hv Q q => by
    cases hv with
    | cons h1 h2 =>
      cases h2 with
      | cons h3 h4 =>
        cases h4; cases h1; cases h3
        exact ⟨i, j, rfl, q _ H1 (Same.refl H1) (.int _)⟩
theorem ev_min2 (ha : EvD K ta σ H (.int i)) (hb : EvD K tb σ H (.int j)) : EvD K (tCB (fun xs H Q => ∃ i j, xs = [.int i, .int j] ∧ Q (.int (if j < i then j else i)) H) (tCons ta (tCons tb tNil))) σ H (.int (if j < i then j else i)) :=
  ev_cb (ea_cons ha (ea_cons hb ea_nil)) fun vs H1 e1 hv Q q => by
    cases hv with
    | cons h1 h2 =>
      cases h2 with
      | cons h3 h4 =>
        cases h4; cases h1; cases h3
        exact ⟨i, j, rfl, q _ H1 (Same.refl H1) (.int _)⟩
theorem ev_abs (ha : EvD K ta σ H (.int i)) : EvD K (tCB (fun xs H Q => ∃ i, xs = [.int i] ∧ Q (.int (if i < 0 then -i else i)) H) (tCons ta tNil)) σ H (.int (if i < 0 then -i else i)) := ev_cb1 ha fun v H1 e1 hv Q q => by
  cases hv
  exact ⟨i, rfl, q _ H1 (Same.refl H1) (.int _)⟩
abbrev rInt1 : List V → Hp → VK → Prop := fun xs H Q => (∃ i, xs = [.int i] ∧ Q (.int i) H) ∨ ∃ k, xs = [.bl k] ∧ Q (.int (if k then 1 else 0)) H
theorem ev_intI (ha : EvD K ta σ H (.int i)) : EvD K (tCB rInt1 (tCons ta tNil)) σ H (.int i) := ev_cb1 ha fun v H1 e1 hv Q q => by
  cases hv
  exact .inl ⟨i, rfl, q _ H1 (Same.refl H1) (.int _)⟩
theorem ev_intB (ha : EvD K ta σ H (.bool b)) : EvD K (tCB rInt1 (tCons ta tNil)) σ H (.int (if b then 1 else 0)) := ev_cb1 ha fun v H1 e1 hv Q q => by
  cases hv
  exact .inr ⟨b, rfl, q _ H1 (Same.refl H1) (.int _)⟩
abbrev rTupOf (K : PySem.W.Frag) : List V → Hp → VK → Prop := fun xs H Q => ∃ p ys, xs = [.ref p] ∧ ((SqL K H p ys ∧ ∀ l, H l = none → Q (.ref l) (upd H l (.tup ys))) ∨ (SqT K H p ys ∧ Q (.ref p) H))
theorem ev_tupleL {ds : List PyData} (ha : EvD K ta σ H (.list ds)) : EvD K (tCB (rTupOf K) (tCons ta tNil)) σ H (.tuple ds) := ev_cb1 ha fun v H1 e1 hv Q q => by
  cases hv with
  | lst hs hr => exact ⟨_, _, rfl, .inl ⟨SqL.of hs, fun l hl => q _ _ (same_new hl) (.tup (SqT.of upd_same) (hr.mono (same_new hl)))⟩⟩
/-- the data's type, as isinstance takes it -/
def tyD : PyData → Value
  | .none => .type "NoneType"
  | .bool _ => .type "bool"
  | .int _ => .type "int"
  | .str _ => .type "str"
  | .list _ => .type "list"
  | .tuple _ => .type "tuple"
  | .dict _ => .type "dict"
def noDict : PyData → Bool
  | .dict _ => false
  | _ => true
theorem rp_ty {v : V} (h : Rp K H v d) (n : noDict d = true) : TyX K H v (tyD d) := by
  cases h with
  | lots _ _ _ => simp [noDict] at n
  | non => exact .base .non
  | bl b => exact .base (.bl b)
  | int i => exact .base (.int i)
  | str x => exact .base (.str x)
  | lst hs _ => exact .base (.lst hs)
  | tup hs _ =>
    rcases hs with (h | ⟨o, h⟩) | ⟨o, its, n, h1, h2, _⟩
    · exact .base (.tup h)
    · exact .fTuple h
    · exact .kTuple h1 h2
theorem ev_isi {n : String} (hn : noDict d = true) (hk : PySem.W.kitOne K (tyD d) (.type n) = some b) (ha : EvD K ta σ H d) : EvD K (tCB (rIsi K) (tCons ta (tCons (tC (.ty n)) tNil))) σ H (.bool b) := fun H1 e1 Q q =>
  ha H1 e1 _ fun v H2 e2 hv => ⟨v, .ty n, tyD d, .type n, b, rfl, .ty n, rp_ty hv hn, hk, q _ H2 e2 (.bl _)⟩
abbrev rJoin (K : PySem.W.Frag) : V → List V → Hp → VK → Prop := fun x xs H Q => ∃ a p, ∃ ys : List Str, x = .str a ∧ xs = [.ref p] ∧ (SqL K H p (ys.map V.str) ∨ SqT K H p (ys.map V.str)) ∧ (ys.map (·.length)).sum + ys.length * a.length ≤ 16777216 ∧ Q (.str (Txt.join a ys)) H
theorem ev_joinL {a : Str} {ys : List Str} (hz : (ys.map (·.length)).sum + ys.length * a.length ≤ 16777216) (ha : EvD K ta σ H (.str a)) (hb : EvD K tb σ H (.list (ys.map .str))) : EvD K (tM1 (rJoin K) ta tb) σ H (.str (Txt.join a ys)) := fun H1 e1 Q q =>
  ha H1 e1 _ fun v H2 e2 hv => by
    cases hv
    refine ⟨⟨a, rfl⟩, hb H2 (e1.trans e2) _ fun w H3 e3 hw => ?_⟩
    cases hw with
    | lst hs hr =>
      have e := hr.strs
      subst e
      exact ⟨a, _, ys, rfl, rfl, .inl (SqL.of hs), hz, q _ H3 (e2.trans e3) (.str _)⟩
theorem ev_joinT {a : Str} {ys : List Str} (hz : (ys.map (·.length)).sum + ys.length * a.length ≤ 16777216) (ha : EvD K ta σ H (.str a)) (hb : EvD K tb σ H (.tuple (ys.map .str))) : EvD K (tM1 (rJoin K) ta tb) σ H (.str (Txt.join a ys)) := fun H1 e1 Q q =>
  ha H1 e1 _ fun v H2 e2 hv => by
    cases hv
    refine ⟨⟨a, rfl⟩, hb H2 (e1.trans e2) _ fun w H3 e3 hw => ?_⟩
    cases hw with
    | tup hs hr =>
      have e := hr.strs
      subst e
      exact ⟨a, _, ys, rfl, rfl, .inr hs, hz, q _ H3 (e2.trans e3) (.str _)⟩
end
end K7

set_option Elab.async false
set_option linter.all false
set_option maxRecDepth 100000
set_option maxHeartbeats 4000000
namespace K7
open PySem PySem.Spec PyProof.Rows L2

/-! ### flat data says itself in any heap -/
def scD : PyData → Bool
  | .none => true
  | .bool _ => true
  | .int _ => true
  | .str _ => true
  | _ => false
theorem Rp.sc {K : PySem.W.Frag} {H : Hp} {v : V} {d : PyData} (h : Rp K H v d) (s : scD d = true) (H' : Hp) : Rp K H' v d := by
  cases h with
  | non => exact .non
  | bl b => exact .bl b
  | int i => exact .int i
  | str x => exact .str x
  | lst _ _ => simp [scD] at s
  | tup _ _ => simp [scD] at s
  | lots _ _ _ => simp [scD] at s
theorem RpAll.sc {K : PySem.W.Frag} {H : Hp} : ∀ {vs : List V} {ds : List PyData}, RpAll K H vs ds → (∀ d ∈ ds, scD d = true) → ∀ H', RpAll K H' vs ds
  | _, _, .nil, _, _ => .nil
  | _, _, .cons r t, s, H' => .cons (r.sc (s _ List.mem_cons_self) H') (RpAll.sc t (fun d hd => s d (List.mem_cons_of_mem _ hd)) H')
theorem RpAll.snoc {K : PySem.W.Frag} {H : Hp} {vs : List V} {ds : List PyData} {v : V} {d : PyData} (h : RpAll K H vs ds) (r : Rp K H v d) : RpAll K H (vs ++ [v]) (ds ++ [d]) := h.append (.cons r .nil)

section
variable {K : PySem.W.Frag} {σ : L2.St} {H H' : Hp} {ta tb te : TE} {t u : TT} {ts : TA} {d e f r : PyData} {i j : Int} {b c : Bool} {wi : TI} {ds : List PyData}
/-! ### what is walked -/
theorem ei_list (h : EvD K te σ H (.list ds)) : EvI K (iList K te) σ H ds := fun H1 e1 R q => h H1 e1 _ fun v H2 e2 hv => by
  cases hv with
  | lst hs hr =>
    refine ⟨_, rfl, ⟨_, SqL.of hs⟩, q _ H2 e2 ⟨_, _, by rw [← hr.length]; exact walk_list, SqL.of hs, fun _ _ e z => e.seq z, fun k H3 x H4 e3 hk y => ?_⟩⟩
    obtain ⟨rfl, hx⟩ := y
    obtain ⟨d, h1, h2⟩ := hr.got hx
    exact ⟨Same.refl _, d, h1, h2.mono e3⟩
theorem ei_tup (h : EvD K te σ H (.tuple ds)) : EvI K (iTup K te) σ H ds := fun H1 e1 R q => h H1 e1 _ fun v H2 e2 hv => by
  cases hv with
  | tup hs hr =>
    refine ⟨_, rfl, ⟨_, hs⟩, q _ H2 e2 ⟨_, _, by rw [← hr.length]; exact walk_tup, hs, fun _ _ e z => same_t e z, fun k H3 x H4 e3 hk y => ?_⟩⟩
    obtain ⟨rfl, hx⟩ := y
    obtain ⟨d, h1, h2⟩ := hr.got hx
    exact ⟨Same.refl _, d, h1, h2.mono e3⟩
def signs (z : Str) : List PyData := z.cps.toList.map fun c => PyData.str ⟨#[c]⟩
theorem ei_str {z : Str} (h : EvD K te σ H (.str z)) : EvI K (iStr te) σ H (signs z) := fun H1 e1 R q => h H1 e1 _ fun v H2 e2 hv => by
  cases hv
  refine ⟨z, rfl, q _ H2 e2 ⟨_, _, by rw [show (signs z).length = z.cps.size by simp [signs]]; exact walk_str, trivial, fun _ _ _ _ => trivial, fun k H3 x H4 e3 hk y => ?_⟩⟩
  obtain ⟨rfl, c, hx, rfl⟩ := y
  exact ⟨Same.refl _, .str ⟨#[c]⟩, by simp [signs, hx], .str _⟩
def upto (lo : Int) (n : Nat) : List PyData := (List.range n).map fun (k : Nat) => PyData.int (lo + k)
theorem ei_rng {J : Int} {n : Nat} (H2 : Hp) : WalksD K (Itr J n) H2 (upto J n) := by
  refine ⟨_, _, by rw [show (upto J n).length = n by simp [upto]]; exact walk_range, trivial, fun _ _ _ _ => trivial, fun k H3 x H4 e3 hk y => ?_⟩
  obtain ⟨rfl, rfl⟩ := y
  have hk' : k < n := by simpa [upto] using hk
  exact ⟨Same.refl _, .int (J + k), by simp [upto, hk'], .int _⟩
theorem ei_range1 (h0 : -(2 ^ 62) ≤ i) (h1 : i < 2 ^ 62) (h : EvD K te σ H (.int i)) : EvI K (iRng1 (tCons te tNil)) σ H (upto 0 i.toNat) := fun H1 e1 R q => h H1 e1 _ fun v H2 e2 hv => by
  cases hv
  exact ⟨i, rfl, h0, h1, q _ H2 e2 (ei_rng H2)⟩
theorem ei_range2 (hb : -(2 ^ 62) ≤ i ∧ i < 2 ^ 62 ∧ -(2 ^ 62) ≤ j ∧ j < 2 ^ 62) (h : EvD K ta σ H (.int i)) (h' : EvD K tb σ H (.int j)) : EvI K (iRng2 (tCons ta (tCons tb tNil))) σ H (upto i (j - i).toNat) := fun H1 e1 R q => h H1 e1 _ fun v H2 e2 hv => h' H2 (e1.trans e2) _ fun w H3 e3 hw => by
  cases hv; cases hw
  exact ⟨i, j, rfl, hb, q _ H3 (e2.trans e3) (ei_rng H3)⟩
/-! ### comprehensions of flat elements -/
/-- what is new -/
def EvNew (K : PySem.W.Frag) (te : TE) (σ : L2.St) (H : Hp) (d : PyData) : Prop := ∀ H1, Same H H1 → ∀ Q : VK, (∀ p H2, Same H1 H2 → H1 p = none → Rp K H2 (.ref p) d → Q (.ref p) H2) → te σ H1 Q
theorem EvNew.ev (h : EvNew K te σ H d) : EvD K te σ H d := fun H1 e1 Q q => h H1 e1 Q fun p H2 e2 _ hv => q _ H2 e2 hv
theorem lc_endN {g : TG} {tt : TT} {vs : List Nat} {b : PyData → Bool} {f : PyData → PyData} (hI : EvI K wi σ H ds) (hz : ds.length ≤ 100000)
    (hsc : ∀ d ∈ ds, b d = true → scD (f d) = true)
    (hg : ∀ d v H1, d ∈ ds → Same H H1 → Rp K H1 v d → ∀ Q : L2.St → Hp → Prop, (∀ σ2 H2, Same H1 H2 → wipe σ2 vs = wipe σ vs → EvT tt σ2 H2 (b d) → (b d = true → EvD K te σ2 H2 (f d)) → Q σ2 H2) → g v (wipe σ vs) H1 Q) :
    EvNew K (tLc wi g tt te vs) σ H (.list ((ds.filter b).map f)) := by
  intro H1 e1 Q q
  refine hI H1 e1 _ fun J H2 e2 W => ?_
  obtain ⟨G, Y, w, g0, gs, gy⟩ := W.ex
  intro D hD
  have e12 := e1.trans e2
  refine lc_it w (Pv := fun k H' => Same H2 H' ∧ ∃ acc, H' D = some (.lst acc) ∧ RpAll K H' acc (((ds.take k).filter b).map f)) ⟨same_new hD, [], upd_same, .nil⟩ (fun k H' _ p => gs _ _ p.1 g0) (fun k x H3 H4 hk p y => ?_) fun H' p => ?_
  · obtain ⟨e3, acc, hacc, hr⟩ := p
    obtain ⟨e4, d, hd, hx⟩ := gy k H3 x H4 e3 hk y
    have hmem : d ∈ ds := List.mem_of_getElem? hd
    have htk : ds.take (k + 1) = ds.take k ++ [d] := by rw [List.take_add_one, hd]; rfl
    have hlen : acc.length < sizeLine := by
      have h1 := hr.length
      have h2 : ((ds.take k).filter b).length ≤ (ds.take k).length := List.length_filter_le _ _
      rw [List.length_map] at h1
      rw [List.length_take] at h2
      rw [sizeLine_eq]
      omega
    have hflat : ∀ z ∈ ((ds.take k).filter b).map f, scD z = true := fun z hz => by
      obtain ⟨y, hy, rfl⟩ := List.mem_map.mp hz
      obtain ⟨h1, h2⟩ := List.mem_filter.mp hy
      exact hsc y (List.mem_of_mem_take h1) h2
    refine hg d x H4 hmem ((e12.trans e3).trans e4) hx _ fun σ2 H5 e5 hw ht hf => ⟨hw, ht H5 (Same.refl _) _ fun H6 e6 => ?_⟩
    have eAll : Same H3 H6 := (e4.trans e5).trans e6
    by_cases hb : b d = true
    · rw [if_pos hb]
      refine hf hb H6 e6 _ fun y H7 e7 hy => ⟨acc, (eAll.trans e7) _ _ hacc, hlen, same_mut ((e3.trans eAll).trans e7) hD, _, upd_same, ?_⟩
      rw [htk, List.filter_append, List.map_append]
      refine RpAll.append (hr.sc hflat _) ?_
      rw [List.filter_cons, if_pos hb]
      exact .cons (hy.sc (hsc d hmem hb) _) .nil
    · rw [if_neg hb]
      refine ⟨e3.trans eAll, acc, eAll _ _ hacc, ?_⟩
      rw [htk, List.filter_append, List.map_append, List.filter_cons, if_neg hb]
      simpa using hr.sc hflat H6
  · obtain ⟨e3, acc, hacc, hr⟩ := p
    rw [List.take_length] at hr
    exact q _ H' (e2.trans e3) (e2.free hD) (.lst hacc hr)
theorem lc_end {g : TG} {tt : TT} {vs : List Nat} {b : PyData → Bool} {f : PyData → PyData} (hI : EvI K wi σ H ds) (hz : ds.length ≤ 100000)
    (hsc : ∀ d ∈ ds, b d = true → scD (f d) = true)
    (hg : ∀ d v H1, d ∈ ds → Same H H1 → Rp K H1 v d → ∀ Q : L2.St → Hp → Prop, (∀ σ2 H2, Same H1 H2 → wipe σ2 vs = wipe σ vs → EvT tt σ2 H2 (b d) → (b d = true → EvD K te σ2 H2 (f d)) → Q σ2 H2) → g v (wipe σ vs) H1 Q) :
    EvD K (tLc wi g tt te vs) σ H (.list ((ds.filter b).map f)) := (lc_endN hI hz hsc hg).ev
theorem wipe_set (σ : L2.St) (k : Nat) (v : Option V) : wipe ((wipe σ [k]).set k v) [k] = wipe σ [k] := by
  simp [wipe, List.set_set]
/-- the target a name -/
theorem ev_lcFN {k : Nat} {tt : TT} {b : PyData → Bool} {f : PyData → PyData} (hI : EvI K wi σ H ds) (hz : ds.length ≤ 100000)
    (hsc : ∀ d ∈ ds, b d = true → scD (f d) = true)
    (hb : ∀ d v H1, d ∈ ds → Same H H1 → Rp K H1 v d → EvT tt ((wipe σ [k]).set k (some v)) H1 (b d))
    (hf : ∀ d v H1, d ∈ ds → Same H H1 → Rp K H1 v d → b d = true → EvD K te ((wipe σ [k]).set k (some v)) H1 (f d)) :
    EvNew K (tLc wi (gName k) tt te [k]) σ H (.list ((ds.filter b).map f)) :=
  lc_endN hI hz hsc fun d v H1 hd e1 hv Q q => q _ H1 (Same.refl _) (wipe_set σ k _) (hb d v H1 hd e1 hv) (hf d v H1 hd e1 hv)
theorem ev_lcF {k : Nat} {tt : TT} {b : PyData → Bool} {f : PyData → PyData} (hI : EvI K wi σ H ds) (hz : ds.length ≤ 100000)
    (hsc : ∀ d ∈ ds, b d = true → scD (f d) = true)
    (hb : ∀ d v H1, d ∈ ds → Same H H1 → Rp K H1 v d → EvT tt ((wipe σ [k]).set k (some v)) H1 (b d))
    (hf : ∀ d v H1, d ∈ ds → Same H H1 → Rp K H1 v d → b d = true → EvD K te ((wipe σ [k]).set k (some v)) H1 (f d)) :
    EvD K (tLc wi (gName k) tt te [k]) σ H (.list ((ds.filter b).map f)) :=
  (ev_lcFN hI hz hsc hb hf).ev
/-- without a test -/
theorem ev_lc {k : Nat} {f : PyData → PyData} (hI : EvI K wi σ H ds) (hz : ds.length ≤ 100000) (hsc : ∀ d ∈ ds, scD (f d) = true)
    (hf : ∀ d v H1, d ∈ ds → Same H H1 → Rp K H1 v d → EvD K te ((wipe σ [k]).set k (some v)) H1 (f d)) :
    EvD K (tLc wi (gName k) tYes te [k]) σ H (.list (ds.map f)) := by
  have h := ev_lcF (b := fun _ => true) (f := f) (te := te) (tt := tYes) (k := k) hI hz (fun d hd _ => hsc d hd) (fun d v H1 hd e1 hv => fun H2 _ Q q => q H2 (Same.refl _)) (fun d v H1 hd e1 hv _ => hf d v H1 hd e1 hv)
  rw [List.filter_eq_self.mpr (fun _ _ => rfl)] at h
  exact h
theorem wipe_set2 (σ : L2.St) (k l : Nat) (v w : Option V) : wipe (((wipe σ [k, l]).set k v).set l w) [k, l] = wipe σ [k, l] := by
  apply List.ext_getElem?
  intro i
  simp only [wipe, List.getElem?_set, List.length_set]
  by_cases h1 : k = i
  · by_cases h2 : l = i
    · simp [h1, h2]
    · simp [h1, h2]
  · by_cases h2 : l = i
    · simp [h1, h2]
    · simp [h1, h2]
/-- the target a pair of names -/
theorem ev_lcP {k l : Nat} {f : PyData → PyData} (hI : EvI K wi σ H ds) (hz : ds.length ≤ 100000) (hsc : ∀ d ∈ ds, scD (f d) = true)
    (hp : ∀ d ∈ ds, ∃ x y, d = .tuple [x, y])
    (hf : ∀ x y v w H1, .tuple [x, y] ∈ ds → Same H H1 → Rp K H1 v x → Rp K H1 w y → EvD K te (((wipe σ [k, l]).set k (some v)).set l (some w)) H1 (f (.tuple [x, y]))) :
    EvD K (tLc wi (gTup K 2 (gCons (gName k) (gCons (gName l) gNil))) tYes te [k, l]) σ H (.list (ds.map f)) := by
  have h := lc_end (b := fun _ => true) (f := f) (te := te) (tt := tYes) (vs := [k, l]) (g := gTup K 2 (gCons (gName k) (gCons (gName l) gNil))) hI hz (fun d hd _ => hsc d hd) (fun d v H1 hd e1 hv Q q => by
    obtain ⟨x, y, rfl⟩ := hp d hd
    cases hv with
    | tup hs hr =>
      cases hr with
      | cons h1 h2 =>
        cases h2 with
        | cons h3 h4 =>
          cases h4
          exact ⟨_, _, rfl, hs, rfl, _, _, rfl, _, _, rfl, rfl, q _ H1 (Same.refl _) (wipe_set2 σ k l _ _) (fun H2 _ Q q => q H2 (Same.refl _)) fun _ => hf x y _ _ H1 hd e1 h1 h3⟩)
  rw [List.filter_eq_self.mpr (fun _ _ => rfl)] at h
  exact h

/-! ### statements that lay and store, no more -/
end
def EvB (K : PySem.W.Frag) (t : TS) (σ : L2.St) (H : Hp) (r : PyData) : Prop := ∀ H1, Same H H1 → ∀ D : Ends, (∀ v H2, Same H1 H2 → Rp K H2 v r → D.rt v H2) → t D σ H1
def EvS (t : TS) (σ : L2.St) (H : Hp) (P : L2.St → Hp → Prop) : Prop := ∀ H1, Same H H1 → ∀ D : Ends, (∀ σ' H2, Same H1 H2 → P σ' H2 → D.nx σ' H2) → t D σ H1
section
variable {K : PySem.W.Frag} {σ : L2.St} {H H' : Hp} {ta tb te : TE} {c : TT} {t u w : TS} {d e f r : PyData} {b : Bool} {P : L2.St → Hp → Prop}
theorem EvB.mono (h : EvB K t σ H r) (e : Same H H') : EvB K t σ H' r := fun H1 a D q => h H1 (e.trans a) D q
theorem eb_ret (h : EvD K te σ H r) : EvB K (tRet te) σ H r := fun H1 e1 D q => h H1 e1 _ fun v H2 e2 hv => q v H2 e2 hv
theorem eb_retS (h : EvD K te σ H r) : EvB K (tSeq (tRet te) u) σ H r := fun H1 e1 D q => h H1 e1 _ fun v H2 e2 hv => q v H2 e2 hv
theorem eb_next (h : EvB K u σ H r) : EvB K (tSeq tNext u) σ H r := fun H1 e1 D q => h H1 e1 D q
theorem eb_if (hc : EvT c σ H b) (h1 : b = true → EvB K t σ H r) (h2 : b = false → EvB K u σ H r) : EvB K (tIfS c t u) σ H r := fun H1 e1 D q => hc H1 e1 _ fun H2 e2 => by
  cases b with
  | true => exact iteT (h1 rfl H2 (e1.trans e2) D fun v H3 e3 hv => q v H3 (e2.trans e3) hv)
  | false => exact iteF (h2 rfl H2 (e1.trans e2) D fun v H3 e3 hv => q v H3 (e2.trans e3) hv)
theorem eb_ifS (hc : EvT c σ H b) (h1 : b = true → EvB K (tSeq t w) σ H r) (h2 : b = false → EvB K (tSeq u w) σ H r) : EvB K (tSeq (tIfS c t u) w) σ H r := fun H1 e1 D q => hc H1 e1 _ fun H2 e2 => by
  cases b with
  | true => exact iteT (h1 rfl H2 (e1.trans e2) D fun v H3 e3 hv => q v H3 (e2.trans e3) hv)
  | false => exact iteF (h2 rfl H2 (e1.trans e2) D fun v H3 e3 hv => q v H3 (e2.trans e3) hv)
theorem eb_seq (ht : EvS t σ H P) (hu : ∀ σ' H', Same H H' → P σ' H' → EvB K u σ' H' r) : EvB K (tSeq t u) σ H r := fun H1 e1 D q =>
  ht H1 e1 _ fun σ' H2 e2 p => hu σ' H2 (e1.trans e2) p H2 (Same.refl _) D fun v H3 e3 hv => q v H3 (e2.trans e3) hv
theorem es_set {k : Nat} (h : EvD K te σ H d) : EvS (tAsg te (gName k)) σ H (fun σ' H' => ∃ v, Rp K H' v d ∧ σ' = σ.set k (some v)) := fun H1 e1 D q => h H1 e1 _ fun v H2 e2 hv => q _ H2 e2 ⟨v, hv, rfl⟩
theorem eb_set {k : Nat} (h : EvD K te σ H d) (hu : ∀ v H', Same H H' → Rp K H' v d → EvB K u (σ.set k (some v)) H' r) : EvB K (tSeq (tAsg te (gName k)) u) σ H r :=
  eb_seq (es_set h) fun σ' H' e1 ⟨v, hv, es⟩ => by subst es; exact hu v H' e1 hv
theorem eb_setI {k : Nat} {i : Int} (h : EvD K te σ H (.int i)) (hu : EvB K u (σ.set k (some (.int i))) H r) : EvB K (tSeq (tAsg te (gName k)) u) σ H r :=
  eb_set h fun v H' e hv => by cases hv; exact hu.mono e
theorem eb_setS {k : Nat} {i : Str} (h : EvD K te σ H (.str i)) (hu : EvB K u (σ.set k (some (.str i))) H r) : EvB K (tSeq (tAsg te (gName k)) u) σ H r :=
  eb_set h fun v H' e hv => by cases hv; exact hu.mono e
/-! ### defs that lay, and give data -/
def spD (K : PySem.W.Frag) (P : List PyData → PyData → Prop) : Sp := fun vs H Q _ => ∃ ds r, RpAll K H vs ds ∧ P ds r ∧ ∀ v H', Same H H' → Rp K H' v r → Q v H'
theorem ev_call {P : List PyData → PyData → Prop} {E : XK} {ts : TA} {ds : List PyData} (hs : EvA K ts σ H ds) (hP : P ds r) : EvD K (tCall (spD K P) [] E ts) σ H r := fun H1 e1 Q q =>
  hs H1 e1 _ fun vs H2 e2 hv => ⟨ds, r, by rw [List.append_nil]; exact hv, hP, fun v H3 e3 hv' => q v H3 (e2.trans e3) hv'⟩
/-- from what the body evaluates to: the promise's reading -/
theorem spD_body {P : List PyData → PyData → Prop} {N : List Str} {t : TS} (h : ∀ vs H ds r, RpAll K H vs ds → P ds r → EvB K t (start N vs) H r) (vs : List V) (H : Hp) (Q : VK) (E : XK) (hs : spD K P vs H Q E) :
    t { nx := fun _ H' => Q .non H', rt := Q } (start N vs) H := by
  obtain ⟨ds, r, hv, hP, q⟩ := hs
  exact h vs H ds r hv hP H (Same.refl H) _ fun v H2 e2 hr => q v H2 e2 hr
end
/-! ### == of flat things, of data -/
def rEqU (K : PySem.W.Frag) : R2 := fun x y H Q => rEq x y H Q ∨ rEqD K x y H Q
def rNeU (K : PySem.W.Frag) : R2 := fun x y H Q => rNe x y H Q ∨ rNeD K x y H Q
theorem op_eqU {X : Cx} (hu : X.A.units + 64 < cLine) : OpR X (compareOp .Eq) (rEqU X.K) := OpR.or op_eq (op_eqD hu)
theorem op_neU {X : Cx} (hu : X.A.units + 64 < cLine) : OpR X (compareOp .NotEq) (rNeU X.K) := OpR.or op_ne (op_neD hu)
section
variable {K : PySem.W.Frag} {σ : L2.St} {H H' : Hp} {ta tb : TE} {d e : PyData} {i j : Int} {x y : Str} {b c : Bool}
theorem ev_eqI (ha : EvD K ta σ H (.int i)) (hb : EvD K tb σ H (.int j)) : EvD K (tOp (rEqU K) ta tb) σ H (.bool (decide (i = j))) :=
  ev_op2 ha hb fun v w H1 e1 hv hw Q q => by
    cases hv; cases hw
    refine .inl ⟨rfl, ?_⟩
    have z : decide (V.int i = V.int j) = decide (i = j) := by simp
    rw [z]
    exact q _ H1 (Same.refl H1) (.bl _)
theorem ev_neI (ha : EvD K ta σ H (.int i)) (hb : EvD K tb σ H (.int j)) : EvD K (tOp (rNeU K) ta tb) σ H (.bool (!decide (i = j))) :=
  ev_op2 ha hb fun v w H1 e1 hv hw Q q => by
    cases hv; cases hw
    refine .inl ⟨rfl, ?_⟩
    have z : decide (V.int i = V.int j) = decide (i = j) := by simp
    rw [z]
    exact q _ H1 (Same.refl H1) (.bl _)
theorem ev_eqS (ha : EvD K ta σ H (.str x)) (hb : EvD K tb σ H (.str y)) : EvD K (tOp (rEqU K) ta tb) σ H (.bool (decide (x = y))) :=
  ev_op2 ha hb fun v w H1 e1 hv hw Q q => by
    cases hv; cases hw
    refine .inl ⟨rfl, ?_⟩
    have z : decide (V.str x = V.str y) = decide (x = y) := by simp
    rw [z]
    exact q _ H1 (Same.refl H1) (.bl _)
theorem ev_neS (ha : EvD K ta σ H (.str x)) (hb : EvD K tb σ H (.str y)) : EvD K (tOp (rNeU K) ta tb) σ H (.bool (!decide (x = y))) :=
  ev_op2 ha hb fun v w H1 e1 hv hw Q q => by
    cases hv; cases hw
    refine .inl ⟨rfl, ?_⟩
    have z : decide (V.str x = V.str y) = decide (x = y) := by simp
    rw [z]
    exact q _ H1 (Same.refl H1) (.bl _)
theorem ev_eqG (sd : SeqAt.shaped d = true) (se : SeqAt.shaped e = true) (ha : EvD K ta σ H d) (hb : EvD K tb σ H e) : EvD K (tOp (rEqU K) ta tb) σ H (.bool (PyData.eqv d e)) :=
  ev_op2 ha hb fun v w H1 e1 hv hw Q q => .inr ⟨d, e, hv.dp (noI_of sd), hw.dp (noI_of se), sd, se, q _ H1 (Same.refl H1) (.bl _)⟩
theorem ev_neG (sd : SeqAt.shaped d = true) (se : SeqAt.shaped e = true) (ha : EvD K ta σ H d) (hb : EvD K tb σ H e) : EvD K (tOp (rNeU K) ta tb) σ H (.bool (!PyData.eqv d e)) :=
  ev_op2 ha hb fun v w H1 e1 hv hw Q q => .inr ⟨d, e, hv.dp (noI_of sd), hw.dp (noI_of se), sd, se, q _ H1 (Same.refl H1) (.bl _)⟩
/-- a value that is known to be this: a rewriting of the data -/
theorem EvD.as {te : TE} (h : EvD K te σ H d) (z : d = e) : EvD K te σ H e := z ▸ h
theorem EvT.as {t : TT} (h : EvT t σ H b) (z : b = c) : EvT t σ H c := z ▸ h
theorem ev_allT {ts : List PyData} {te : TE} (ha : EvD K te σ H (.list (ts.map fun _ => PyData.bool true))) : EvD K (tCB (rAll K) (tCons te tNil)) σ H (.bool true) := by
  have h := ev_all (bs := ts.map fun _ => true) (ta := te) (σ := σ) (H := H) (K := K) (ha.as (by simp))
  exact h.as (by simp)
end
/-! ### the rules with the written part named -/
section
variable {X : Cx} {K : PySem.W.Frag} {e e2 : Expr} {es : List Expr} {te ta tb : TE} {t : TA} {pos p apos : Pos} {tg : Expr}
theorem addU (hK : X.K = K := by rfl) : OpR X (binaryOp .Add) (rAddU K) := by cases hK; exact op_addU
theorem inU (hK : X.K = K := by rfl) : OpR X (compareOp .In) (rInU K) := by cases hK; exact op_inU
theorem niU (hK : X.K = K := by rfl) : OpR X (compareOp .NotIn) (rNiU K) := by cases hK; exact op_niU
theorem eqU (hu : X.A.units + 64 < cLine) (hK : X.K = K := by rfl) : OpR X (compareOp .Eq) (rEqU K) := by cases hK; exact op_eqU hu
theorem neU (hu : X.A.units + 64 < cLine) (hK : X.K = K := by rfl) : OpR X (compareOp .NotEq) (rNeU K) := by cases hK; exact op_neU hu
theorem slU (hK : X.K = K := by rfl) : SlR X (rSlU K) := by cases hK; exact sl_U
theorem ixU (hK : X.K = K := by rfl) : IxR X (rIx K) := by cases hK; exact ix_seq
theorem lenU (hK : X.K = K := by rfl) : CallR X (.builtin "len") (rLen K) := by cases hK; exact call_len
theorem isiU (hK : X.K = K := by rfl) : CallR X (.builtin "isinstance") (rIsi K) := by cases hK; exact call_isi
theorem allU (hc : X.calm = true) (hK : X.K = K := by rfl) : CallR X (.builtin "all") (rAll K) := by cases hK; exact cr_all hc
theorem anyU (hc : X.calm = true) (hK : X.K = K := by rfl) : CallR X (.builtin "any") (rAny K) := by cases hK; exact cr_any hc
theorem sumU (hc : X.calm = true) (hK : X.K = K := by rfl) : CallR X (.builtin "sum") (rSum K) := by cases hK; exact cr_sum hc
theorem maxU (hc : X.calm = true) (hK : X.K = K := by rfl) : CallR X (.builtin "max") (rMax K) := by cases hK; exact cr_max hc
theorem tupU (hK : X.K = K := by rfl) : CallR X (.type "tuple") (rTupOf K) := by cases hK; exact call_tuple_of
theorem joinU (ho : PE X e te) (he : PE X e2 ta) (hK : X.K = K := by rfl) (hs : starEach [e2] X.env = [(false, eval e2 X.env)] := by rfl) (hbase : attributeBase e "join" X.env (eval e X.env) = eval e X.env := by rfl) (hline : (apos.endLine == pos.line) = true := by rfl) :
    PE X (.Call (.Attribute e "join" apos) [e2] [] pos) (tM1 (rJoin K) te ta) := by cases hK; exact pe_join ho he hs hbase hline
theorem lstU (h : PE X e te) (hK : X.K = K := by rfl) : PI X tg e (iList K te) := by cases hK; exact pi_list h
theorem tplU (h : PE X e te) (hK : X.K = K := by rfl) : PI X tg e (iTup K te) := by cases hK; exact pi_tup h
theorem gtupU {k n : Nat} {u : TGs} (hc : X.calm = true) (h : PGs X es u) (hK : X.K = K := by rfl) (hn : (assignEach es X.env).length = n := by rfl) (hst : (assignEach es X.env).findIdx? (·.1) = none := by rfl) : PG X (.Tuple es k pos) (gTup K n u) := by cases hK; exact pg_tup hc h hn hst
theorem starU (he : PE X e te) (hr : PA X es t) (hK : X.K = K := by rfl) (hs : starEach (.Starred e p :: es) X.env = (true, eval e X.env) :: starEach es X.env := by rfl) : PA X (.Starred e p :: es) (StX.tStar K te t) := by cases hK; exact StX.pa_star he hr hs
end
end K7

set_option Elab.async false
set_option linter.all false
set_option maxRecDepth 100000
set_option maxHeartbeats 4000000
namespace K7
open PySem
/-! ### lots: ascending texts of one to eight letters -/
def cods (z : Str) : List Nat := z.cps.toList
def mkS (l : List Nat) : Str := ⟨l.toArray⟩
theorem cods_mk (l : List Nat) : cods (mkS l) = l := by simp [cods, mkS]
theorem mk_cods (z : Str) : mkS (cods z) = z := by cases z; simp [cods, mkS]
theorem cods_inj {a b : Str} (h : cods a = cods b) : a = b := by rw [← mk_cods a, ← mk_cods b, h]
theorem len_cods (z : Str) : z.length = (cods z).length := by simp [cods, Str.length]
def az (c : Nat) : Prop := 97 ≤ c ∧ c ≤ 122
instance (c : Nat) : Decidable (az c) := by unfold az; infer_instance
structure Lot (z : Str) : Prop where
  ne : cods z ≠ []
  up : (cods z).Pairwise (· < ·)
  az : ∀ c ∈ cods z, az c
  le : (cods z).length ≤ 8
theorem letters_cods : ("abcdefghijklmnopqrstuvwxyz" : Str).cps.toList = List.range' 97 26 := by decide +kernel
theorem az_letters {c : Nat} : c ∈ ("abcdefghijklmnopqrstuvwxyz" : Str).cps.toList ↔ az c := by
  rw [letters_cods, List.mem_range'_1]
  unfold az
  omega
theorem lt_one (a b : Nat) : decide ((⟨#[a]⟩ : Str).cps.toList < (⟨#[b]⟩ : Str).cps.toList) = decide (a < b) := by
  by_cases h : a < b
  · rw [decide_eq_true h]
    apply decide_eq_true
    show [a] < [b]
    exact List.Lex.rel h
  · rw [decide_eq_false h]
    apply decide_eq_false
    intro z
    have z' : [a] < [b] := z
    cases z' with
    | rel q => exact h q
    | cons q => cases q
theorem mem_signs {z : Str} {d : PyData} (h : d ∈ signs z) : ∃ c ∈ cods z, d = .str ⟨#[c]⟩ := by
  obtain ⟨c, hc, e⟩ := List.mem_map.mp h
  exact ⟨c, hc, e.symm⟩
theorem mem_upto {lo : Int} {n : Nat} {d : PyData} (h : d ∈ upto lo n) : ∃ k, k < n ∧ d = .int (lo + (k : Nat)) := by
  obtain ⟨k, hk, e⟩ := List.mem_map.mp h
  exact ⟨k, List.mem_range.mp hk, e.symm⟩
theorem signs_len (z : Str) : (signs z).length = z.length := by simp [signs, Str.length]
theorem upto_len (lo : Int) (n : Nat) : (upto lo n).length = n := by simp [upto]
theorem Lot.size {z : Str} (h : Lot z) : z.length ≤ 8 := by rw [len_cods]; exact h.le
theorem Lot.pos {z : Str} (h : Lot z) : 0 < z.length := by
  rw [len_cods]
  exact List.length_pos_iff.mpr h.ne
theorem sz {n : Nat} (h : n ≤ 100000) : n ≤ sizeLine := by rw [sizeLine_eq]; omega
theorem Lot.notEmpty {z : Str} (h : Lot z) : z ≠ ("" : Str) := fun e => h.ne (by rw [e]; decide)
theorem pw_get {l : List Nat} (h : l.Pairwise (· < ·)) {i j : Nat} {a b : Nat} (hi : l[i]? = some a) (hj : l[j]? = some b) (hij : i < j) : a < b := by
  obtain ⟨h1, e1⟩ := List.getElem?_eq_some_iff.mp hi
  obtain ⟨h2, e2⟩ := List.getElem?_eq_some_iff.mp hj
  rw [← e1, ← e2]
  exact List.pairwise_iff_getElem.mp h i j h1 h2 hij
/-! ### data that is short -/
theorem ok_str {z : Str} (h : ∀ c ∈ cods z, c < 1114112) : (PyData.str z).canLay0 = true := by
  show z.cps.all (· < 0x110000) = true
  rw [← Array.all_toList, List.all_eq_true]
  exact fun c hc => decide_eq_true (h c hc)
theorem canAll {ds : List PyData} (h : ∀ d ∈ ds, d.canLay0 = true) : PyData.canLayAll0 ds = true := by
  induction ds with
  | nil => rfl
  | cons d r ih =>
    show (d.canLay0 && PyData.canLayAll0 r) = true
    rw [h d List.mem_cons_self, ih fun e he => h e (List.mem_cons_of_mem _ he)]
    rfl
theorem depthAll_le {ds : List PyData} {n : Nat} (h : ∀ d ∈ ds, d.depth ≤ n) : PyData.depthAll ds ≤ n := by
  induction ds with
  | nil => exact Nat.zero_le _
  | cons d r ih =>
    have h1 := h d List.mem_cons_self
    have h2 := ih fun e he => h e (List.mem_cons_of_mem _ he)
    show max d.depth (PyData.depthAll r) ≤ n
    omega
/-- data of at most this depth -/
def Shp (n : Nat) (d : PyData) : Prop := d.canLay0 = true ∧ d.depth ≤ n
theorem Shp.mono {n m : Nat} {d : PyData} (h : Shp n d) (l : n ≤ m) : Shp m d := ⟨h.1, Nat.le_trans h.2 l⟩
theorem shp_tup {n : Nat} {ds : List PyData} (h : ∀ d ∈ ds, Shp n d) : Shp (n + 1) (.tuple ds) := ⟨canAll fun d hd => (h d hd).1, Nat.succ_le_succ (depthAll_le fun d hd => (h d hd).2)⟩
theorem shp_list {n : Nat} {ds : List PyData} (h : ∀ d ∈ ds, Shp n d) : Shp (n + 1) (.list ds) := ⟨canAll fun d hd => (h d hd).1, Nat.succ_le_succ (depthAll_le fun d hd => (h d hd).2)⟩
theorem shp_str {z : Str} (h : ∀ c ∈ cods z, c < 1114112) : Shp 0 (.str z) := ⟨ok_str h, Nat.le_refl _⟩
theorem shp_int (i : Int) : Shp 0 (.int i) := ⟨rfl, Nat.le_refl _⟩
theorem Shp.ok {n : Nat} {d : PyData} (h : Shp n d) (l : n ≤ 64) : SeqAt.shaped d = true := by
  unfold SeqAt.shaped
  rw [h.1, decide_eq_true (Nat.le_trans h.2 l)]
  rfl
theorem shaped_tws {ws : List Str} (h : ∀ w ∈ ws, ∀ c ∈ cods w, c < 1114112) : SeqAt.shaped (.tuple (ws.map PyData.str)) = true :=
  (shp_tup (n := 0) fun d hd => by
    obtain ⟨w, hw, rfl⟩ := List.mem_map.mp hd
    exact shp_str (h w hw)).ok (by decide)
end K7

set_option Elab.async false
set_option linter.all false
set_option maxRecDepth 100000
set_option maxHeartbeats 4000000
namespace K7
open PySem PySem.Spec PyProof.Rows L2

/-! ### a set of texts, as set(text) makes it -/
def kyS (e : Int × Value) : Str := match e.2 with
  | .str k _ => k
  | _ => Str.empty
def OkE (w : World) (e : Int × Value) : Prop := ∃ k tk, e.2 = Value.str k tk ∧ e.1 = hashStr w k
def SetS (w : World) (h : Heap) (a : Addr) (S : Str → Bool) (n : Nat) : Prop :=
  ∃ o es ep t, h.get? a = some o ∧ (o.ExactSet ∧ o.data = .set es ep t) ∧ ((∀ e ∈ es.toList, OkE w e) ∧ (es.toList.map kyS).Nodup ∧ ∀ k, S k = true ↔ k ∈ es.toList.map kyS) ∧
    (es.size < scanBound ∧ t.fits es.size = true ∧ es.size = n) ∧ Ris t.place.toList ∧ (w.params.followText "set-order" = true ∨ t.led = true)
section
variable {P : Program} {w : World} {A : Around} {E : Value → Shared → Prop} {s : Shared} {h h' : Heap} {a : Addr} {S : Str → Bool} {n : Nat}
theorem SetS.moved (R : SetS w h a S n) (k : ∀ o, h.get? a = some o → h'.get? a = some o) : SetS w h' a S n := let ⟨o, es, ep, t, ho, r⟩ := R; ⟨o, es, ep, t, k o ho, r⟩
theorem SetS.same {S' : Str → Bool} (R : SetS w h a S n) (e : ∀ k, S' k = S k) : SetS w h a S' n := by
  cases (funext e : S' = S)
  exact R
theorem els_s {l : List (Int × Value)} (g : ∀ e ∈ l, OkE w e) : ElemsOf (strKind P w) l := fun e he =>
  let ⟨k, tk, z1, z2⟩ := g e he
  ⟨⟨k, by rw [z1]; exact strKind_is P w k tk, z2⟩, by rw [z1] <;> rfl⟩
theorem is_ky {e : Int × Value} (g : OkE w e) (k : Str) : (strKind P w).is k e.2 = true ↔ kyS e = k := by
  rcases g with ⟨own, tok, txt, _⟩
  simp only [kyS, txt]
  exact (beq_iff_eq : (own == k) = true ↔ own = k)
theorem mem_ky {l : List (Int × Value)} (g : ∀ e ∈ l, OkE w e) (k : Str) : k ∈ l.map kyS ↔ ∃ e ∈ l, (strKind P w).is k e.2 = true := by
  rw [List.mem_map]
  exact ⟨fun ⟨e, he, q⟩ => ⟨e, he, (is_ky (g e he) k).2 q⟩, fun ⟨e, he, q⟩ => ⟨e, he, (is_ky (g e he) k).1 q⟩⟩

theorem tail_s {g : Bool → Sem Unit} (hg : ∀ (b : Bool) (u : Shared) (F : Unit → Shared → Prop), F () u → wpAny (model P w) A (g b) F E u)
    {o : Obj} {ep : Nat} {t : SetTable} {es : Array (Int × Value)} (hex : o.ExactSet) (ho : s.heap.get? a = some o) (hd : o.data = .set es ep t)
    {fs : Array (Int × Value)} {tt : SetTable} {S' : Str → Bool} (gf : (∀ e ∈ fs.toList, OkE w e) ∧ (fs.toList.map kyS).Nodup ∧ ∀ k, S' k = true ↔ k ∈ fs.toList.map kyS)
    (hb : fs.size < scanBound) (hf : tt.fits fs.size = true) (hr : Ris tt.place.toList) (hl : w.params.followText "set-order" = true ∨ tt.led = true) {wd : Bool} {R : Option Bool → Shared → Prop}
    (hR : ∀ h', Heap.SameBut a s.heap h' → SetS w h' a S' fs.size → R (some true) { s with heap := h' }) :
    wpAny (model P w) A (do
        storeSet a fs tt
        if (!wd && tt.tooFull) = true then do
            g (relayAll tt fs (SetTable.grown fs.size)).2.2
            storeSet a (relayAll tt fs (SetTable.grown fs.size)).1 (relayAll tt fs (SetTable.grown fs.size)).2.1
            pure (some true) else pure (some true)) R E s := by
  refine wpAny_bind (wpAny_storeSet_of ho hd ?_ (fits_of_scanBound hb))
  have ho' := store_at (es' := fs) (t' := tt) ho hd
  have sb := Heap.SameBut.update s.heap a (Obj.putSet fs tt)
  split
  · have pm := relayAll_perm tt fs (SetTable.grown fs.size)
    have f3 := relayAll_fits tt fs (SetTable.grown fs.size)
    have r3 := relayAll_ris tt fs (SetTable.grown fs.size)
    have l3 := relayAll_led tt fs (SetTable.grown fs.size)
    generalize relayAll tt fs (SetTable.grown fs.size) = Z at pm f3 r3 l3 ⊢
    obtain ⟨es2, t3, gave⟩ := Z
    dsimp only at pm f3 r3 l3 ⊢
    have hsz : es2.size = fs.size := by rw [← Array.length_toList, pm.length_eq, Array.length_toList]
    have hb2 : es2.size < scanBound := hsz ▸ hb
    refine wpAny_bind (hg _ _ _ (wpAny_bind (wpAny_storeSet_of ho' rfl ?_ (fits_of_scanBound hb2))))
    have ho2 := store_at (es' := es2) (t' := t3) ho' rfl
    refine wpAny_pure (hR _ (sb.trans (Heap.SameBut.update _ a _)) ⟨_, es2, _, t3, ho2, ⟨hex, rfl⟩, ⟨fun e he => gf.1 e (pm.mem_iff.mp he), (pm.map kyS).nodup_iff.mpr gf.2.1, fun k => (gf.2.2 k).trans (pm.map kyS).mem_iff.symm⟩, ⟨hb2, f3, hsz⟩, r3, ?_⟩)
    exact hl.imp id fun z => by rw [l3]; exact z
  · exact wpAny_pure (hR _ sb ⟨_, fs, _, tt, ho', ⟨hex, rfl⟩, gf, ⟨hb, hf, rfl⟩, hr, hl⟩)

theorem add_s {k : Str} {tk : Tok} {Q : Bool → Shared → Prop} (R : SetS w s.heap a S n) (room : n + 1 < scanBound)
    (hQ : ∀ h', Heap.SameBut a s.heap h' → SetS w h' a (fun j => S j || decide (j = k)) (if S k = true then n else n + 1) → Q (!S k) { s with heap := h' }) :
    wpAny (model P w) A (setAddHashed a (.str k tk) ((strKind P w).hash k)) Q E s := by
  obtain ⟨o, es, ep, t, ho, ⟨hex, hd⟩, ⟨g, nd, hm⟩, ⟨hb, hf, hn⟩, hr, hl⟩ := R
  have hkey : (strKind P w).is k (.str k tk) = true := strKind_is P w k tk
  have hsc : (Value.str k tk).scannable = true := rfl
  have hel : ElemsOf (strKind P w) es.toList := els_s g
  unfold setAddHashed setAddHashedIn; refine wpAny_holding (wpAny_bind (wpAny_setState_of ho hd hf ?_)); dsimp only
  rw [byScan_of hsc hb hel]
  simp only [↓reduceIte]
  unfold setAddByScan
  refine wpAny_bind (wpAny_bind (wpAny_rule (wpAny_bind (wpAny_setScan_of hkey ho hd hf hel ?_))))
  cases hfi : List.findIdx? (fun e => (strKind P w).is k e.2) es.toList with
  | some j =>
    dsimp only
    have at_j := List.findIdx?_eq_some_iff_getElem.mp hfi
    have hSk : S k = true := (hm k).2 ((mem_ky (P := P) (w := w) g k).2 ⟨es.toList[j]'at_j.1, List.getElem_mem at_j.1, at_j.2.1⟩)
    have same : ∀ i, (S i || decide (i = k)) = true ↔ i ∈ es.toList.map kyS := fun i => (by
      rw [← hm i, Bool.or_eq_true]
      exact ⟨fun z => z.elim id fun e => of_decide_eq_true e ▸ hSk, Or.inl⟩)
    have q := hQ s.heap (Heap.SameBut.refl a s.heap) ⟨o, es, ep, t, ho, ⟨hex, hd⟩, ⟨g, nd, same⟩, ⟨hb, hf, (if_pos hSk).symm ▸ hn⟩, hr, hl⟩
    exact wpAny_pure (wpAny_pure (by rw [hSk] at q; exact q))
  | none =>
    dsimp only
    have hnk : k ∉ es.toList.map kyS := fun z =>
      let ⟨x, hx, isk⟩ := (mem_ky (P := P) (w := w) g k).1 z
      Bool.false_ne_true ((List.findIdx?_eq_none_iff.mp hfi x hx).symm.trans isk)
    have hSk : S k = false := Bool.eq_false_iff.mpr fun q => hnk ((hm k).1 q)
    have hgw : ∀ (b : Bool) {u : Shared} {F : Unit → Shared → Prop}, F () u → wpAny (model P w) A (match b with | true => rule "set.scan.the-table-gave-way" | false => pure ()) F E u :=
      fun b u F q => by cases b <;> first | exact wpAny_pure q | exact wpAny_rule q
    have pm := layNew_perm t es ((strKind P w).hash k) (.str k tk)
    have f1 := layNew_fits t es ((strKind P w).hash k) (.str k tk)
    have r1 := layNew_ris t es ((strKind P w).hash k) (.str k tk) hr
    have l1 := layNew_led t es ((strKind P w).hash k) (.str k tk)
    generalize layNew t es ((strKind P w).hash k) (.str k tk) = Z at pm f1 r1 l1 ⊢
    obtain ⟨fs, t1, wd, gave⟩ := Z
    dsimp only at pm f1 r1 l1 ⊢
    rw [Array.toList_push] at pm
    have pc : fs.toList.Perm (((strKind P w).hash k, Value.str k tk) :: es.toList) := pm.trans (List.perm_append_singleton _ _)
    have pk : (fs.toList.map kyS).Perm (k :: es.toList.map kyS) := pc.map kyS
    have gf : (∀ e ∈ fs.toList, OkE w e) ∧ (fs.toList.map kyS).Nodup ∧ ∀ i, (S i || decide (i = k)) = true ↔ i ∈ fs.toList.map kyS := by
      refine ⟨fun e he => ?_, pk.nodup_iff.mpr (List.nodup_cons.mpr ⟨hnk, nd⟩), fun i => ?_⟩
      · exact (List.mem_cons.mp (pc.mem_iff.mp he)).elim (fun new => new ▸ ⟨k, tk, rfl, rfl⟩) (g e)
      · rw [Bool.or_eq_true, hm i, pk.mem_iff, List.mem_cons]
        exact Or.comm.trans (or_congr_left decide_eq_true_iff)
    have hsz : fs.size = n + 1 := by rw [← Array.length_toList, pc.length_eq, List.length_cons, Array.length_toList, hn]
    have hb1 : fs.size < scanBound := hsz ▸ room
    have hld : w.params.followText "set-order" = true ∨ t1.led = true := hl.imp id fun z => by rw [l1]; exact z
    have fin : ∀ h', Heap.SameBut a s.heap h' → SetS w h' a (fun j => S j || decide (j = k)) fs.size → Q true { s with heap := h' } := fun h' sb r => by
      have q := hQ h' sb
      rw [hSk] at q
      rw [hsz] at r
      exact q r
    refine wpAny_bind (hgw _ ?_)
    split
    · refine wpAny_bind ?_; rw [hashByValue_scannable 8 hsc]
      refine wpAny_pure (tail_s (fun b u F q => ?_) hex ho hd gf hb1 ?_ ?_ ?_ ?_)
      · cases b <;> first | exact wpAny_pure q | exact wpAny_rule q
      · first | (split <;> first | exact f1 | exact SetTable.fits_plain_off f1) | exact f1
      · first | (split <;> exact r1) | exact r1
      · first | (split <;> exact hld) | exact hld
      · exact fun h' sb r => wpAny_pure (fin h' sb r)
    · refine wpAny_bind (wpAny_pure ?_)
      simp only [↓reduceIte]
      refine tail_s (fun b u F q => ?_) hex ho hd gf hb1 f1 r1 hld ?_
      · cases b <;> first | exact wpAny_pure q | exact wpAny_rule q
      · exact fun h' sb r => wpAny_pure (fin h' sb r)

/-! ### set(text) -/
def sgs (z : Str) : List Str := (cods z).map fun c => ⟨#[c]⟩
def ob0 (w : World) : Obj := { cls := .type "set", dict := none, data := .set #[] 0 (.fresh 0 0 (!w.params.followText "set-order")) }
theorem SetS.zero {ws : List Str} (ho : h.get? a = some (ob0 w)) : SetS w h a (fun j => decide (j ∈ ws.take 0)) 0 :=
  ⟨_, #[], 0, _, ho, ⟨⟨rfl, rfl, rfl⟩, rfl⟩, ⟨fun e he => by simp at he, by simp, fun k => by simp⟩, ⟨by decide, by rfl, rfl⟩, List.Pairwise.nil, by
    show _ ∨ (!w.params.followText "set-order") = true
    cases w.params.followText "set-order"
    · exact .inr rfl
    · exact .inl rfl⟩
/-- a turn of the loop by which a set takes in what an iterator gives -/
theorem upd_in {T I : Addr} {R : Result → Shared → Prop} (h : wpAny (model P w) A.in1 (Builtin.«set.update.loop» ⟨[.ref T, .ref I], []⟩) (fun fin s' => match fin with | .done f => R (.ok f) s' | .again c' => c'.quiet = true ∧ codeAny (model P w) A c' R s') (fun e s' => R (.error e) s') s) :
    codeAny (model P w) A (.builtin "set.update.loop" ⟨[.ref T, .ref I], []⟩) R s :=
  codeAny_builtin F.entry_set_update_loop (by rw [Around.under_plainId F.plain_set_update_loop]; exact h)
theorem upd_s {I : Addr} {fp wr : List Addr} {G : Array GenState → Array GenState → Prop} {n : Nat} {Pv : Nat → Value → Prop} {St : Nat → Shared → Prop} {R : Result → Shared → Prop}
    (W : WalksS P w A.in1 I fp wr G n Pv St) (T : Addr) (hT : T ∉ fp) (ws : List Str) (hn : n = ws.length) (hb : ws.length + 1 < scanBound) (hval : ∀ i v, Pv i v → ∃ k t, ws[i]? = some k ∧ v = .str k t) :
    ∀ (k i : Nat) (s : Shared), n - i = k → i ≤ n → St i s → (∃ c, c ≤ i ∧ SetS w s.heap T (fun j => decide (j ∈ ws.take i)) c) →
      (∀ s' c, Moved (T :: wr) G s s' → SetS w s'.heap T (fun j => decide (j ∈ ws)) c → R (.ok (.ret .none)) s') →
      codeAny (model P w) A (.builtin "set.update.loop" ⟨[.ref T, .ref I], []⟩) R s := by
  have hTw : T ∉ wr := fun h => hT (W.sub _ h)
  intro k
  induction k with
  | zero =>
    intro i s hk' hi at_i ⟨c, _, has⟩ hR
    obtain rfl : i = n := Nat.le_antisymm hi (Nat.sub_eq_zero_iff_le.mp hk')
    refine upd_in (show wpAny _ A.in1 (pyNext (.ref I) >>= _) _ _ s from wpAny_bind (W.done s _ _ at_i fun s' hm => ?_))
    have all : ws.take i = ws := List.take_of_length_le (Nat.le_of_eq hn.symm)
    rw [all] at has
    exact wpAny_pure (hR s' c (hm.mono fun _ => List.mem_cons_of_mem _) (has.moved fun o e => hm.heap T o hTw e))
  | succ k ih =>
    intro i s hk' hi at_i ⟨c, hc, hS⟩ hR
    have hlt : i < n := by omega
    refine upd_in (show wpAny _ A.in1 (pyNext (.ref I) >>= _) _ _ s from wpAny_bind (W.item i s _ _ hlt at_i fun v s' hP hst' hm => ?_))
    rcases hval i v hP with ⟨z, t, hz, ve⟩
    subst ve
    have hS' : SetS w s'.heap T (fun j => decide (j ∈ ws.take i)) c := hS.moved fun o e => hm.heap T o hTw e
    show wpAny _ A.in1 (holding [Value.str z t] (setAdd T (.str z t)) >>= _) _ _ s'
    refine wpAny_bind (wpAny_holding ?_)
    unfold setAdd
    refine wpAny_holding (wpAny_bind ((strKind P w).pyHash (k := z) (strKind_is _ _ _ _) ?_))
    refine add_s (s := { s' with toks := s'.toks + 1 }) hS' (by omega) fun h' hsb hS2 => ?_
    have hS3 : SetS w h' T (fun j => decide (j ∈ ws.take (i + 1))) (if decide (z ∈ ws.take i) = true then c else c + 1) := hS2.same fun j => by
      rw [List.take_add_one, hz]
      simp [List.mem_append]
    refine wpAny_pure ⟨plainId_quiet F.plain_set_update_loop _, ih (i + 1) _ (by omega) hlt (W.frame _ s' _ _ hst' (Nat.le_succ _) fun b hb o e => ?_) ⟨_, by split <;> omega, hS3⟩ fun s2 c2 hm2 hS2 => ?_⟩
    · rw [hsb.2 b (fun h : b = T => hT (by rw [← h]; exact hb))]; exact e
    · refine hR s2 c2 (Moved.trans W.gtrans ((hm.mono fun b hb => List.mem_cons_of_mem _ hb).then_heap (Nat.le_succ _) fun b o hb e => ?_) hm2) hS2
      rw [hsb.2 b (fun h : b = T => hb (by rw [h]; exact List.mem_cons_self))]; exact e

/-- the state behind set(text) -/
def Filled (w : World) (s : Shared) (x : Str) (u : Shared) : Prop := ∃ hp tk c, u = { s with heap := hp, toks := tk } ∧ SetS w hp s.heap.objs.size (fun j => decide (j ∈ sgs x)) c ∧ ∀ b o, s.heap.get? b = some o → hp.get? b = some o
theorem set_text {x : Str} {t : Tok} {Q : Value → Shared → Prop} (hh : A.handled = none) (hb : x.length + 1 < scanBound)
    (h : ∀ (h' : Heap) (tk c : Nat), SetS w h' s.heap.objs.size (fun j => decide (j ∈ sgs x)) c → (∀ b o, s.heap.get? b = some o → h'.get? b = some o) → Q (.ref s.heap.objs.size) { s with heap := h', toks := tk }) :
    wpAny (model P w) A (call (.type "set") [.str x t]) Q E s := by
  obtain ⟨c, tl, hmro⟩ := F.called_set.mro
  have hmade := F.called_set.made
  have hsub := F.called_set.sub
  refine wpAny_call (codeAny_of_tree ?_)
  show wpAny _ _ (callAny (.type "set") _) _ _ _
  refine wpAny_pure ⟨Code.quiet_builtin _ (by decide +kernel), codeAny_builtin F.entry_type_call ?_⟩
  rw [Around.under_plain (weight_type_call_type "set" [.str x t] []) rfl]
  have h1 := F.called_set.notType
  have h2 := F.called_set.canCreate
  have hct := F.typeCall_set_1 (.str x t)
  repeat (any_goals (first | assumption | wp_step))
  refine codeAny_mono (code_set_led1 (.str x t) (E := E) (Q₁ := fun obj u => obj = .ref s.heap.objs.size ∧ u = { s with heap := s.heap.push (ob0 w) }) ⟨rfl, rfl⟩) fun r u hr => ?_
  cases r with
  | error e => exact hr
  | ok fl =>
    cases fl with
    | ret obj =>
      obtain ⟨rfl, rfl⟩ := hr
      have hS : (s.heap.push (ob0 w)).get? s.heap.objs.size = some (ob0 w) := Heap.get?_push_size _ rfl
      have hT : Shared.TypeIs { s with heap := s.heap.push (ob0 w) } (.ref s.heap.objs.size) "set" := ⟨_, hS, rfl⟩
      have hli := F.called_set.init.lookup
      have hbi := F.called_set.init.bind (.ref s.heap.objs.size)
      repeat (any_goals (first | assumption | wp_step))
      refine codeAny_mono (codeAny_call_builtin (R := wants (fun r u => r = .none ∧ Filled w s x u) E) F.called_set.init.plain F.entry_set_init (check_set_init_1 hT ?_)) fun r₂ s₂ hr₂ => ?_
      · have hne : (Value.type "str" == Value.type "dict") = false := by decide
        have hsls := F.sub_str_set
        have hslf := F.sub_str_frozenset
        unfold Builtin.«set.__init__» noKeywords Builtin.Frozenset.updateFrom
        generalize hPI : pyIter = PI
        wp_walk
        subst hPI
        refine wpAny_pyIter_str fun oi St hW hst => ?_
        refine wpAny_bind (wpAny_runValue ?_)
        have hh3 : A.in1.in1.in1.handled = none := by simp [hh]
        have hz1 : (s.heap.push (ob0 w)).objs.size = s.heap.objs.size + 1 := Heap.size_push ..
        have hSf : s.heap.objs.size ∉ [(s.heap.push (ob0 w)).objs.size] := by
          rw [hz1, List.mem_singleton]
          exact Nat.ne_of_lt (Nat.lt_succ_self _)
        have hlen : x.cps.size = (sgs x).length := by simp [sgs, cods]
        refine upd_s ((hW _ hh3).toS) s.heap.objs.size hSf (sgs x) hlen (by rw [← hlen]; exact hb) ?hv (x.cps.size - 0) 0 _ (by omega) (Nat.zero_le _) hst ?hS0 ?hR
        case hv =>
          rintro i v ⟨c, u, hc, rfl⟩
          exact ⟨⟨#[c]⟩, u, by simp [sgs, cods, hc], rfl⟩
        case hS0 =>
          have hg : ((s.heap.push (ob0 w)).push oi).get? s.heap.objs.size = some (ob0 w) := Heap.get?_push_of_some _ hS
          exact ⟨0, Nat.le_refl 0, SetS.zero hg⟩
        case hR =>
          rintro ⟨hp, gs, dr, tks, os⟩ m' mv has
          cases (mv.gens : gs = s.gens)
          cases (mv.drawn : dr = s.drawn)
          cases (mv.os : os = s.os)
          have old : ∀ b o, s.heap.get? b = some o → hp.get? b = some o := fun b o e => mv.heap b o (fun z => by
            rw [hz1, List.mem_cons, List.mem_singleton] at z
            exact z.elim (Nat.ne_of_lt (Heap.lt_size e)) (Nat.ne_of_lt (Nat.lt_succ_of_lt (Heap.lt_size e)))) (Heap.get?_push_of_some _ (Heap.get?_push_of_some _ e))
          exact wpAny_pure (wpAny_pure ⟨rfl, hp, tks, m', rfl, has, old⟩)
      · cases r₂ with
        | error e => exact hr₂
        | ok fl₂ =>
          cases fl₂ with
          | ret r =>
            obtain ⟨rfl, h', tk, c', rfl, hS', hk'⟩ := hr₂
            repeat (any_goals (first | assumption | wp_step))
            exact h _ _ _ hS' hk'
          | _ => exact hr₂.elim
    | _ => exact hr.elim
/-! ### sorted(set(text)) -/
theorem strs_out : ∀ l : List Value, (∀ v ∈ l, ∃ k tk, v = Value.str k tk) → StrsAre l (l.map fun v => kyS (0, v))
  | [], _ => .nil
  | v :: l, h => by
    have ih := strs_out l fun u hu => h u (List.mem_cons_of_mem _ hu)
    rcases h v List.mem_cons_self with ⟨own, tok, e⟩
    subst e
    exact .cons own tok ih
theorem sorted_s {Q : Value → Shared → Prop} (R : SetS w s.heap a S n) (hh : A.handled = none) (h64 : n < 64)
    (hQ : ∀ s' p (out : Array Value) (c : Nat) (ws : List Str), (∀ b o, s.heap.get? b = some o → s'.heap.get? b = some o) → s'.gens = s.gens → s'.os = s.os → s.heap.objs.size ≤ p →
      s'.heap.get? p = some (seqObj "list" out c) → StrsAre out.toList ws → ws.Nodup → sortedS ws = true → (∀ k, k ∈ ws ↔ S k = true) → Q (.ref p) s') :
    wpAny (model P w) A (call (.builtin "sorted") [.ref a]) Q E s :=
  Calls.call_function_entry kind_sorted plain_sorted entry_sorted (args_sorted1 _) (by
    obtain ⟨o, es, ep, t, at_a, ⟨is_set, tab⟩, ⟨txt, nd, inS⟩, ⟨few, fits, cnt⟩, ris, led⟩ := R
    unfold Builtin.«sorted»
    refine wpAny_bind (m := checkCount "sorted" 1 1 _) (wpAny_pure (wpAny_bind (collect_set (A := A.in1) hh ⟨o, at_a, is_set.1, tab⟩ fits few ris led fun s1 vs old up gens os pm => ?_)))
    have num : vs.length = n := (pm.length_eq.trans ((List.length_map ..).trans (Array.length_toList ..))).trans cnt
    have txts : ∀ v ∈ vs, ∃ k tk, v = Value.str k tk := fun v hv =>
      let ⟨x, hx, is_v⟩ := List.mem_map.mp (pm.mem_iff.mp hv)
      let ⟨k, tk, is_k, _⟩ := txt x hx
      ⟨k, tk, is_v ▸ is_k⟩
    have are := strs_out vs txts
    have keys : (vs.map fun v => kyS (0, v)).Perm (es.toList.map kyS) := by
      have q := pm.map fun v => kyS (0, v)
      rwa [List.map_map] at q
    have fit : vs.length ≤ sizeLine := by rw [num, sizeLine_eq]; omega
    refine wpAny_bind (wpAny_newList ?_ fit)
    have new := Heap.get?_push_size s1.heap (o := seqObj "list" vs.toArray 0) rfl
    refine wpAny_bind (wpAny_holding (wpAny_call_entry slot_list_sort ⟨_, new, rfl⟩ entry_list_sort (list_sort_treeK strKind_oneLt new are.keysOf (fun v₁ v₂ rest e => keyKind_strs (e ▸ are)) (num ▸ h64) fun st' hp hs => ⟨_, rfl, ?_⟩) (args_list_sort _)))
    obtain ⟨ws, out, same, up_⟩ := sorted_out_str are hp hs
    obtain ⟨c, laid⟩ := sortedHeap_at (vs := vs) (out := (arrOf st').map (·.2)) new
    have all := same.trans keys
    have kept : ∀ b u, s.heap.get? b = some u → (sortedHeap (s1.heap.push (seqObj "list" vs.toArray 0)) s1.heap.objs.size vs ((arrOf st').map (·.2))).get? b = some u := fun b u e => by
      have q := old b u e
      have lt := Heap.lt_size q
      exact (sortedHeap_old (Nat.ne_of_lt lt) (size_push' .. ▸ Nat.lt_succ_of_lt lt)).trans (Heap.get?_push_of_some _ q)
    exact wpAny_pure ⟨_, rfl, hQ _ s1.heap.objs.size _ c ws kept gens os up laid out (all.nodup_iff.mpr nd) up_ fun k => all.mem_iff.trans (inS k).symm⟩)
end
/-! ### the letters of a text, ascending -/
def lets (l : List Nat) : List Nat := (List.range' 97 26).filter fun c => decide (c ∈ l)
theorem mem_lets {l : List Nat} {c : Nat} : c ∈ lets l ↔ az c ∧ c ∈ l := by
  unfold lets az
  rw [List.mem_filter, List.mem_range'_1, decide_eq_true_eq]
  constructor
  · rintro ⟨h, h2⟩
    exact ⟨by omega, h2⟩
  · rintro ⟨h, h2⟩
    exact ⟨by omega, h2⟩
theorem lets_up (l : List Nat) : (lets l).Pairwise (· < ·) := (List.pairwise_lt_range' (s := 97) (n := 26)).filter _
theorem up_nodup {l : List Nat} (h : l.Pairwise (· < ·)) : l.Nodup := h.imp fun a => Nat.ne_of_lt a
theorem up_eq {l m : List Nat} (hl : l.Pairwise (· < ·)) (hm : m.Pairwise (· < ·)) (h : ∀ c, c ∈ l ↔ c ∈ m) : l = m :=
  List.Perm.eq_of_pairwise (fun a b _ _ h1 h2 => absurd h1 (Nat.lt_asymm h2)) hl hm ((List.perm_ext_iff_of_nodup (up_nodup hl) (up_nodup hm)).mpr h)
def one (c : Nat) : Str := ⟨#[c]⟩
theorem one_inj {a b : Nat} (h : one a = one b) : a = b := by
  have e : (one a).cps.toList = (one b).cps.toList := by rw [h]
  exact (List.cons.inj e).1
theorem rise_ones : ∀ (p : Nat) (l : List Nat), risingS (one p) (l.map one) = true → (p :: l).Pairwise (· ≤ ·)
  | _, [], _ => List.pairwise_singleton _ _
  | p, x :: r, h => by
    have h' : (!ltCps (one x).cps.toList (one p).cps.toList && risingS (one x) (r.map one)) = true := h
    rw [Bool.and_eq_true, Bool.not_eq_true', ltCps_eq] at h'
    have h1 : p ≤ x := by
      have z := lt_one x p
      have z2 : decide ((one x).cps.toList < (one p).cps.toList) = decide (x < p) := z
      rw [z2] at h'
      exact Nat.not_lt.mp (of_decide_eq_false h'.1)
    have ih := rise_ones x r h'.2
    exact List.pairwise_cons.mpr ⟨fun y hy => (List.mem_cons.mp hy).elim (fun e => e ▸ h1) fun e => Nat.le_trans h1 ((List.pairwise_cons.mp ih).1 y e), ih⟩
theorem sort_ones {l : List Nat} (h : sortedS (l.map one) = true) : l.Pairwise (· ≤ ·) := by
  cases l with
  | nil => exact .nil
  | cons x r => exact rise_ones x r h
theorem up_of {l : List Nat} (h : l.Pairwise (· ≤ ·)) (d : l.Nodup) : l.Pairwise (· < ·) := by
  induction l with
  | nil => exact .nil
  | cons x r ih =>
    have h1 := List.pairwise_cons.mp h
    have d1 := List.nodup_cons.mp d
    exact List.pairwise_cons.mpr ⟨fun y hy => Nat.lt_of_le_of_ne (h1.1 y hy) fun e => d1.1 (e ▸ hy), ih h1.2 d1.2⟩
/-- the sorted set of a text of letters -/
theorem sorted_lets {z : Str} {ws : List Str} (hz : ∀ c ∈ cods z, az c) (d : ws.Nodup) (h : sortedS ws = true) (hm : ∀ k, k ∈ ws ↔ decide (k ∈ sgs z) = true) : ws = (lets (cods z)).map one := by
  obtain ⟨l, rfl⟩ : ∃ l : List Nat, ws = l.map one := by
    have g : ∀ ws : List Str, (∀ k ∈ ws, ∃ c, k = one c) → ∃ l : List Nat, ws = l.map one := fun ws => by
      induction ws with
      | nil => exact fun _ => ⟨[], rfl⟩
      | cons k r ih =>
        intro g
        obtain ⟨c, rfl⟩ := g k List.mem_cons_self
        obtain ⟨l, rfl⟩ := ih fun k hk => g k (List.mem_cons_of_mem _ hk)
        exact ⟨c :: l, rfl⟩
    refine g ws fun k hk => ?_
    obtain ⟨c, _, e⟩ := List.mem_map.mp (of_decide_eq_true ((hm k).mp hk))
    exact ⟨c, e.symm⟩
  have dl : l.Nodup := by
    have := d
    rw [List.nodup_iff_pairwise_ne, List.pairwise_map] at this
    exact this.imp fun h e => h (by rw [e])
  refine congrArg (List.map one) (up_eq (up_of (sort_ones h) dl) (lets_up _) fun c => ?_)
  rw [mem_lets]
  have e := hm (one c)
  rw [decide_eq_true_eq] at e
  constructor
  · intro hc
    obtain ⟨c', h1, h2⟩ := List.mem_map.mp (e.mp (List.mem_map_of_mem hc))
    cases one_inj h2
    exact ⟨hz c h1, h1⟩
  · rintro ⟨_, hc⟩
    obtain ⟨c', h1, h2⟩ := List.mem_map.mp (e.mpr (List.mem_map_of_mem (f := one) hc))
    cases one_inj h2
    exact h1
/-! ### the rule -/
theorem nodup_len {α : Type} [DecidableEq α] : ∀ (l m : List α), l.Nodup → (∀ x ∈ l, x ∈ m) → l.length ≤ m.length
  | [], m, _, _ => Nat.zero_le m.length
  | x :: l, m, d, h => by
    have d' := List.nodup_cons.mp d
    have hx : x ∈ m := h x List.mem_cons_self
    have ih := nodup_len l (m.erase x) d'.2 fun y hy => (List.mem_erase_of_ne (fun (e : y = x) => d'.1 (by rw [← e]; exact hy))).mpr (h y (List.mem_cons_of_mem _ hy))
    rw [List.length_erase_of_mem hx] at ih
    have hp := List.length_pos_of_mem hx
    rw [List.length_cons]
    omega
def tSS (ta : TE) : TE := fun σ H Q => ta σ H fun x H1 => ∃ z, x = .str z ∧ z.length < 64 ∧ (∀ c ∈ cods z, az c) ∧ ∀ p, H1 p = none → Q (.ref p) (upd H1 p (.lst (((lets (cods z)).map one).map V.str)))
section
variable {X : Cx}
theorem pe_SS {a : Expr} {ta : TE} {p p2 q pos : Pos} (hc : X.calm = true) (hg : Gl X "sorted") (hm : X.mg "sorted" = none) (hg2 : Gl X "set") (hm2 : X.mg "set" = none) (ha : PE X a ta)
    (na : starEach [a] X.env = (false, eval a X.env) :: starEach [] X.env := by rfl) : PE X (.Call (.Name "sorted" p) [.Call (.Name "set" p2) [a] [] q] [] pos) (tSS ta) := by
  refine ⟨fun pins s σ H Q I h => Call_ (ld_blt I hg hm (by decide +kernel : bootBuiltins "sorted" = some (.builtin "sorted")) (PyProof.Rows.callWith_builtin1 (PyProof.Rows.args_cons (Call_ (ld_blt I hg2 hm2 boot_set
    (PyProof.Rows.callWith_type1 (PyProof.Rows.args_cons (thn (ha.run pins s σ H _ I h) fun v s1 came => PyProof.Rows.args_nil ?_) na) na rfl))) rfl) rfl rfl))⟩
  obtain ⟨x, H1, I1, r1, z, ex, hz, haz, q1⟩ := came
  subst ex
  obtain ⟨tk, ve⟩ := r1
  subst ve
  have hsb : (64 : Nat) < scanBound := by decide
  refine set_text (I1.ok.hd hc) (by omega) fun h' tk' c hS hk => PyProof.Rows.args_nil ?_
  have I2 : Inv X pins σ H1 { s1 with heap := h', toks := tk' } := I1.kept hk
  have hc64 : c < 64 := by
    obtain ⟨o, es, ep, t, _, _, ⟨_, nd, hm⟩, ⟨_, _, hn⟩, _⟩ := hS
    have hl : (es.toList.map kyS).length ≤ (sgs z).length := by
      have sub : ∀ k ∈ es.toList.map kyS, k ∈ sgs z := fun k hk => of_decide_eq_true ((hm k).mpr hk)
      exact nodup_len _ _ nd sub
    rw [List.length_map, Array.length_toList, hn] at hl
    have : (sgs z).length = z.length := by simp [sgs, len_cods]
    omega
  generalize hs2 : ({ s1 with heap := h', toks := tk' } : Shared) = s2 at I2 ⊢
  replace hS : SetS X.w s2.heap s1.heap.objs.size (fun j => decide (j ∈ sgs z)) c := by rw [← hs2]; exact hS
  refine sorted_s hS (I2.ok.hd hc) hc64 fun s' p out c' ws k g o hp hob hi hd hs hmem => ?_
  have hws := sorted_lets haz hd hs hmem
  subst hws
  have hlen : (((lets (cods z)).map one).map V.str).length ≤ sizeLine := by
    rw [List.length_map, List.length_map, sizeLine_eq]
    have : (lets (cods z)).length ≤ 26 := by
      unfold lets
      exact Nat.le_trans (List.length_filter_le _ _) (by simp)
    omega
  have hn : H1 p = none := I2.hok.fresh hp
  have J : Inv X pins σ (upd H1 p (.lst (((lets (cods z)).map one).map V.str))) { s2 with heap := s'.heap, gens := s'.gens, drawn := s'.drawn, toks := s'.toks } :=
    I2.call (ch := []) (Un.laid k hp hn) (I2.hok.laid k hp ⟨hlen, out.toList, c', vals_of_strs hi, hob⟩) (by rw [g]; exact I2.bare) (fun _ z => nomatch z)
  have e : s' = { s2 with heap := s'.heap, gens := s'.gens, drawn := s'.drawn, toks := s'.toks } := by
    cases s'
    cases s2
    cases o
    rfl
  rw [e]
  exact ⟨.ref p, _, J, rfl, q1 p hn⟩
theorem ev_SS {K : PySem.W.Frag} {σ : L2.St} {H : Hp} {ta : TE} {z : Str} (h64 : z.length < 64) (hz : ∀ c ∈ cods z, az c) (ha : EvD K ta σ H (.str z)) : EvD K (tSS ta) σ H (.list ((lets (cods z)).map fun c => .str (one c))) := fun H1 e1 Q q =>
  ha H1 e1 _ fun v H2 e2 hv => by
    cases hv
    refine ⟨z, rfl, h64, hz, fun p hp => q _ _ (e2.trans (same_new hp)) (.lst upd_same ?_)⟩
    have := rpAll_strs (K := K) (H := upd H2 p (.lst (((lets (cods z)).map one).map V.str))) ((lets (cods z)).map one)
    simpa [List.map_map, Function.comp_def] using this
end
end K7

set_option Elab.async false
set_option linter.all false
set_option maxRecDepth 100000
set_option maxHeartbeats 4000000
namespace PySem.W
open PySem PySem.Spec PySem.Calls PyProof.Rows
/-- how errors, objects and classes are asked -/
abbrev bga : Value := .builtin "BaseException.__getattribute__"
abbrev oga : Value := .builtin "object.__getattribute__"
abbrev ocl : Value := .builtin "object.__class__"
section
variable {prog : Program} {w : World} {A : Around} {E : Value → Shared → Prop} {s : Shared} {K : Frag} {x D : Addr} {ox : Obj} {od : Option Obj}
/-- e.__class__, e an error of an own class, with its own dict or without -/
theorem k7_class {Q : Option Value → Shared → Prop} (C : L2.ExcC K D) (X : K.In s.heap) (I : InstAt s.heap x ox D od) (h : Q (some (.ref D)) { s with toks := s.toks + 1 }) : wpAny (model prog w) A (getAttr? (.ref x) "__class__") Q E s := by
  have found : findObj K D od "__class__" = some (.bind (.builtin "getset_descriptor.__get__") ocl) := by
    have isC : (clsIn K D).isSome = true := let ⟨cd, e, _⟩ := any_some C.hd; e ▸ rfl
    cases od with
    | none => exact findObj_dataN isC C.ha C.hn C.ht
    | some o => exact findObj_data isC C.ha C.hn C.ht
  obtain ⟨hp, g, d, t, os⟩ := s
  have ofX := I.type (M := model prog w)
  have isErr : Looks (model prog w) hp (isInstance (.ref x) (.type "BaseException")) true := ofX.andThen (looks_subIn X C.hs)
  have other : (onTheHeap (Value.ref D) && bga == oga) = false := by rw [show (bga == oga) = false from by decide +kernel]; rfl
  unfold getAttr? getAttrBy? getAttrBy
  refine wpAny_bind (wpAny_mkText (wpAny_bind (wpAny_attempt (wpAny_holding (wpAny_bind (ofX.at (wpAny_bind ((looks_findIn (M := model prog w) X C.hg).at (show wpAny _ _ (if (onTheHeap (Value.ref D) && bga == oga) = true then _ else _) _ _ _ from ?_)))))))))
  rw [other, if_neg Bool.false_ne_true]; unfold getAttrByItsOwn hookBefore
  have there : onTheHeap (Value.ref D) = true := rfl
  refine wpAny_bind ?_; rw [if_pos there]
  refine (looks_findIn (M := model prog w) X C.hk).at (wpAny_bind (wpAny_attempt (wpAny_holding ?_))); unfold callGetattribute
  rw [show (false && onTheHeap bga) = false from rfl, if_neg Bool.false_ne_true]; unfold boundAndCalled
  have bound := PySem.F.excAttr_ValueError.ga.bind (.ref x)
  rw [bound]
  refine wpAny_bind (wpAny_pure (show wpAny _ _ (call bga [.ref x, .str "__class__" t]) _ _ _ from wpAny_call (codeAny_call_builtin PySem.F.excAttr_ValueError.ga.plain PySem.F.entry_bexc_ga
    (@check_slot (model prog w) _ _ ⟨hp, g, d, t + 1, os⟩ "BaseException.__getattribute__" "BaseException" "__getattribute__" (.ref x) [.str "__class__" t] [] _ (by decide +kernel) (by decide +kernel) isErr (PySem.F.args_bexc_ga (.ref x) (.str "__class__" t)) ?_))))
  unfold Builtin.«object.__getattribute__»
  refine wpAny_bind (wpAny_of_eq (a := ((Value.ref x : Value), [Value.str "__class__" t])) (by first | rfl | (simp only [slotArgs]; rfl)) (wpAny_bind (wpAny_pure (wpAny_bind (ofX.at (wpAny_bind ((looks_find (M := model prog w) X I found).at
    (show wpAny _ _ (holding [ocl] (call (.builtin "getset_descriptor.__get__") [ocl, .ref x, .ref D]) >>= ret) _ _ _ from wpAny_bind (wpAny_holding (wpAny_call (class_get (s := ⟨hp, g, d, t + 1, os⟩) (ox := ox) (od := od) X I C.hm ?_)))))))))))
  refine wpAny_pure (show wpAny _ _ (handedOut (.ref D)) _ _ _ from ?_)
  have plain := handedOut_of (v := .ref D) rfl
  rw [plain]
  first | exact wpAny_pure h | exact wpAny_pure (wpAny_pure h) | exact wpAny_pure (wpAny_bind (wpAny_pure (wpAny_pure h)))
/-- an own class is a class, and is not what it is not -/
theorem own_cls (C : L2.ExcC K D) : ∃ c d cd sl, K.lookup D = some ⟨c, d, .cls cd, sl⟩ := by
  obtain ⟨cd, e, _⟩ := any_some C.hd
  unfold clsIn at e
  split at e
  · exact ⟨_, _, _, _, by assumption⟩
  · cases e
theorem k7_kitx (C : L2.ExcC K D) : KitX K (.ref x) (.ref D) (fun h => InstAt h x ox D od) where
  ty := fun _ _ _ I => I.type
  it := fun _ _ X _ _ _ _ _ k q => by
    obtain ⟨c, d, cd, sl, at_D⟩ := own_cls C
    unfold isType loadHead
    exact wpAny_bind (wpAny_loadPart (k _ _ (X _ _ at_D)) (wpAny_pure q))
  ne := fun h tp dd its n sl X htp => Bool.eq_false_iff.mpr fun q => by
    obtain ⟨c, d, cd, sl', at_D⟩ := own_cls C
    have same : D = tp := Value.ref.inj (beq_iff_eq.mp q)
    cases (X _ _ at_D).symm.trans (same ▸ htp)
  ca := fun X I k => k7_class C X I k
end
end PySem.W
namespace K7
open PySem PySem.Spec PyProof.Rows L2
/-! ### own error classes with an __init__ that stores -/
/-- what the written part says of such a class, at C -/
structure XT (K : PySem.W.Frag) (B newId : String) (bmB : List Value) (C fI : Addr) (f : Str) : Prop where
  mx : PySem.W.excInitIn K C bmB newId = true
  ov : PySem.W.excOver K C bmB = true
  hd : PySem.W.hasDictIn K C = true
  nof : PySem.W.findIn K (.ref C) f = some none
  sa : PySem.W.findIn K (.ref C) "__setattr__" = some (some (.builtin "object.__setattr__"))
  iC : PySem.W.findIn K (.ref C) "__init__" = some (some (.ref fI))
  fI : PySem.W.isFn K (.ref fI) = true
  kC : PySem.W.keepIn K (.ref C) = true
  eC : PySem.W.subIn K (.ref C) (.type "BaseException") = some true
  tC : PySem.W.typeIn K (.ref C) = some (.type "type")
def xtB (K : PySem.W.Frag) (newId : String) (bmB : List Value) (x f : Str) : Bool :=
  PySem.W.excInitIn K (He.ga K x) bmB newId && (PySem.W.excOver K (He.ga K x) bmB && (PySem.W.hasDictIn K (He.ga K x) && (decide (PySem.W.findIn K (.ref (He.ga K x)) f = some none) && (He.eqO (PySem.W.findIn K (.ref (He.ga K x)) "__setattr__") (some (some (.builtin "object.__setattr__"))) &&
  (He.eqO (PySem.W.findIn K (.ref (He.ga K x)) "__init__") (some (some (.ref (He.ma K (He.ga K x) "__init__")))) && (PySem.W.isFn K (.ref (He.ma K (He.ga K x) "__init__")) && (PySem.W.keepIn K (.ref (He.ga K x)) && (decide (PySem.W.subIn K (.ref (He.ga K x)) (.type "BaseException") = some true) && decide (PySem.W.typeIn K (.ref (He.ga K x)) = some (.type "type"))))))))))
theorem xtB_ok {K : PySem.W.Frag} {B newId : String} {bmB : List Value} {x f : Str} (h : xtB K newId bmB x f = true) : XT K B newId bmB (He.ga K x) (He.ma K (He.ga K x) "__init__") f := by
  obtain ⟨h1, h⟩ := He.ba h
  obtain ⟨h2, h⟩ := He.ba h
  obtain ⟨h3, h⟩ := He.ba h
  obtain ⟨h4, h⟩ := He.ba h
  obtain ⟨h5, h⟩ := He.ba h
  obtain ⟨h6, h⟩ := He.ba h
  obtain ⟨h7, h⟩ := He.ba h
  obtain ⟨h8, h⟩ := He.ba h
  obtain ⟨h9, h10⟩ := He.ba h
  exact ⟨h1, h2, h3, of_decide_eq_true h4, He.eqO_ok h5, He.eqO_ok h6, h7, h8, of_decide_eq_true h9, of_decide_eq_true h10⟩
/-- what the error's making leaves -/
structure XMade (h h' : Heap) (e C d : Addr) (f : Str) (v : Value) : Prop where
  keep : ∀ b o, h.get? b = some o → h'.get? b = some o
  new : h.objs.size ≤ e
  obj : ∃ t1, h'.get? e = some { cls := .ref C, dict := some d, data := .fields #[.ref t1, .none, .none, .none, .bool false, .none] }
  dbig : h.objs.size ≤ d
  dne : d ≠ e
  ns : h'.Ns1 d (fun y => if y = f then some v else none)
def iA (f : Str) (p1 p2 : Pos) : Arguments := { posonlyargs := [], args := [{ arg := "self", annotation := none, pos := p1 }, { arg := f, annotation := none, pos := p2 }], vararg := none, kwonlyargs := [], kw_defaults := [], kwarg := none, defaults := [] }
def iB (f : Str) (q1 q2 q3 q4 : Pos) : List Stmt := [.Assign [.Attribute (.Name "self" q1) f q2] (.Name f q3) q4]
def iS (f : Str) : Scope := { kind := .function, names := [(PySem.Str.ofString "self", .local), (f, .local)], isGenerator := false, isCoroutine := false, more := [] }
section
variable {prog : Program} {w : World} {A : Around} {R : Result → Shared → Prop} {s : Shared} {K : PySem.W.Frag} {B newId initId : String} {bmB : List Value} {C fI : Addr} {f : Str}
theorem x_store {x t0 : Addr} {v : Value} {tk : Tok} (T : XT K B newId bmB C fI f) (SF : StoreFacts B bmB "object.__setattr__" "object") (X : K.In s.heap) (hx : s.heap.get? x = some (PySem.W.excObj C t0 none .none))
    (hq : ∀ h' tk' dx, (∀ b o, b ≠ x → s.heap.get? b = some o → h'.get? b = some o) → s.heap.objs.size ≤ dx → dx ≠ x → h'.get? x = some (PySem.W.excObj C t0 (some dx) .none) → h'.Ns1 dx (fun y => if y = f then some v else none) → R (.ok (.ret .none)) { s with heap := h', toks := tk' }) :
    codeAny (model prog w) A (.call (.builtin "object.__setattr__") ⟨[.ref x, .str f tk, v], []⟩) R s := by
  have inst : PySem.W.InstAt s.heap x (PySem.W.excObj C t0 none .none) C none := ⟨hx, rfl, rfl, trivial⟩
  refine PySem.W.osa_openX SF X inst T.ov (r := none) (by unfold PySem.W.takerIn; rw [T.nof]; rfl) fun b => (show wpAny _ _ (Builtin.ObjectAttr.storeInOwnDict (.ref x) (.ref C) (.str f tk) f v b) _ _ _ from ?_)
  obtain ⟨⟨nm, bs, mro, ns, qn, hd, sn, sb, ab, col, del⟩, is_c, dct⟩ := PySem.W.any_some T.hd
  have cls : PySem.W.Looks (model prog w) s.heap (classData C) ⟨nm, bs, mro, ns, qn, hd, sn, sb, ab, col, del⟩ := PySem.W.looks_clsIn X is_c
  have low := Heap.lt_size hx
  dsimp only at dct
  subst dct
  obtain ⟨hp, g, d, t, os⟩ := s
  unfold Builtin.ObjectAttr.storeInOwnDict Builtin.ObjectAttr.ownDictForStores
  repeat (first | with_reducible refine cls.at ?_ | with_reducible refine wpAny_loadPart_at hx ?_ | with_reducible refine HandSPX.store_in_new ?_ ?_ | wp_step)
  · refine ⟨_, #[], _, (Heap.get?_update_ne _ _ _ _ (Nat.ne_of_gt low)).trans (Heap.get?_push_at rfl rfl), rfl, ?_, fun _ => rfl⟩
    intro e he
    simp at he
  · exact fun h' tk' own but => hq h' tk' hp.objs.size (fun b o other ho => ((but.2 b (Nat.ne_of_lt (Heap.lt_size ho))).trans (Heap.get?_update_ne _ _ _ _ other)).trans (Heap.get?_push_of_some _ ho)) (Nat.le_refl _) (Nat.ne_of_gt low)
      ((but.2 x (Nat.ne_of_lt low)).trans (Heap.get?_update_self _ (Heap.get?_push_of_some _ hx) rfl)) own
/-- the __init__'s text -/
def XI (K : PySem.W.Frag) (qual f : Str) (fI : Addr) : Prop := ∃ (p1 p2 q1 q2 q3 q4 : Pos) (fd : FuncData), FunD K "__init__" qual (iA f p1 p2) (iB f q1 q2 q3 q4) (iS f) [] [] fI fd
theorem ld_loc {M : Model} {s : Shared} {name : Str} {scope : Scope} {L a : Addr} {cd : Value} {m : Str → Option Value} {x : Str} {pos : Pos} {v : Value} {Q : Value → Shared → Prop} {A : Around} {E : Value → Shared → Prop} (hn : s.heap.Ns L m) (hv : m x = some v) (h : Q v s)
    (hk : scope.kind = .function) (hl : (envOfC name scope L a cd).kindOf x = some .local) (hd : (x == ("__debug__" : Str)) = false) : wpAny M A (eval (.Name x pos) (envOfC name scope L a cd)) Q E s := wpAny_Name (wpAny_loadName_local hk hl hn hv h) hd
/-- the two arguments go to their names -/
def XB (qual f : Str) : Prop := ∀ (p1 p2 q1 q2 q3 q4 : Pos) (kV doc pm : Value) (an : Option Addr) (cdv ct a b : Value), bindArgs (PySem.W.fnOf "__init__" qual (iA f p1 p2) (iB f q1 q2 q3 q4) (iS f) .none kV doc pm an cdv ct) ⟨[a, b], []⟩ = pure ([("self", a), (f, b)] : List (Str × Value))
theorem x_init {qual : Str} {x t0 : Addr} {v : Value} (T : XT K B newId bmB C fI f) (SF : StoreFacts B bmB "object.__setattr__" "object") (Q : XI K qual f fI) (hbi : XB qual f) (hfs : (f == ("self" : Str)) = false) (hfd : (f == ("__debug__" : Str)) = false)
    (X : K.In s.heap) (hlim : s.heap.NoLimit) (hx : s.heap.get? x = some (PySem.W.excObj C t0 none .none)) (hroom : A.depth < recursionLimit)
    (hq : ∀ h' tk dx, (∀ b o, b ≠ x → s.heap.get? b = some o → h'.get? b = some o) → s.heap.objs.size ≤ dx → dx ≠ x → h'.get? x = some (PySem.W.excObj C t0 (some dx) .none) → h'.Ns1 dx (fun y => if y = f then some v else none) → R (.ok (.ret .none)) { s with heap := h', toks := tk }) :
    codeAny (model prog w) A (.call (.ref fI) ⟨[.ref x, v], []⟩) R s := by
  obtain ⟨p1, p2, q1, q2, q3, q4, fd, F⟩ := Q
  obtain ⟨oc, od, dV, kV, doc, pm, an, cdv, ct, osl, rfl, ho, hcd, hD, hK⟩ := F.ex
  have hdV : dV = .none := by
    rcases hD with ⟨e, _⟩ | ⟨e, _⟩
    · assumption
    · exact absurd rfl e
  subst hdV
  have hb := hbi p1 p2 q1 q2 q3 q4 kV doc pm an cdv ct (.ref x) v
  have hfn : f ≠ ("self" : Str) := fun z => by rw [z] at hfs; cases hfs
  refine Att.call_fn (binds := ([("self", .ref x), (f, v)] : List (Str × Value))) X hlim ho hcd hroom (BindsTo.of_eq hb) ?_ (fun s₁ IC => ?_) rfl rfl rfl
  · simp [iS, List.lookup, hfs]
  · obtain ⟨h₁, tk₁, rfl⟩ := IC.toInCall.same
    have k : ∀ b o, s.heap.get? b = some o → h₁.get? b = some o := IC.toInCall.keep
    have hn := IC.toInCall.ns
    have hxL : s.heap.objs.size ≠ x := Nat.ne_of_gt (Heap.lt_size hx)
    have X₁ : K.In h₁ := X.keeps k
    have hx₁ := k _ _ hx
    have hk1 : (envOfC qual (iS f) s.heap.objs.size fI cdv).kindOf f = some .local := by
      show (iS f).names.lookup f = some .local
      simp [iS, List.lookup, hfs]
    have hk2 : (envOfC qual (iS f) s.heap.objs.size fI cdv).kindOf "self" = some .local := rfl
    show wpAny _ _ (execs _ _) _ _ _
    refine wpAny_execs_cons (plainObj_wpAny_Assign_Attribute ?_)
    refine ld_loc (v := v) hn ?_ (ld_loc (v := .ref x) hn ?_ ?_ rfl hk2 (by decide)) rfl hk1 hfd
    · show bindL _ _ _ _ = _
      simp [bindL, hk1, hk2, hfs, hfn.symm]
    · show bindL _ _ _ _ = _
      simp [bindL, hk1, hk2, hfs, hfn.symm]
    · refine PySem.W.set_plain X₁ (ox := PySem.W.excObj C t0 none .none) (od := none) ⟨hx₁, rfl, rfl, trivial⟩ T.sa ?_
      refine x_store (s := { s with heap := h₁, toks := tk₁ + 1 }) T SF X₁ hx₁ (fun h₃ tk₃ dx k₃ dn dne hx₃ hn₃ => ?_)
      show wpAny _ _ (execs _ _) _ _ _
      have z : s.heap.objs.size < h₁.objs.size := hn.lt
      exact wpAny_execs_nil (hq h₃ tk₃ dx (fun b o hb e => k₃ b o hb (k b o e)) (Nat.le_of_lt (Nat.lt_of_lt_of_le z dn)) dne hx₃ hn₃)
theorem x_made {qual : Str} {v : Value} (FB : ExcBaseFacts B newId initId bmB) (T : XT K B newId bmB C fI f) (SF : StoreFacts B bmB "object.__setattr__" "object") (Q : XI K qual f fI) (hbi : XB qual f) (hfs : (f == ("self" : Str)) = false) (hfd : (f == ("__debug__" : Str)) = false)
    (X : K.In s.heap) (hlim : s.heap.NoLimit) (hroom : A.depth + 1 < recursionLimit)
    (hq : ∀ h' tk e d, XMade s.heap h' e C d f v → R (.ok (.ret (.ref e))) { s with heap := h', toks := tk }) : codeAny (model prog w) A (.call (.ref C) ⟨[v], []⟩) R s := by
  obtain ⟨nm, N, qn, bs, bm, hdct, sn, sub, ab, col, dd, k0, k1, k2, k3, k5, hC, hT⟩ := PySem.W.excInit_of X T.mx
  obtain ⟨oI, inK, hcI⟩ := Option.map_eq_some_iff.mp (show (K.lookup fI).map (·.cls) = some (.type "function") from beq_iff_eq.mp T.fI)
  have hoI := X _ _ inK
  have hi' : PySem.W.Looks (model prog w) s.heap (typeLookup (.ref C) "__init__") (some (.ref fI)) := PySem.W.looks_findIn X T.iC
  obtain ⟨hp, g, dr, tk, os⟩ := s
  have k : ∀ b o, hp.get? b = some o → ((hp.push (PySem.W.excTup [v])).push (PySem.W.excObj C hp.objs.size none .none)).get? b = some o := fun b o e => Heap.get?_push_of_some _ (Heap.get?_push_of_some _ e)
  have hget : ((hp.push (PySem.W.excTup [v])).push (PySem.W.excObj C hp.objs.size none .none)).get? (hp.objs.size + 1) = some (PySem.W.excObj C hp.objs.size none .none) := by
    have z := Heap.get?_push_size (hp.push (PySem.W.excTup [v])) (o := PySem.W.excObj C hp.objs.size none .none) rfl
    rwa [Heap.size_push] at z
  refine PX.call_own FB hT hC hi' (fun self => PySem.W.exc_bind hoI hcI self) (by show 1 ≤ sizeLine; rw [sizeLine_eq]; omega) ?_
  refine x_init (s := ⟨(hp.push (PySem.W.excTup [v])).push (PySem.W.excObj C hp.objs.size none .none), g, dr, tk, os⟩) T SF Q hbi hfs hfd (X.keeps k) (hlim.keeps k) hget ?_ fun h' tk' dx k' dn dne hx hns => ?_
  · show A.depth + 1 < recursionLimit
    exact hroom
  · have old : ∀ b o, hp.get? b = some o → h'.get? b = some o := fun b o e => k' b o (Nat.ne_of_lt (Nat.lt_succ_of_lt (Heap.lt_size e))) (k b o e)
    have z : hp.objs.size + 1 + 1 ≤ dx := by
      have q := dn
      rw [Heap.size_push, Heap.size_push] at q
      exact q
    exact ⟨rfl, hq h' tk' (hp.objs.size + 1) dx ⟨old, Nat.le_succ _, ⟨_, hx⟩, Nat.le_trans (Nat.le_trans (Nat.le_succ _) (Nat.le_succ _)) z, dne, hns⟩⟩
end
/-- X(e) -/
def tMkX (C : Addr) (f : Str) (ta : TA) : L2.St → Hp → XK → Prop := fun σ H Q => ta σ H fun vs H1 => ∃ v, vs = [v] ∧ ∀ d, H1 d = none → Q (.ref C) (some d) (upd H1 d (.xd [(f, v)]))
theorem relO_x {v : V} {v' : Value} {g : Str} (r : RelV v v') (f : Str) : RelO (List.lookup f [(g, v)]) (if f = g then some v' else none) := by
  by_cases hw : f = g
  · subst hw
    rw [if_pos rfl]
    have q : List.lookup f [(f, v)] = some v := by simp [List.lookup]
    rw [q]
    exact r
  · rw [if_neg hw]
    have qw : (f == g) = false := by simpa using hw
    have q2 : List.lookup f [(g, v)] = none := by simp [List.lookup, qw]
    rw [q2]
    trivial
section
variable {X : Cx} {B newId initId : String} {bmB : List Value} {C fI : Addr} {f qual x : Str}
theorem pmk_x {a : Expr} {ta : TA} {p pos : Pos} {k : Nat} (FB : ExcBaseFacts B newId initId bmB) (SF : StoreFacts B bmB "object.__setattr__" "object") (T : XT X.K B newId bmB C fI f) (Q0 : XI X.K qual f fI) (hbi : XB qual f) (gC : X.mg x = some (.ref C)) (hr : Room k X.A) (ha : PA X [a] ta) (hg : Gl X x := by rfl)
    (hfs : (f == ("self" : Str)) = false := by decide) (hfd : (f == ("__debug__" : Str)) = false := by decide) (hdb : (x == ("__debug__" : Str)) = false := by decide)
    (he : starEach (a :: []) X.env = (false, eval a X.env) :: starEach [] X.env := by rfl) (hpl : (backTo pos (starEach [] X.env)).any (·.1) = false := by rfl) :
    PMk X (.Call (.Name x p) [a] [] pos) (tMkX C f ta) := by
  intro pins s σ H Q I h
  refine wpAny_Call_Name_kw (ld_glob I hg gC ?_ hdb)
  refine PySem.W.callWith_K (h₀ := X.base) I.ok.mod.kin T.kC (thn (ha.run pos pins s σ H _ I h) fun us s1 hh => ?_) he hpl
  obtain ⟨vs, H1, I1, r1, v, ev, q1⟩ := hh
  subst ev
  refine ⟨I1.kIn, ?_⟩
  obtain ⟨v', rfl, rv⟩ := r1.one
  show wpAny _ _ (call (.ref C) [v']) _ _ _
  have hlim := I1.nolimit
  obtain ⟨hp, g, dr, tk, os⟩ := s1
  refine wpAny_call (x_made FB T SF Q0 hbi hfs hfd I1.kIn hlim (by have := hr.dp; omega) fun h' tk' e d M => ?_)
  show MkP X pins σ Q (.ref e) ⟨h', g, dr, tk', os⟩
  obtain ⟨t1, hoe⟩ := M.obj
  have hns := M.ns
  obtain ⟨G', g1, g2⟩ := restrict h' fun b => decide (b ≠ e)
  have gk : ∀ b, b ≠ e → G'.get? b = h'.get? b := fun b hb => g1 b (decide_eq_true hb)
  have ge : G'.get? e = none := g2 e (by simp)
  have old : ∀ b o, hp.get? b = some o → G'.get? b = some o := fun b o q => (gk b (Nat.ne_of_lt (Nat.lt_of_lt_of_le (Heap.lt_size q) M.new))).trans (M.keep b o q)
  have ob : ObjOk X.prog X.w (upd H1 d (.xd [(f, v)])) G' d (.xd [(f, v)]) := ⟨_, hns.at (fun o q => (gk d M.dne).trans q), fun y => relO_x rv y⟩
  have J : Inv X pins σ (upd H1 d (.xd [(f, v)])) ⟨G', g, dr, tk', os⟩ := I1.laid (t' := tk') old M.dbig ob
  refine ⟨e, _, _, ⟨G', g, dr, tk', os⟩, _, .ref C, some d, rfl, J, fun b o q => ?_, ge, hoe, ⟨rfl, rfl⟩, rfl, rfl, ?_, rfl, I1.bare, raises_own T.eC T.tC, q1 d (I1.hok.fresh M.dbig)⟩
  · by_cases hb : b = e
    · have q' : G'.get? b = some o := q
      rw [hb, ge] at q'; cases q'
    · exact (gk b hb).symm.trans q
  · rw [upd_ne (Ne.symm M.dne)]
    exact I1.hok.fresh M.new
/-- X(), the class without an __init__ of its own -/
theorem pmk_n {p pos : Pos} {bm : List Value} (F : ExcBaseFacts B newId initId bm) (q : PySem.W.excIn X.K C bm newId = true) (gC : X.mg x = some (.ref C)) (kC : PySem.W.keepIn X.K (.ref C) = true) (r : Raises X (.ref C)) (hg : Gl X x := by rfl)
    (hdb : (x == ("__debug__" : Str)) = false := by decide) : PMk X (.Call (.Name x p) [] [] pos) (fun _ H Q => Q (.ref C) none H) := by
  intro pins s σ H Q I h
  refine wpAny_Call_Name_kw (ld_glob I hg gC ?_ hdb)
  refine PySem.W.callWith_K0 I.kIn kC ?_
  show wpAny _ _ (call (.ref C) []) _ _ _
  obtain ⟨bm', N, nm, qn, bs, hdct, sn, sub, ab, col, dd, k0, k1, k2, k3, k5, mN, hC, hN, hni, T⟩ := exc_obj I.kIn q
  refine wpAny_call_exc_subT F T hC hN hni (fun h' e hm => ?_) (by show 0 ≤ sizeLine; omega)
  exact mk_of I hm r h (I.hok.gone hm.new)
end
/-! ### facts of the written part, by Bools -/
abbrev veT : List Value := [.type "ValueError", .type "Exception", .type "BaseException", .type "object"]
abbrev aeT : List Value := [.type "ArithmeticError", .type "Exception", .type "BaseException", .type "object"]
def ecB (K : PySem.W.Frag) (x : Str) : Bool :=
  He.eqO (PySem.W.findIn K (.ref (He.ga K x)) "__getattribute__") (some (some (.builtin "BaseException.__getattribute__"))) && (decide (PySem.W.findIn K (.ref (He.ga K x)) "__getattr__" = some none) && (decide (PySem.W.subIn K (.ref (He.ga K x)) (.type "BaseException") = some true) && (PySem.W.hasDictIn K (He.ga K x) &&
  (He.eqO (PySem.W.findIn K (.ref (He.ga K x)) "__class__") (some (some (.builtin "object.__class__"))) && (He.eqO (PySem.W.specialIn K (.builtin "object.__class__") "__get__") (some (some (.builtin "getset_descriptor.__get__"))) && (decide (PySem.W.takesIn K (.builtin "object.__class__") = some true) && decide (PySem.W.mroIn K (He.ga K x) (.type "object") = some true)))))))
theorem ecB_ok {K : PySem.W.Frag} {x : Str} (h : ecB K x = true) : ExcC K (He.ga K x) := by
  obtain ⟨h1, h⟩ := He.ba h
  obtain ⟨h2, h⟩ := He.ba h
  obtain ⟨h3, h⟩ := He.ba h
  obtain ⟨h4, h⟩ := He.ba h
  obtain ⟨h5, h⟩ := He.ba h
  obtain ⟨h6, h⟩ := He.ba h
  obtain ⟨h7, h8⟩ := He.ba h
  exact ⟨He.eqO_ok h1, of_decide_eq_true h2, of_decide_eq_true h3, h4, He.eqO_ok h5, He.eqO_ok h6, of_decide_eq_true h7, of_decide_eq_true h8⟩
theorem ecB_xf {K : PySem.W.Frag} {x : Str} (h : ecB K x = true) : XfC K (He.ga K x) := let C := ecB_ok h; ⟨C.hg, C.hk, C.hs, C.hd⟩
/-- the error classes that the law asks for, then its bases and the built-in ones -/
def askX : List Str := ["InvalidLot", "InvalidNumber", "InvalidWish", "InvalidCommand", "NotLots", "NothingToUndo", "TooMany", "TooFew", "Broken", "InvalidText", "InvalidFamily", "InvalidTwins", "InvalidBalance", "InvalidThings", "InvalidLots", "InvalidIndexes", "UnknownThing", "TooWide", "WrongValue", "WrongName", "NotPossible"]
def askT : List Str := ["ValueError", "LookupError", "ArithmeticError"]
/-- what isinstance says of an error of the class x -/
def isX (x : Str) (y : Str) : Bool := y == x || (if x == "InvalidNumber" then y == "WrongValue" || y == "ValueError" else y == "NotPossible" || y == "ArithmeticError")
def kitB (K : PySem.W.Frag) (x : Str) : Bool :=
  (askX.all fun y => decide (PySem.W.kitOne K (.ref (He.ga K x)) (.ref (He.ga K y)) = some (isX x y))) &&
  (decide (PySem.W.kitOne K (.ref (He.ga K x)) (.type "ValueError") = some (isX x "ValueError")) && (decide (PySem.W.kitOne K (.ref (He.ga K x)) (.type "LookupError") = some (isX x "LookupError")) &&
  (decide (PySem.W.kitOne K (.ref (He.ga K x)) (.type "ArithmeticError") = some (isX x "ArithmeticError")) && decide (PySem.W.exmAny K (.ref (He.ga K x)) [.ref (He.ga K "WrongValue"), .ref (He.ga K "WrongName"), .ref (He.ga K "NotPossible")] = some true))))
structure KitOk (K : PySem.W.Frag) (x : Str) : Prop where
  own : ∀ y ∈ askX, PySem.W.kitOne K (.ref (He.ga K x)) (.ref (He.ga K y)) = some (isX x y)
  ve : PySem.W.kitOne K (.ref (He.ga K x)) (.type "ValueError") = some (isX x "ValueError")
  le : PySem.W.kitOne K (.ref (He.ga K x)) (.type "LookupError") = some (isX x "LookupError")
  ae : PySem.W.kitOne K (.ref (He.ga K x)) (.type "ArithmeticError") = some (isX x "ArithmeticError")
  ex : PySem.W.exmAny K (.ref (He.ga K x)) [.ref (He.ga K "WrongValue"), .ref (He.ga K "WrongName"), .ref (He.ga K "NotPossible")] = some true
theorem kitB_ok {K : PySem.W.Frag} {x : Str} (h : kitB K x = true) : KitOk K x := by
  obtain ⟨h1, h⟩ := He.ba h
  obtain ⟨h2, h⟩ := He.ba h
  obtain ⟨h3, h⟩ := He.ba h
  obtain ⟨h4, h5⟩ := He.ba h
  exact ⟨fun y hy => of_decide_eq_true (List.all_eq_true.mp h1 y hy), of_decide_eq_true h2, of_decide_eq_true h3, of_decide_eq_true h4, of_decide_eq_true h5⟩
/-- an error class without an __init__ of its own -/
def xnB (K : PySem.W.Frag) (x : Str) : Bool := PySem.W.excIn K (He.ga K x) aeT "ArithmeticError.__new__" && (PySem.W.keepIn K (.ref (He.ga K x)) && (decide (PySem.W.subIn K (.ref (He.ga K x)) (.type "BaseException") = some true) && decide (PySem.W.typeIn K (.ref (He.ga K x)) = some (.type "type"))))
structure XN (K : PySem.W.Frag) (x : Str) : Prop where
  ex : PySem.W.excIn K (He.ga K x) aeT "ArithmeticError.__new__" = true
  kC : PySem.W.keepIn K (.ref (He.ga K x)) = true
  eC : PySem.W.subIn K (.ref (He.ga K x)) (.type "BaseException") = some true
  tC : PySem.W.typeIn K (.ref (He.ga K x)) = some (.type "type")
theorem xnB_ok {K : PySem.W.Frag} {x : Str} (h : xnB K x = true) : XN K x := by
  obtain ⟨h1, h⟩ := He.ba h
  obtain ⟨h2, h⟩ := He.ba h
  obtain ⟨h3, h4⟩ := He.ba h
  exact ⟨h1, h2, of_decide_eq_true h3, of_decide_eq_true h4⟩
end K7

set_option Elab.async false
set_option linter.all false
set_option maxRecDepth 100000
set_option maxHeartbeats 4000000
namespace K7
open PySem PySem.Spec PyProof.Rows L2
/-! ### the text by places -/
def top (i : Nat) : Stmt := PySem.Challenge.pw_sameunions_k71_whole_desks_led_back.main.body.getD i (.Pass ⟨0, 0, 0, 0⟩)
abbrev dd (at_ : Str × Option Str) (x q : Str) (s : Stmt) : He.DefD := ⟨at_, x, q, defArgs s, defBody s, defScope s, [], []⟩
abbrev s_is_integer : Stmt := top 24
abbrev s_is_within : Stmt := top 25
abbrev s_is_rising : Stmt := top 35
abbrev s_is_lot : Stmt := top 36
abbrev s_things_in : Stmt := top 37
abbrev s_check_words : Stmt := top 38
abbrev s_Lots___init__ : Stmt := inClass (top 39) 0
abbrev s_Lots___len__ : Stmt := inClass (top 39) 4
abbrev s_Lots___eq__ : Stmt := inClass (top 39) 6
abbrev s_Lots___str__ : Stmt := inClass (top 39) 7
abbrev s_Lots_added : Stmt := inClass (top 39) 8
abbrev s_Lots_without : Stmt := inClass (top 39) 9
abbrev s_check_lots : Stmt := top 40
abbrev s_check_lot : Stmt := top 41
abbrev s_check_many : Stmt := top 42
abbrev s_check_index : Stmt := top 43
abbrev s_check_indexes : Stmt := top 44
abbrev s_bits_of : Stmt := top 45
abbrev s_unions_by_choice : Stmt := top 55
abbrev s_choices_by_union : Stmt := top 56
abbrev s_has_part : Stmt := top 64
abbrev s_least_by_union : Stmt := top 65
abbrev s_packed : Stmt := top 66
abbrev s_most_of : Stmt := top 67
abbrev s_most_folds : Stmt := top 68
abbrev s_is_wish : Stmt := top 78
abbrev s_check_wish : Stmt := top 79
abbrev s_is_kept : Stmt := top 80
abbrev s_Desk___init__ : Stmt := inClass (top 82) 0
abbrev s_Desk_become : Stmt := inClass (top 82) 4
abbrev s_Desk_turn : Stmt := inClass (top 82) 5
abbrev s_Desk_put : Stmt := inClass (top 82) 6
abbrev s_Desk_take : Stmt := inClass (top 82) 7
abbrev s_Desk_change : Stmt := inClass (top 82) 8
abbrev s_Desk_promise : Stmt := inClass (top 82) 9
abbrev s_Desk_lift : Stmt := inClass (top 82) 10
abbrev s_Desk_undo : Stmt := inClass (top 82) 11
abbrev s_InvalidNumber___init__ : Stmt := inClass (top 9) 0
abbrev s_Broken___init__ : Stmt := inClass (top 22) 0
abbrev s__law_coil : Stmt := top 84
abbrev s__law_tug : Stmt := top 85
abbrev s__law_take : Stmt := top 86
abbrev s__law_letters : Stmt := top 87
abbrev s__law_word : Stmt := top 88
abbrev s__law_words : Stmt := top 89
abbrev s__law_masks : Stmt := top 90
abbrev s__law_apart : Stmt := top 94
abbrev s__law_most : Stmt := top 95
abbrev s__law_is_lot : Stmt := top 97
abbrev s__law_is_number : Stmt := top 98
abbrev s__law_is_wish : Stmt := top 99
abbrev s__law_keeps : Stmt := top 100
abbrev s__law_sort : Stmt := top 102
abbrev s__law_caught : Stmt := top 103
abbrev s__law_any_index : Stmt := top 105
abbrev s__law_letters_of : Stmt := top 106
abbrev s__law_later : Stmt := top 107
abbrev s__law_did : Stmt := top 108
abbrev s__law_shows : Stmt := top 110
abbrev s__law_broken : Stmt := top 111
abbrev s__law_led : Stmt := top 112
abbrev s__law_deed : Stmt := top 113
abbrev s__law_right : Stmt := top 114
abbrev s_law : Stmt := top 115
abbrev s_Lots_lots : Stmt := inClass (top 39) 2
abbrev s_Lots_things : Stmt := inClass (top 39) 3
abbrev s_Desk_lots : Stmt := inClass (top 82) 1
abbrev s_Desk_promises : Stmt := inClass (top 82) 2
abbrev s_Desk_changes : Stmt := inClass (top 82) 3
abbrev N_is_integer : List Str := ["value"]
theorem sc_is_integer : FnScope N_is_integer ["value"] (defScope s_is_integer) := ⟨rfl, rfl, rfl, by decide +kernel, rfl, by decide +kernel, by decide +kernel⟩
abbrev N_is_within : List Str := ["value", "least", "most"]
theorem sc_is_within : FnScope N_is_within ["value", "least", "most"] (defScope s_is_within) := ⟨rfl, rfl, rfl, by decide +kernel, rfl, by decide +kernel, by decide +kernel⟩
abbrev N_is_rising : List Str := ["value", "letter", "k"]
theorem sc_is_rising : FnScope N_is_rising ["value"] (defScope s_is_rising) := ⟨rfl, rfl, rfl, by decide +kernel, rfl, by decide +kernel, by decide +kernel⟩
abbrev N_is_lot : List Str := ["value"]
theorem sc_is_lot : FnScope N_is_lot ["value"] (defScope s_is_lot) := ⟨rfl, rfl, rfl, by decide +kernel, rfl, by decide +kernel, by decide +kernel⟩
abbrev N_things_in : List Str := ["words"]
theorem sc_things_in : FnScope N_things_in ["words"] (defScope s_things_in) := ⟨rfl, rfl, rfl, by decide +kernel, rfl, by decide +kernel, by decide +kernel⟩
abbrev N_check_words : List Str := ["words", "index"]
theorem sc_check_words : FnScope N_check_words ["words"] (defScope s_check_words) := ⟨rfl, rfl, rfl, by decide +kernel, rfl, by decide +kernel, by decide +kernel⟩
abbrev N_Lots___init__ : List Str := ["self", "lots"]
theorem sc_Lots___init__ : FnScope N_Lots___init__ ["self", "lots"] (defScope s_Lots___init__) := ⟨rfl, rfl, rfl, by decide +kernel, rfl, by decide +kernel, by decide +kernel⟩
abbrev N_Lots___len__ : List Str := ["self"]
theorem sc_Lots___len__ : FnScope N_Lots___len__ ["self"] (defScope s_Lots___len__) := ⟨rfl, rfl, rfl, by decide +kernel, rfl, by decide +kernel, by decide +kernel⟩
abbrev N_Lots___eq__ : List Str := ["self", "other"]
theorem sc_Lots___eq__ : FnScope N_Lots___eq__ ["self", "other"] (defScope s_Lots___eq__) := ⟨rfl, rfl, rfl, by decide +kernel, rfl, by decide +kernel, by decide +kernel⟩
abbrev N_Lots___str__ : List Str := ["self"]
theorem sc_Lots___str__ : FnScope N_Lots___str__ ["self"] (defScope s_Lots___str__) := ⟨rfl, rfl, rfl, by decide +kernel, rfl, by decide +kernel, by decide +kernel⟩
abbrev N_Lots_added : List Str := ["self", "lot"]
theorem sc_Lots_added : FnScope N_Lots_added ["self", "lot"] (defScope s_Lots_added) := ⟨rfl, rfl, rfl, by decide +kernel, rfl, by decide +kernel, by decide +kernel⟩
abbrev N_Lots_without : List Str := ["self", "indexes", "k"]
theorem sc_Lots_without : FnScope N_Lots_without ["self", "indexes"] (defScope s_Lots_without) := ⟨rfl, rfl, rfl, by decide +kernel, rfl, by decide +kernel, by decide +kernel⟩
abbrev N_check_lots : List Str := ["value"]
theorem sc_check_lots : FnScope N_check_lots ["value"] (defScope s_check_lots) := ⟨rfl, rfl, rfl, by decide +kernel, rfl, by decide +kernel, by decide +kernel⟩
abbrev N_check_lot : List Str := ["value"]
theorem sc_check_lot : FnScope N_check_lot ["value"] (defScope s_check_lot) := ⟨rfl, rfl, rfl, by decide +kernel, rfl, by decide +kernel, by decide +kernel⟩
abbrev N_check_many : List Str := ["words"]
theorem sc_check_many : FnScope N_check_many ["words"] (defScope s_check_many) := ⟨rfl, rfl, rfl, by decide +kernel, rfl, by decide +kernel, by decide +kernel⟩
abbrev N_check_index : List Str := ["lots", "index"]
theorem sc_check_index : FnScope N_check_index ["lots", "index"] (defScope s_check_index) := ⟨rfl, rfl, rfl, by decide +kernel, rfl, by decide +kernel, by decide +kernel⟩
abbrev N_check_indexes : List Str := ["lots", "indexes", "k"]
theorem sc_check_indexes : FnScope N_check_indexes ["lots", "indexes"] (defScope s_check_indexes) := ⟨rfl, rfl, rfl, by decide +kernel, rfl, by decide +kernel, by decide +kernel⟩
abbrev N_bits_of : List Str := ["lots", "found", "word", "letter"]
theorem sc_bits_of : FnScope N_bits_of ["lots"] (defScope s_bits_of) := ⟨rfl, rfl, rfl, by decide +kernel, rfl, by decide +kernel, by decide +kernel⟩
abbrev N_unions_by_choice : List Str := ["bits", "found", "lot", "union"]
theorem sc_unions_by_choice : FnScope N_unions_by_choice ["bits"] (defScope s_unions_by_choice) := ⟨rfl, rfl, rfl, by decide +kernel, rfl, by decide +kernel, by decide +kernel⟩
abbrev N_choices_by_union : List Str := ["bits", "found", "unions", "choice"]
theorem sc_choices_by_union : FnScope N_choices_by_union ["bits"] (defScope s_choices_by_union) := ⟨rfl, rfl, rfl, by decide +kernel, rfl, by decide +kernel, by decide +kernel⟩
abbrev N_has_part : List Str := ["choices", "choice", "other"]
theorem sc_has_part : FnScope N_has_part ["choices", "choice"] (defScope s_has_part) := ⟨rfl, rfl, rfl, by decide +kernel, rfl, by decide +kernel, by decide +kernel⟩
abbrev N_least_by_union : List Str := ["lots", "found", "union", "choices", "choice"]
theorem sc_least_by_union : FnScope N_least_by_union ["lots"] (defScope s_least_by_union) := ⟨rfl, rfl, rfl, by decide +kernel, rfl, by decide +kernel, by decide +kernel⟩
abbrev N_packed : List Str := ["choices", "many", "k", "rest", "other", "found"]
theorem sc_packed : FnScope N_packed ["choices", "many"] (defScope s_packed) := ⟨rfl, rfl, rfl, by decide +kernel, rfl, by decide +kernel, by decide +kernel⟩
abbrev N_most_of : List Str := ["lots", "found", "groups", "union", "choices"]
theorem sc_most_of : FnScope N_most_of ["lots"] (defScope s_most_of) := ⟨rfl, rfl, rfl, by decide +kernel, rfl, by decide +kernel, by decide +kernel⟩
abbrev N_most_folds : List Str := ["lots"]
theorem sc_most_folds : FnScope N_most_folds ["lots"] (defScope s_most_folds) := ⟨rfl, rfl, rfl, by decide +kernel, rfl, by decide +kernel, by decide +kernel⟩
abbrev N_is_wish : List Str := ["value"]
theorem sc_is_wish : FnScope N_is_wish ["value"] (defScope s_is_wish) := ⟨rfl, rfl, rfl, by decide +kernel, rfl, by decide +kernel, by decide +kernel⟩
abbrev N_check_wish : List Str := ["value"]
theorem sc_check_wish : FnScope N_check_wish ["value"] (defScope s_check_wish) := ⟨rfl, rfl, rfl, by decide +kernel, rfl, by decide +kernel, by decide +kernel⟩
abbrev N_is_kept : List Str := ["lots", "wish"]
theorem sc_is_kept : FnScope N_is_kept ["lots", "wish"] (defScope s_is_kept) := ⟨rfl, rfl, rfl, by decide +kernel, rfl, by decide +kernel, by decide +kernel⟩
abbrev N_Desk___init__ : List Str := ["self", "lots"]
theorem sc_Desk___init__ : FnScope N_Desk___init__ ["self", "lots"] (defScope s_Desk___init__) := ⟨rfl, rfl, rfl, by decide +kernel, rfl, by decide +kernel, by decide +kernel⟩
abbrev N_Desk_become : List Str := ["self", "lots", "promises"]
theorem sc_Desk_become : FnScope N_Desk_become ["self", "lots", "promises"] (defScope s_Desk_become) := ⟨rfl, rfl, rfl, by decide +kernel, rfl, by decide +kernel, by decide +kernel⟩
abbrev N_Desk_turn : List Str := ["self", "lots", "index", "wish"]
theorem sc_Desk_turn : FnScope N_Desk_turn ["self", "lots"] (defScope s_Desk_turn) := ⟨rfl, rfl, rfl, by decide +kernel, rfl, by decide +kernel, by decide +kernel⟩
abbrev N_Desk_put : List Str := ["self", "lot"]
theorem sc_Desk_put : FnScope N_Desk_put ["self", "lot"] (defScope s_Desk_put) := ⟨rfl, rfl, rfl, by decide +kernel, rfl, by decide +kernel, by decide +kernel⟩
abbrev N_Desk_take : List Str := ["self", "index"]
theorem sc_Desk_take : FnScope N_Desk_take ["self", "index"] (defScope s_Desk_take) := ⟨rfl, rfl, rfl, by decide +kernel, rfl, by decide +kernel, by decide +kernel⟩
abbrev N_Desk_change : List Str := ["self", "index", "lot", "words"]
theorem sc_Desk_change : FnScope N_Desk_change ["self", "index", "lot"] (defScope s_Desk_change) := ⟨rfl, rfl, rfl, by decide +kernel, rfl, by decide +kernel, by decide +kernel⟩
abbrev N_Desk_promise : List Str := ["self", "wish"]
theorem sc_Desk_promise : FnScope N_Desk_promise ["self", "wish"] (defScope s_Desk_promise) := ⟨rfl, rfl, rfl, by decide +kernel, rfl, by decide +kernel, by decide +kernel⟩
abbrev N_Desk_lift : List Str := ["self", "index"]
theorem sc_Desk_lift : FnScope N_Desk_lift ["self", "index"] (defScope s_Desk_lift) := ⟨rfl, rfl, rfl, by decide +kernel, rfl, by decide +kernel, by decide +kernel⟩
abbrev N_Desk_undo : List Str := ["self", "past"]
theorem sc_Desk_undo : FnScope N_Desk_undo ["self"] (defScope s_Desk_undo) := ⟨rfl, rfl, rfl, by decide +kernel, rfl, by decide +kernel, by decide +kernel⟩
abbrev N_InvalidNumber___init__ : List Str := ["self", "given"]
theorem sc_InvalidNumber___init__ : FnScope N_InvalidNumber___init__ ["self", "given"] (defScope s_InvalidNumber___init__) := ⟨rfl, rfl, rfl, by decide +kernel, rfl, by decide +kernel, by decide +kernel⟩
abbrev N_Broken___init__ : List Str := ["self", "index"]
theorem sc_Broken___init__ : FnScope N_Broken___init__ ["self", "index"] (defScope s_Broken___init__) := ⟨rfl, rfl, rfl, by decide +kernel, rfl, by decide +kernel, by decide +kernel⟩
abbrev N__law_coil : List Str := ["_law_script", "_law_turn", "_law_mixed", "_law_each", "_law_own", "_law_held"]
theorem sc__law_coil : FnScope N__law_coil ["_law_script", "_law_turn"] (defScope s__law_coil) := ⟨rfl, rfl, rfl, by decide +kernel, rfl, by decide +kernel, by decide +kernel⟩
abbrev N__law_tug : List Str := ["_law_coil_here", "_law_size", "_law_digit", "_law_more"]
theorem sc__law_tug : FnScope N__law_tug ["_law_coil_here", "_law_size"] (defScope s__law_tug) := ⟨rfl, rfl, rfl, by decide +kernel, rfl, by decide +kernel, by decide +kernel⟩
abbrev N__law_take : List Str := ["_law_coil_here", "_law_some"]
theorem sc__law_take : FnScope N__law_take ["_law_coil_here", "_law_some"] (defScope s__law_take) := ⟨rfl, rfl, rfl, by decide +kernel, rfl, by decide +kernel, by decide +kernel⟩
abbrev N__law_letters : List Str := ["_law_coil_here", "_law_many", "_law_pool", "_law_found", "_law_k"]
theorem sc__law_letters : FnScope N__law_letters ["_law_coil_here", "_law_many"] (defScope s__law_letters) := ⟨rfl, rfl, rfl, by decide +kernel, rfl, by decide +kernel, by decide +kernel⟩
abbrev N__law_word : List Str := ["_law_coil_here", "_law_letters_here", "_law_bits", "_law_k"]
theorem sc__law_word : FnScope N__law_word ["_law_coil_here", "_law_letters_here"] (defScope s__law_word) := ⟨rfl, rfl, rfl, by decide +kernel, rfl, by decide +kernel, by decide +kernel⟩
abbrev N__law_words : List Str := ["_law_coil_here", "_law_most_letters", "_law_most_words", "_law_letters_here", "_law_found", "_law_is_narrow", "_law_k", "_law_way", "_law_word_here"]
theorem sc__law_words : FnScope N__law_words ["_law_coil_here", "_law_most_letters", "_law_most_words"] (defScope s__law_words) := ⟨rfl, rfl, rfl, by decide +kernel, rfl, by decide +kernel, by decide +kernel⟩
abbrev N__law_masks : List Str := ["_law_words_here", "_law_letters_here", "_law_word_here", "_law_letter"]
theorem sc__law_masks : FnScope N__law_masks ["_law_words_here"] (defScope s__law_masks) := ⟨rfl, rfl, rfl, by decide +kernel, rfl, by decide +kernel, by decide +kernel⟩
abbrev N__law_apart : List Str := ["_law_choices", "_law_most_here", "_law_k", "_law_choice", "_law_other"]
theorem sc__law_apart : FnScope N__law_apart ["_law_choices"] (defScope s__law_apart) := ⟨rfl, rfl, rfl, by decide +kernel, rfl, by decide +kernel, by decide +kernel⟩
abbrev N__law_most : List Str := ["_law_words_here", "_law_unions", "_law_known", "_law_mask", "_law_union", "_law_choice"]
theorem sc__law_most : FnScope N__law_most ["_law_words_here"] (defScope s__law_most) := ⟨rfl, rfl, rfl, by decide +kernel, rfl, by decide +kernel, by decide +kernel⟩
abbrev N__law_is_lot : List Str := ["_law_value", "_law_letter", "_law_k"]
theorem sc__law_is_lot : FnScope N__law_is_lot ["_law_value"] (defScope s__law_is_lot) := ⟨rfl, rfl, rfl, by decide +kernel, rfl, by decide +kernel, by decide +kernel⟩
abbrev N__law_is_number : List Str := ["_law_value", "_law_least", "_law_most_here"]
theorem sc__law_is_number : FnScope N__law_is_number ["_law_value", "_law_least", "_law_most_here"] (defScope s__law_is_number) := ⟨rfl, rfl, rfl, by decide +kernel, rfl, by decide +kernel, by decide +kernel⟩
abbrev N__law_is_wish : List Str := ["_law_value"]
theorem sc__law_is_wish : FnScope N__law_is_wish ["_law_value"] (defScope s__law_is_wish) := ⟨rfl, rfl, rfl, by decide +kernel, rfl, by decide +kernel, by decide +kernel⟩
abbrev N__law_keeps : List Str := ["_law_words_here", "_law_want_here"]
theorem sc__law_keeps : FnScope N__law_keeps ["_law_words_here", "_law_want_here"] (defScope s__law_keeps) := ⟨rfl, rfl, rfl, by decide +kernel, rfl, by decide +kernel, by decide +kernel⟩
abbrev N__law_sort : List Str := ["_law_e", "_law_own", "_law_rest", "_law_bases", "_law_kin", "_law_at"]
theorem sc__law_sort : FnScope N__law_sort ["_law_e"] (defScope s__law_sort) := ⟨rfl, rfl, rfl, by decide +kernel, rfl, by decide +kernel, by decide +kernel⟩
abbrev N__law_caught : List Str := ["_law_act", "_law_back", "_law_e"]
theorem sc__law_caught : FnScope N__law_caught ["_law_act"] (defScope s__law_caught) := ⟨rfl, rfl, rfl, by decide +kernel, rfl, by decide +kernel, by decide +kernel⟩
abbrev N__law_any_index : List Str := ["_law_coil_here", "_law_many"]
theorem sc__law_any_index : FnScope N__law_any_index ["_law_coil_here", "_law_many"] (defScope s__law_any_index) := ⟨rfl, rfl, rfl, by decide +kernel, rfl, by decide +kernel, by decide +kernel⟩
abbrev N__law_letters_of : List Str := ["_law_words_here"]
theorem sc__law_letters_of : FnScope N__law_letters_of ["_law_words_here"] (defScope s__law_letters_of) := ⟨rfl, rfl, rfl, by decide +kernel, rfl, by decide +kernel, by decide +kernel⟩
abbrev N__law_later : List Str := ["_law_words_here", "_law_deed_here", "_law_later_here"]
theorem sc__law_later : FnScope N__law_later ["_law_words_here", "_law_deed_here"] (defScope s__law_later) := ⟨rfl, rfl, rfl, by decide +kernel, rfl, by decide +kernel, by decide +kernel⟩
abbrev N__law_did : List Str := ["_law_desk_here", "_law_deed_here"]
theorem sc__law_did : FnScope N__law_did ["_law_desk_here", "_law_deed_here"] (defScope s__law_did) := ⟨rfl, rfl, rfl, by decide +kernel, rfl, by decide +kernel, by decide +kernel⟩
abbrev N__law_shows : List Str := ["_law_desk_here", "_law_words_here", "_law_wants", "_law_many", "_law_told"]
theorem sc__law_shows : FnScope N__law_shows ["_law_desk_here", "_law_words_here", "_law_wants", "_law_many"] (defScope s__law_shows) := ⟨rfl, rfl, rfl, by decide +kernel, rfl, by decide +kernel, by decide +kernel⟩
abbrev N__law_broken : List Str := ["_law_words_here", "_law_wants", "_law_wrong", "_law_k"]
theorem sc__law_broken : FnScope N__law_broken ["_law_words_here", "_law_wants"] (defScope s__law_broken) := ⟨rfl, rfl, rfl, by decide +kernel, rfl, by decide +kernel, by decide +kernel⟩
abbrev N__law_led : List Str := ["_law_stands", "_law_deed_here", "_law_words_here", "_law_wants", "_law_later_here", "_law_wrong"]
theorem sc__law_led : FnScope N__law_led ["_law_stands", "_law_deed_here"] (defScope s__law_led) := ⟨rfl, rfl, rfl, by decide +kernel, rfl, by decide +kernel, by decide +kernel⟩
abbrev N__law_deed : List Str := ["_law_coil_here", "_law_stands", "_law_words_here", "_law_wants", "_law_way", "_law_at"]
theorem sc__law_deed : FnScope N__law_deed ["_law_coil_here", "_law_stands"] (defScope s__law_deed) := ⟨rfl, rfl, rfl, by decide +kernel, rfl, by decide +kernel, by decide +kernel⟩
abbrev N__law_right : List Str := ["_law_coil_here", "_law_words_here", "_law_desk_here", "_law_stands", "_law_turn", "_law_deed_here", "_law_due"]
theorem sc__law_right : FnScope N__law_right ["_law_coil_here"] (defScope s__law_right) := ⟨rfl, rfl, rfl, by decide +kernel, rfl, by decide +kernel, by decide +kernel⟩
abbrev N_law : List Str := ["_law_script", "_law_turn"]
theorem sc_law : FnScope N_law ["_law_script"] (defScope s_law) := ⟨rfl, rfl, rfl, by decide +kernel, rfl, by decide +kernel, by decide +kernel⟩
abbrev N_Lots_lots : List Str := ["self"]
theorem sc_Lots_lots : FnScope N_Lots_lots ["self"] (defScope s_Lots_lots) := ⟨rfl, rfl, rfl, by decide +kernel, rfl, by decide +kernel, by decide +kernel⟩
abbrev N_Lots_things : List Str := ["self"]
theorem sc_Lots_things : FnScope N_Lots_things ["self"] (defScope s_Lots_things) := ⟨rfl, rfl, rfl, by decide +kernel, rfl, by decide +kernel, by decide +kernel⟩
abbrev N_Desk_lots : List Str := ["self"]
theorem sc_Desk_lots : FnScope N_Desk_lots ["self"] (defScope s_Desk_lots) := ⟨rfl, rfl, rfl, by decide +kernel, rfl, by decide +kernel, by decide +kernel⟩
abbrev N_Desk_promises : List Str := ["self"]
theorem sc_Desk_promises : FnScope N_Desk_promises ["self"] (defScope s_Desk_promises) := ⟨rfl, rfl, rfl, by decide +kernel, rfl, by decide +kernel, by decide +kernel⟩
abbrev N_Desk_changes : List Str := ["self"]
theorem sc_Desk_changes : FnScope N_Desk_changes ["self"] (defScope s_Desk_changes) := ⟨rfl, rfl, rfl, by decide +kernel, rfl, by decide +kernel, by decide +kernel⟩
def fn0 : List He.DefD := [dd ("is_integer", none) "is_integer" "is_integer" s_is_integer, dd ("is_within", none) "is_within" "is_within" s_is_within, dd ("is_rising", none) "is_rising" "is_rising" s_is_rising, dd ("is_lot", none) "is_lot" "is_lot" s_is_lot, dd ("things_in", none) "things_in" "things_in" s_things_in, dd ("check_words", none) "check_words" "check_words" s_check_words, dd ("Lots", some "__init__") "__init__" "Lots.__init__" s_Lots___init__, dd ("Lots", some "__len__") "__len__" "Lots.__len__" s_Lots___len__, dd ("Lots", some "__eq__") "__eq__" "Lots.__eq__" s_Lots___eq__, dd ("Lots", some "__str__") "__str__" "Lots.__str__" s_Lots___str__, dd ("Lots", some "added") "added" "Lots.added" s_Lots_added, dd ("Lots", some "without") "without" "Lots.without" s_Lots_without, dd ("check_lots", none) "check_lots" "check_lots" s_check_lots, dd ("check_lot", none) "check_lot" "check_lot" s_check_lot, dd ("check_many", none) "check_many" "check_many" s_check_many, dd ("check_index", none) "check_index" "check_index" s_check_index, dd ("check_indexes", none) "check_indexes" "check_indexes" s_check_indexes, dd ("bits_of", none) "bits_of" "bits_of" s_bits_of, dd ("unions_by_choice", none) "unions_by_choice" "unions_by_choice" s_unions_by_choice, dd ("choices_by_union", none) "choices_by_union" "choices_by_union" s_choices_by_union, dd ("has_part", none) "has_part" "has_part" s_has_part, dd ("least_by_union", none) "least_by_union" "least_by_union" s_least_by_union, dd ("packed", none) "packed" "packed" s_packed, dd ("most_of", none) "most_of" "most_of" s_most_of, dd ("most_folds", none) "most_folds" "most_folds" s_most_folds]
def fn1 : List He.DefD := [dd ("is_wish", none) "is_wish" "is_wish" s_is_wish, dd ("check_wish", none) "check_wish" "check_wish" s_check_wish, dd ("is_kept", none) "is_kept" "is_kept" s_is_kept, dd ("Desk", some "__init__") "__init__" "Desk.__init__" s_Desk___init__, dd ("Desk", some "become") "become" "Desk.become" s_Desk_become, dd ("Desk", some "turn") "turn" "Desk.turn" s_Desk_turn, dd ("Desk", some "put") "put" "Desk.put" s_Desk_put, dd ("Desk", some "take") "take" "Desk.take" s_Desk_take, dd ("Desk", some "change") "change" "Desk.change" s_Desk_change, dd ("Desk", some "promise") "promise" "Desk.promise" s_Desk_promise, dd ("Desk", some "lift") "lift" "Desk.lift" s_Desk_lift, dd ("Desk", some "undo") "undo" "Desk.undo" s_Desk_undo, dd ("InvalidNumber", some "__init__") "__init__" "InvalidNumber.__init__" s_InvalidNumber___init__, dd ("Broken", some "__init__") "__init__" "Broken.__init__" s_Broken___init__, dd ("_law_coil", none) "_law_coil" "_law_coil" s__law_coil, dd ("_law_tug", none) "_law_tug" "_law_tug" s__law_tug, dd ("_law_take", none) "_law_take" "_law_take" s__law_take, dd ("_law_letters", none) "_law_letters" "_law_letters" s__law_letters, dd ("_law_word", none) "_law_word" "_law_word" s__law_word, dd ("_law_words", none) "_law_words" "_law_words" s__law_words, dd ("_law_masks", none) "_law_masks" "_law_masks" s__law_masks, dd ("_law_apart", none) "_law_apart" "_law_apart" s__law_apart, dd ("_law_most", none) "_law_most" "_law_most" s__law_most, dd ("_law_is_lot", none) "_law_is_lot" "_law_is_lot" s__law_is_lot, dd ("_law_is_number", none) "_law_is_number" "_law_is_number" s__law_is_number]
def fn2 : List He.DefD := [dd ("_law_is_wish", none) "_law_is_wish" "_law_is_wish" s__law_is_wish, dd ("_law_keeps", none) "_law_keeps" "_law_keeps" s__law_keeps, dd ("_law_sort", none) "_law_sort" "_law_sort" s__law_sort, dd ("_law_caught", none) "_law_caught" "_law_caught" s__law_caught, dd ("_law_any_index", none) "_law_any_index" "_law_any_index" s__law_any_index, dd ("_law_letters_of", none) "_law_letters_of" "_law_letters_of" s__law_letters_of, dd ("_law_later", none) "_law_later" "_law_later" s__law_later, dd ("_law_did", none) "_law_did" "_law_did" s__law_did, dd ("_law_shows", none) "_law_shows" "_law_shows" s__law_shows, dd ("_law_broken", none) "_law_broken" "_law_broken" s__law_broken, dd ("_law_led", none) "_law_led" "_law_led" s__law_led, dd ("_law_deed", none) "_law_deed" "_law_deed" s__law_deed, dd ("_law_right", none) "_law_right" "_law_right" s__law_right, dd ("law", none) "law" "law" s_law]
def fn : List He.DefD := fn0 ++ fn1 ++ fn2
def fa0 : List He.Fa := [.free "isinstance", .free "all", .free "any", .free "len", .free "range", .free "sorted", .free "set", .free "tuple", .free "list", .free "sum", .free "max", .free "min", .free "int", .free "abs", .free "divmod", .free "repr", .free "enumerate", .free "str", .free "bool", .free "ValueError", .free "LookupError", .free "ArithmeticError", .glo "is_integer", .glo "is_within", .glo "is_rising", .glo "is_lot", .glo "things_in", .glo "check_words", .glo "check_lots", .glo "check_lot"]
def fa1 : List He.Fa := [.glo "check_many", .glo "check_index", .glo "check_indexes", .glo "bits_of", .glo "unions_by_choice", .glo "choices_by_union", .glo "has_part", .glo "least_by_union", .glo "packed", .glo "most_of", .glo "most_folds", .glo "is_wish", .glo "check_wish", .glo "is_kept", .glo "_law_coil", .glo "_law_tug", .glo "_law_take", .glo "_law_letters", .glo "_law_word", .glo "_law_words", .glo "_law_masks", .glo "_law_apart", .glo "_law_most", .glo "_law_is_lot", .glo "_law_is_number", .glo "_law_is_wish", .glo "_law_keeps", .glo "_law_sort", .glo "_law_caught", .glo "_law_any_index"]
def fa2 : List He.Fa := [.glo "_law_letters_of", .glo "_law_later", .glo "_law_did", .glo "_law_shows", .glo "_law_broken", .glo "_law_led", .glo "_law_deed", .glo "_law_right", .glo "law", .glo "Lots", .glo "Desk", .glo "WrongValue", .glo "InvalidText", .glo "InvalidLot", .glo "InvalidFamily", .glo "InvalidTwins", .glo "InvalidBalance", .glo "InvalidThings", .glo "InvalidNumber", .glo "InvalidWish", .glo "InvalidCommand", .glo "NotLots", .glo "InvalidLots", .glo "InvalidIndexes", .glo "WrongName", .glo "UnknownThing", .glo "NotPossible", .glo "NothingToUndo", .glo "TooMany", .glo "TooFew"]
def fa3 : List He.Fa := [.glo "TooWide", .glo "Broken", .cls "Lots", .mkr "Lots", .cls "Desk", .mkr "Desk", .noat "Lots" "words", .noat "Lots" "letters", .noat "Desk" "held", .meth "Lots" "__len__", .meth "Lots" "__eq__", .meth "Lots" "__str__", .meth "Lots" "added", .meth "Lots" "without", .meth "Desk" "become", .meth "Desk" "turn", .meth "Desk" "put", .meth "Desk" "take", .meth "Desk" "change", .meth "Desk" "promise", .meth "Desk" "lift", .meth "Desk" "undo", .int "MOST_LOTS" 9, .int "MOST_THINGS" 8, .str "LETTERS" "abcdefghijklmnopqrstuvwxyz", .glo "ALONE"]
def fa : List He.Fa := fa0 ++ fa1 ++ fa2 ++ fa3
/-! ### getters of properties: by the class and the name -/
def gAd (K : PySem.W.Frag) (q : Str × Str) : Addr := match PySem.W.recIn K (He.ma K (He.ga K q.1) q.2) "property" with
  | some (.ref g :: _) => g
  | _ => 0
/-- what a function at an address holds -/
def fdAt (K : PySem.W.Frag) (a : Addr) : Option FuncData := (K.lookup a).bind fun o => match o.data with
  | .func fd => some fd
  | _ => none
def fnAt (K : PySem.W.Frag) (a : Addr) : He.FnW := (fdAt K a).map fun z => (z.name, z.qualname, z.params, z.body, z.scope, z.globals, z.closure, z.builtins)
def okAt (K : PySem.W.Frag) (a : Addr) (q : Str) : Bool := PySem.W.keepIn K (.ref a) && (fdAt K a).any fun z => PySem.W.codeIn K z.code q && He.dflB K z.defaults []
theorem fdAt_some {K : PySem.W.Frag} {a : Addr} {fd : FuncData} (h : fdAt K a = some fd) : ∃ oc od osl, K.lookup a = some ⟨oc, od, .func fd, osl⟩ := by
  obtain ⟨⟨oc, od, dt, osl⟩, h1, h2⟩ := Option.bind_eq_some_iff.mp h
  cases dt with
  | func g => cases h2; exact ⟨oc, od, osl, h1⟩
  | _ => cases h2
def gDefs : List ((Str × Str) × He.DefD) := [(("Lots", "lots"), dd ("Lots", some "lots") "lots" "Lots.lots" s_Lots_lots), (("Lots", "things"), dd ("Lots", some "things") "things" "Lots.things" s_Lots_things),
  (("Desk", "lots"), dd ("Desk", some "lots") "lots" "Desk.lots" s_Desk_lots), (("Desk", "promises"), dd ("Desk", some "promises") "promises" "Desk.promises" s_Desk_promises), (("Desk", "changes"), dd ("Desk", some "changes") "changes" "Desk.changes" s_Desk_changes)]
def propB (K : PySem.W.Frag) (q : Str × Str) : Bool := He.eqO (PySem.W.findIn K (.ref (He.ga K q.1)) q.2) (some (some (.ref (He.ma K (He.ga K q.1) q.2)))) &&
  (He.eqO (PySem.W.specialIn K (.ref (He.ma K (He.ga K q.1) q.2)) "__get__") (some (some (.builtin "property.__get__"))) && (decide (PySem.W.takesIn K (.ref (He.ma K (He.ga K q.1) q.2)) = some true) &&
  (match PySem.W.recIn K (He.ma K (He.ga K q.1) q.2) "property" with | some (.ref _ :: _) => true | _ => false)))
theorem propB_ok {K : PySem.W.Frag} {q : Str × Str} (h : propB K q = true) : PropOf K (He.ga K q.1) q.2 (He.ma K (He.ga K q.1) q.2) (gAd K q) := by
  obtain ⟨h1, h⟩ := He.ba h
  obtain ⟨h2, h⟩ := He.ba h
  obtain ⟨h3, h4⟩ := He.ba h
  refine ⟨He.eqO_ok h1, He.eqO_ok h2, of_decide_eq_true h3, ?_⟩
  unfold gAd
  cases e : PySem.W.recIn K (He.ma K (He.ga K q.1) q.2) "property" with
  | none => rw [e] at h4; cases h4
  | some l =>
    rw [e] at h4
    cases l with
    | nil => cases h4
    | cons v r =>
      cases v with
      | ref g => exact ⟨r, rfl⟩
      | _ => cases h4
def insB (K : PySem.W.Frag) (x : Str) : Bool := He.eqO (PySem.W.findIn K (.ref (He.ga K x)) "__class__") (some (some (.builtin "object.__class__"))) && (He.eqO (PySem.W.specialIn K (.builtin "object.__class__") "__get__") (some (some (.builtin "getset_descriptor.__get__"))) && (decide (PySem.W.takesIn K (.builtin "object.__class__") = some true) &&
  (decide (PySem.W.mroIn K (He.ga K x) (.type "object") = some true) && decide (PySem.W.kitOne K (.ref (He.ga K x)) (.ref (He.ga K x)) = some true))))
/-- other facts, by a Bool each -/
def exs : List (PySem.W.Frag → Bool) := [fun K => gDefs.all fun q => propB K q.1 && okAt K (gAd K q.1) q.2.qual,
  fun K => He.tupB K "ALONE" [.str "none", .str "twins", .str "free", .str "like"],
  fun K => insB K "Lots",
  fun K => xtB K "ValueError.__new__" veT "InvalidNumber" "given",
  fun K => xtB K "ArithmeticError.__new__" aeT "Broken" "index",
  fun K => xnB K "TooFew" && xnB K "NothingToUndo",
  fun K => (["InvalidNumber", "Broken", "TooFew", "NothingToUndo"] : List Str).all fun x => ecB K x && kitB K x,
  fun K => decide ((He.cT K ("_law_did", none)).2 ≠ (He.cT K ("_law_right", none)).2)]
def exB (K : PySem.W.Frag) : Bool := exs.all fun b => b K
def getV (K : PySem.W.Frag) : List He.FnW := gDefs.map fun q => fnAt K (gAd K q.1)
/-- the defs that make lambdas -/
def tf : List He.Defn := [("_law_did", none), ("_law_right", none)]
/-- what is known of the written part -/
structure Wr (P : Program) (w : World) (K : PySem.W.Frag) (mg : Str → Option Value) (base : Heap) : Prop where
  kin : K.In base
  ns : base.Ns mainGlobals mg
  says : He.SaysD fa fn K
  more : exB K = true
  gets : getV K = gDefs.map fun q => q.2.val
  tabs : ∀ p ∈ tf, LamX.TabB base mg (He.cT K p).1 (He.cT K p).2
theorem funAt {K : PySem.W.Frag} {a : Addr} {d : He.DefD} (e : fnAt K a = d.val) (c : okAt K a d.qual = true) (h1 : d.dfl = []) (h2 : d.kwd = []) : ∃ fd, FunD K d.name d.qual d.params d.body d.scope [] [] a fd := by
  obtain ⟨kp, c2⟩ := He.ba c
  cases hz : fdAt K a with
  | none => rw [hz] at c2; cases c2
  | some z =>
    rw [hz] at c2
    obtain ⟨k1, k2⟩ := He.ba (show (PySem.W.codeIn K z.code d.qual && He.dflB K z.defaults []) = true from c2)
    obtain ⟨oc, od, osl, hl⟩ := fdAt_some hz
    unfold fnAt at e
    rw [hz] at e
    cases z
    cases Option.some.inj e
    exact ⟨_, ⟨oc, od, _, _, _, _, _, _, _, osl, rfl, hl, k1, He.dflB_ok k2, .inl rfl⟩, kp⟩
section
variable {P : Program} {w : World} {K : PySem.W.Frag} {mg : Str → Option Value} {base : Heap}
theorem Wr.ex (W : Wr P w K mg base) (i : Nat) {b : PySem.W.Frag → Bool} (h : exs[i]? = some b := by rfl) : b K = true := List.all_eq_true.mp (show (exs.all fun b => b K) = true from W.more) b (List.mem_of_getElem? h)
theorem Wr.getter (W : Wr P w K mg base) (i : Nat) {q : (Str × Str) × He.DefD} (h : gDefs[i]? = some q) (h1 : q.2.dfl = [] := by rfl) (h2 : q.2.kwd = [] := by rfl) :
    PropOf K (He.ga K q.1.1) q.1.2 (He.ma K (He.ga K q.1.1) q.1.2) (gAd K q.1) ∧ ∃ fd, FunD K q.2.name q.2.qual q.2.params q.2.body q.2.scope [] [] (gAd K q.1) fd := by
  have a := List.all_eq_true.mp (show (gDefs.all fun q => propB K q.1 && okAt K (gAd K q.1) q.2.qual) = true from W.ex 0) q (List.mem_of_getElem? h)
  obtain ⟨a1, a2⟩ := He.ba a
  refine ⟨propB_ok a1, funAt ?_ a2 h1 h2⟩
  have e := congrArg (fun l => l[i]?) W.gets
  simp only [getV, List.getElem?_map, h, Option.map_some] at e
  exact Option.some.inj e
end
/-! ### a def of the text, called by its name -/
structure Fn (P : Program) (w : World) (K : PySem.W.Frag) (mg : Str → Option Value) (base : Heap) (CX : CXT) (k : Nat) (x : Str) (ps : List Str) (sp : Sp) : Prop where
  ex : ∃ f fd, FnOk P w K mg base CX k f fd ps sp ∧ mg x = some (.ref f) ∧ PySem.W.keepIn K (.ref f) = true ∧ Binds K fd ps []
structure Mt (P : Program) (w : World) (K : PySem.W.Frag) (mg : Str → Option Value) (base : Heap) (CX : CXT) (k : Nat) (C : Addr) (m : Str) (ps : List Str) (sp : Sp) : Prop where
  ex : ∃ f fd, FnOk P w K mg base CX k f fd ps sp ∧ Meth K C m f ∧ Binds K fd ps []
theorem Fn.mono {P : Program} {w : World} {K : PySem.W.Frag} {mg : Str → Option Value} {base : Heap} {CX : CXT} {j k : Nat} {x : Str} {ps : List Str} {sp : Sp} (F : Fn P w K mg base CX j x ps sp) (h : j ≤ k) : Fn P w K mg base CX k x ps sp :=
  let ⟨f, fd, a, b, c, d⟩ := F.ex; ⟨f, fd, a.mono h, b, c, d⟩
section
variable {X : Cx} {CX : CXT} {k : Nat} {C : Addr} {ps : List Str} {sp : Sp} {E : XK} {x m : Str} {p pos apos : Pos} {e o : Expr} {es : List Expr} {ta : TE} {t : TA}
theorem pe_fn (F : Fn X.prog X.w X.K X.mg X.base CX k x ps sp) (hr : Room k X.A) (hg : Gl X x) (hx : Passes CX X E) (ha : PA X (e :: es) t)
    (hdb : (x == ("__debug__" : Str)) = false := by decide) (he : starEach (e :: es) X.env = (false, eval e X.env) :: starEach es X.env := by rfl) (hpl : (backTo pos (starEach es X.env)).any (·.1) = false := by rfl) :
    PE X (.Call (.Name x p) (e :: es) [] pos) (tCall sp [] E t) := by
  obtain ⟨f, fd, a, b, c, d⟩ := F.ex
  exact pe_call a hr hg b c d .nil hx ha hdb he hpl
theorem pe_mt {pl : Sem Bool} (F : Mt X.prog X.w X.K X.mg X.base CX k C m ps sp) (c : Cls X.K C) (hr : Room k X.A) (hx : Passes CX X E) (he : PE X o ta) (ha : PA X (e :: es) t)
    (hst : starEach (e :: es) X.env = (false, eval e X.env) :: starEach es X.env := by rfl) (hpl : (backTo pos (starEach es X.env)).any (·.1) = false := by rfl)
    (ht : eval (.Call (.Attribute o m apos) (e :: es) [] pos) X.env = (do
      let ov ← eval o X.env
      standAt apos.atName
      let (f, first) ← holding [ov] (getMethod ov m pl)
      callWith pos f first (backTo pos (starEach (e :: es) X.env)) (backToKw pos (keywordEach [] X.env))) := by rfl) :
    PE X (.Call (.Attribute o m apos) (e :: es) [] pos) (tMeth C m sp [] E ta t) := by
  obtain ⟨f, fd, a, b, d⟩ := F.ex
  exact pe_meth he c b a hr d .nil hx ha hst hpl ht
theorem pe_mt0 {pl : Sem Bool} (F : Mt X.prog X.w X.K X.mg X.base CX k C m ps sp) (c : Cls X.K C) (hr : Room k X.A) (hx : Passes CX X E) (he : PE X o ta)
    (ht : eval (.Call (.Attribute o m apos) [] [] pos) X.env = (do
      let ov ← eval o X.env
      standAt apos.atName
      let (f, first) ← holding [ov] (getMethod ov m pl)
      callWith pos f first (backTo pos (starEach [] X.env)) (backToKw pos (keywordEach [] X.env))) := by rfl) :
    PE X (.Call (.Attribute o m apos) [] [] pos) (tMeth C m sp [] E ta tNil) := by
  obtain ⟨f, fd, a, b, d⟩ := F.ex
  exact pe_meth0 he c b a hr d .nil hx ht
/-- a constant of the module -/
theorem pe_gi {i : Int} (hg : Gl X x) (h : ∃ t, X.mg x = some (.int i t)) (hd : (x == ("__debug__" : Str)) = false := by decide) : PE X (.Name x pos) (tC (.int i)) := let ⟨_, q⟩ := h; pe_glob hg q ⟨_, rfl⟩ hd
theorem pe_gs {z : Str} (hg : Gl X x) (h : ∃ t, X.mg x = some (.str z t)) (hd : (x == ("__debug__" : Str)) = false := by decide) : PE X (.Name x pos) (tC (.str z)) := let ⟨_, q⟩ := h; pe_glob hg q ⟨_, rfl⟩ hd
/-- a name is stored -/
theorem setU {i : Nat} {te : TE} {pos' : Pos} (hN : X.N.Nodup) (he : PE X e te) (hi : X.N[i]? = some x := by rfl) (hx : Loc X.env.scope x := by first | exact Or.inl rfl | exact Or.inr rfl) (hs : swapsWith e (some (.Name x pos')) pos.line X.env = pure false := by rfl) (hf : X.fn x = true ∨ X.env.scope.names.lookup x = some .local := by first | exact .inl rfl | exact .inr rfl | assumption) :
    PS X (.Assign [.Name x pos'] e pos) (tAsg te (gName i)) := ps_set hN hi hx he hs hf
theorem nameU {i : Nat} (hN : X.N.Nodup) (hi : X.N[i]? = some x := by rfl) (hx : Loc X.env.scope x := by first | exact Or.inl rfl | exact Or.inr rfl) (hf : X.fn x = true ∨ X.env.scope.names.lookup x = some .local := by first | exact .inl rfl | exact .inr rfl | assumption) : PG X (.Name x pos) (gName i) := pg_name hN hi hx hf
end
/-- a def of the text by its body -/
theorem fn_mk {P : Program} {w : World} {K : PySem.W.Frag} {mg : Str → Option Value} {base : Heap} {CX : CXT} {x qual : Str} {st : Stmt} {N ps : List Str} {k : Nat} {sp : Sp} {a : Addr}
    (F : ∃ fd, FunD K x qual (defArgs st) (defBody st) (defScope st) [] [] a fd) (hm : mg x = some (.ref a)) (S : FnScope N ps (defScope st)) (len : ∀ vs H Q E, sp vs H Q E → vs.length = ps.length)
    (hb : ∀ (kV doc pm : Value) (an : Option Addr) (cdv ct : Value) (us : List Value), us.length = ps.length → bindArgs (PySem.W.fnOf x qual (defArgs st) (defBody st) (defScope st) .none kV doc pm an cdv ct) ⟨us, []⟩ = pure (ps.zip us))
    (hbody : ∀ (cdv : Value) (A : Around) (outer : List Env) (s : Shared) (H : Hp) (vs : List V) (Q : VK) (E : XK), Room k (A.deeper (envOfC qual (defScope st) s.heap.objs.size a cdv)) → sp vs H Q E →
      ∃ t, PSs (cxOf CX P w K mg base N qual (defScope st) a cdv A outer s H E) (defBody st) t ∧ t { nx := fun _ H' => Q .non H', rt := Q } (start N vs) H) : Fn P w K mg base CX (k + 1) x ps sp := by
  obtain ⟨fd, F⟩ := F
  exact ⟨a, fd, F.ok S len hbody, hm, F.kp, F.bindsN hb⟩
theorem mt_mk {P : Program} {w : World} {K : PySem.W.Frag} {mg : Str → Option Value} {base : Heap} {CX : CXT} {m qual : Str} {st : Stmt} {N ps : List Str} {k : Nat} {sp : Sp} {a C : Addr}
    (F : ∃ fd, FunD K m qual (defArgs st) (defBody st) (defScope st) [] [] a fd) (hm : Meth K C m a) (S : FnScope N ps (defScope st)) (len : ∀ vs H Q E, sp vs H Q E → vs.length = ps.length)
    (hb : ∀ (kV doc pm : Value) (an : Option Addr) (cdv ct : Value) (us : List Value), us.length = ps.length → bindArgs (PySem.W.fnOf m qual (defArgs st) (defBody st) (defScope st) .none kV doc pm an cdv ct) ⟨us, []⟩ = pure (ps.zip us))
    (hbody : ∀ (cdv : Value) (A : Around) (outer : List Env) (s : Shared) (H : Hp) (vs : List V) (Q : VK) (E : XK), Room k (A.deeper (envOfC qual (defScope st) s.heap.objs.size a cdv)) → sp vs H Q E →
      ∃ t, PSs (cxOf CX P w K mg base N qual (defScope st) a cdv A outer s H E) (defBody st) t ∧ t { nx := fun _ H' => Q .non H', rt := Q } (start N vs) H) : Mt P w K mg base CX (k + 1) C m ps sp := by
  obtain ⟨fd, F⟩ := F
  exact ⟨a, fd, F.ok S len hbody, hm, F.bindsN hb⟩

section
variable {P : Program} {w : World} {K : PySem.W.Frag} {mg : Str → Option Value} {base : Heap}
theorem Wr.n_isinstance (W : Wr P w K mg base) : mg "isinstance" = none := He.free_ok W.kin W.ns (W.says.fact 0 (f := .free "isinstance") rfl)
theorem Wr.n_all (W : Wr P w K mg base) : mg "all" = none := He.free_ok W.kin W.ns (W.says.fact 1 (f := .free "all") rfl)
theorem Wr.n_any (W : Wr P w K mg base) : mg "any" = none := He.free_ok W.kin W.ns (W.says.fact 2 (f := .free "any") rfl)
theorem Wr.n_len (W : Wr P w K mg base) : mg "len" = none := He.free_ok W.kin W.ns (W.says.fact 3 (f := .free "len") rfl)
theorem Wr.n_range (W : Wr P w K mg base) : mg "range" = none := He.free_ok W.kin W.ns (W.says.fact 4 (f := .free "range") rfl)
theorem Wr.n_sorted (W : Wr P w K mg base) : mg "sorted" = none := He.free_ok W.kin W.ns (W.says.fact 5 (f := .free "sorted") rfl)
theorem Wr.n_set (W : Wr P w K mg base) : mg "set" = none := He.free_ok W.kin W.ns (W.says.fact 6 (f := .free "set") rfl)
theorem Wr.n_tuple (W : Wr P w K mg base) : mg "tuple" = none := He.free_ok W.kin W.ns (W.says.fact 7 (f := .free "tuple") rfl)
theorem Wr.n_list (W : Wr P w K mg base) : mg "list" = none := He.free_ok W.kin W.ns (W.says.fact 8 (f := .free "list") rfl)
theorem Wr.n_sum (W : Wr P w K mg base) : mg "sum" = none := He.free_ok W.kin W.ns (W.says.fact 9 (f := .free "sum") rfl)
theorem Wr.n_max (W : Wr P w K mg base) : mg "max" = none := He.free_ok W.kin W.ns (W.says.fact 10 (f := .free "max") rfl)
theorem Wr.n_min (W : Wr P w K mg base) : mg "min" = none := He.free_ok W.kin W.ns (W.says.fact 11 (f := .free "min") rfl)
theorem Wr.n_int (W : Wr P w K mg base) : mg "int" = none := He.free_ok W.kin W.ns (W.says.fact 12 (f := .free "int") rfl)
theorem Wr.n_abs (W : Wr P w K mg base) : mg "abs" = none := He.free_ok W.kin W.ns (W.says.fact 13 (f := .free "abs") rfl)
theorem Wr.n_divmod (W : Wr P w K mg base) : mg "divmod" = none := He.free_ok W.kin W.ns (W.says.fact 14 (f := .free "divmod") rfl)
theorem Wr.n_repr (W : Wr P w K mg base) : mg "repr" = none := He.free_ok W.kin W.ns (W.says.fact 15 (f := .free "repr") rfl)
theorem Wr.n_enumerate (W : Wr P w K mg base) : mg "enumerate" = none := He.free_ok W.kin W.ns (W.says.fact 16 (f := .free "enumerate") rfl)
theorem Wr.n_str (W : Wr P w K mg base) : mg "str" = none := He.free_ok W.kin W.ns (W.says.fact 17 (f := .free "str") rfl)
theorem Wr.n_bool (W : Wr P w K mg base) : mg "bool" = none := He.free_ok W.kin W.ns (W.says.fact 18 (f := .free "bool") rfl)
theorem Wr.n_ValueError (W : Wr P w K mg base) : mg "ValueError" = none := He.free_ok W.kin W.ns (W.says.fact 19 (f := .free "ValueError") rfl)
theorem Wr.n_LookupError (W : Wr P w K mg base) : mg "LookupError" = none := He.free_ok W.kin W.ns (W.says.fact 20 (f := .free "LookupError") rfl)
theorem Wr.n_ArithmeticError (W : Wr P w K mg base) : mg "ArithmeticError" = none := He.free_ok W.kin W.ns (W.says.fact 21 (f := .free "ArithmeticError") rfl)
theorem Wr.g_is_integer (W : Wr P w K mg base) : mg "is_integer" = some (.ref (He.ga K "is_integer")) := He.glo_ok W.kin W.ns (W.says.fact 22 (f := .glo "is_integer") rfl)
theorem Wr.g_is_within (W : Wr P w K mg base) : mg "is_within" = some (.ref (He.ga K "is_within")) := He.glo_ok W.kin W.ns (W.says.fact 23 (f := .glo "is_within") rfl)
theorem Wr.g_is_rising (W : Wr P w K mg base) : mg "is_rising" = some (.ref (He.ga K "is_rising")) := He.glo_ok W.kin W.ns (W.says.fact 24 (f := .glo "is_rising") rfl)
theorem Wr.g_is_lot (W : Wr P w K mg base) : mg "is_lot" = some (.ref (He.ga K "is_lot")) := He.glo_ok W.kin W.ns (W.says.fact 25 (f := .glo "is_lot") rfl)
theorem Wr.g_things_in (W : Wr P w K mg base) : mg "things_in" = some (.ref (He.ga K "things_in")) := He.glo_ok W.kin W.ns (W.says.fact 26 (f := .glo "things_in") rfl)
theorem Wr.g_check_words (W : Wr P w K mg base) : mg "check_words" = some (.ref (He.ga K "check_words")) := He.glo_ok W.kin W.ns (W.says.fact 27 (f := .glo "check_words") rfl)
theorem Wr.g_check_lots (W : Wr P w K mg base) : mg "check_lots" = some (.ref (He.ga K "check_lots")) := He.glo_ok W.kin W.ns (W.says.fact 28 (f := .glo "check_lots") rfl)
theorem Wr.g_check_lot (W : Wr P w K mg base) : mg "check_lot" = some (.ref (He.ga K "check_lot")) := He.glo_ok W.kin W.ns (W.says.fact 29 (f := .glo "check_lot") rfl)
theorem Wr.g_check_many (W : Wr P w K mg base) : mg "check_many" = some (.ref (He.ga K "check_many")) := He.glo_ok W.kin W.ns (W.says.fact 30 (f := .glo "check_many") rfl)
theorem Wr.g_check_index (W : Wr P w K mg base) : mg "check_index" = some (.ref (He.ga K "check_index")) := He.glo_ok W.kin W.ns (W.says.fact 31 (f := .glo "check_index") rfl)
theorem Wr.g_check_indexes (W : Wr P w K mg base) : mg "check_indexes" = some (.ref (He.ga K "check_indexes")) := He.glo_ok W.kin W.ns (W.says.fact 32 (f := .glo "check_indexes") rfl)
theorem Wr.g_bits_of (W : Wr P w K mg base) : mg "bits_of" = some (.ref (He.ga K "bits_of")) := He.glo_ok W.kin W.ns (W.says.fact 33 (f := .glo "bits_of") rfl)
theorem Wr.g_unions_by_choice (W : Wr P w K mg base) : mg "unions_by_choice" = some (.ref (He.ga K "unions_by_choice")) := He.glo_ok W.kin W.ns (W.says.fact 34 (f := .glo "unions_by_choice") rfl)
theorem Wr.g_choices_by_union (W : Wr P w K mg base) : mg "choices_by_union" = some (.ref (He.ga K "choices_by_union")) := He.glo_ok W.kin W.ns (W.says.fact 35 (f := .glo "choices_by_union") rfl)
theorem Wr.g_has_part (W : Wr P w K mg base) : mg "has_part" = some (.ref (He.ga K "has_part")) := He.glo_ok W.kin W.ns (W.says.fact 36 (f := .glo "has_part") rfl)
theorem Wr.g_least_by_union (W : Wr P w K mg base) : mg "least_by_union" = some (.ref (He.ga K "least_by_union")) := He.glo_ok W.kin W.ns (W.says.fact 37 (f := .glo "least_by_union") rfl)
theorem Wr.g_packed (W : Wr P w K mg base) : mg "packed" = some (.ref (He.ga K "packed")) := He.glo_ok W.kin W.ns (W.says.fact 38 (f := .glo "packed") rfl)
theorem Wr.g_most_of (W : Wr P w K mg base) : mg "most_of" = some (.ref (He.ga K "most_of")) := He.glo_ok W.kin W.ns (W.says.fact 39 (f := .glo "most_of") rfl)
theorem Wr.g_most_folds (W : Wr P w K mg base) : mg "most_folds" = some (.ref (He.ga K "most_folds")) := He.glo_ok W.kin W.ns (W.says.fact 40 (f := .glo "most_folds") rfl)
theorem Wr.g_is_wish (W : Wr P w K mg base) : mg "is_wish" = some (.ref (He.ga K "is_wish")) := He.glo_ok W.kin W.ns (W.says.fact 41 (f := .glo "is_wish") rfl)
theorem Wr.g_check_wish (W : Wr P w K mg base) : mg "check_wish" = some (.ref (He.ga K "check_wish")) := He.glo_ok W.kin W.ns (W.says.fact 42 (f := .glo "check_wish") rfl)
theorem Wr.g_is_kept (W : Wr P w K mg base) : mg "is_kept" = some (.ref (He.ga K "is_kept")) := He.glo_ok W.kin W.ns (W.says.fact 43 (f := .glo "is_kept") rfl)
theorem Wr.g__law_coil (W : Wr P w K mg base) : mg "_law_coil" = some (.ref (He.ga K "_law_coil")) := He.glo_ok W.kin W.ns (W.says.fact 44 (f := .glo "_law_coil") rfl)
theorem Wr.g__law_tug (W : Wr P w K mg base) : mg "_law_tug" = some (.ref (He.ga K "_law_tug")) := He.glo_ok W.kin W.ns (W.says.fact 45 (f := .glo "_law_tug") rfl)
theorem Wr.g__law_take (W : Wr P w K mg base) : mg "_law_take" = some (.ref (He.ga K "_law_take")) := He.glo_ok W.kin W.ns (W.says.fact 46 (f := .glo "_law_take") rfl)
theorem Wr.g__law_letters (W : Wr P w K mg base) : mg "_law_letters" = some (.ref (He.ga K "_law_letters")) := He.glo_ok W.kin W.ns (W.says.fact 47 (f := .glo "_law_letters") rfl)
theorem Wr.g__law_word (W : Wr P w K mg base) : mg "_law_word" = some (.ref (He.ga K "_law_word")) := He.glo_ok W.kin W.ns (W.says.fact 48 (f := .glo "_law_word") rfl)
theorem Wr.g__law_words (W : Wr P w K mg base) : mg "_law_words" = some (.ref (He.ga K "_law_words")) := He.glo_ok W.kin W.ns (W.says.fact 49 (f := .glo "_law_words") rfl)
theorem Wr.g__law_masks (W : Wr P w K mg base) : mg "_law_masks" = some (.ref (He.ga K "_law_masks")) := He.glo_ok W.kin W.ns (W.says.fact 50 (f := .glo "_law_masks") rfl)
theorem Wr.g__law_apart (W : Wr P w K mg base) : mg "_law_apart" = some (.ref (He.ga K "_law_apart")) := He.glo_ok W.kin W.ns (W.says.fact 51 (f := .glo "_law_apart") rfl)
theorem Wr.g__law_most (W : Wr P w K mg base) : mg "_law_most" = some (.ref (He.ga K "_law_most")) := He.glo_ok W.kin W.ns (W.says.fact 52 (f := .glo "_law_most") rfl)
theorem Wr.g__law_is_lot (W : Wr P w K mg base) : mg "_law_is_lot" = some (.ref (He.ga K "_law_is_lot")) := He.glo_ok W.kin W.ns (W.says.fact 53 (f := .glo "_law_is_lot") rfl)
theorem Wr.g__law_is_number (W : Wr P w K mg base) : mg "_law_is_number" = some (.ref (He.ga K "_law_is_number")) := He.glo_ok W.kin W.ns (W.says.fact 54 (f := .glo "_law_is_number") rfl)
theorem Wr.g__law_is_wish (W : Wr P w K mg base) : mg "_law_is_wish" = some (.ref (He.ga K "_law_is_wish")) := He.glo_ok W.kin W.ns (W.says.fact 55 (f := .glo "_law_is_wish") rfl)
theorem Wr.g__law_keeps (W : Wr P w K mg base) : mg "_law_keeps" = some (.ref (He.ga K "_law_keeps")) := He.glo_ok W.kin W.ns (W.says.fact 56 (f := .glo "_law_keeps") rfl)
theorem Wr.g__law_sort (W : Wr P w K mg base) : mg "_law_sort" = some (.ref (He.ga K "_law_sort")) := He.glo_ok W.kin W.ns (W.says.fact 57 (f := .glo "_law_sort") rfl)
theorem Wr.g__law_caught (W : Wr P w K mg base) : mg "_law_caught" = some (.ref (He.ga K "_law_caught")) := He.glo_ok W.kin W.ns (W.says.fact 58 (f := .glo "_law_caught") rfl)
theorem Wr.g__law_any_index (W : Wr P w K mg base) : mg "_law_any_index" = some (.ref (He.ga K "_law_any_index")) := He.glo_ok W.kin W.ns (W.says.fact 59 (f := .glo "_law_any_index") rfl)
theorem Wr.g__law_letters_of (W : Wr P w K mg base) : mg "_law_letters_of" = some (.ref (He.ga K "_law_letters_of")) := He.glo_ok W.kin W.ns (W.says.fact 60 (f := .glo "_law_letters_of") rfl)
theorem Wr.g__law_later (W : Wr P w K mg base) : mg "_law_later" = some (.ref (He.ga K "_law_later")) := He.glo_ok W.kin W.ns (W.says.fact 61 (f := .glo "_law_later") rfl)
theorem Wr.g__law_did (W : Wr P w K mg base) : mg "_law_did" = some (.ref (He.ga K "_law_did")) := He.glo_ok W.kin W.ns (W.says.fact 62 (f := .glo "_law_did") rfl)
theorem Wr.g__law_shows (W : Wr P w K mg base) : mg "_law_shows" = some (.ref (He.ga K "_law_shows")) := He.glo_ok W.kin W.ns (W.says.fact 63 (f := .glo "_law_shows") rfl)
theorem Wr.g__law_broken (W : Wr P w K mg base) : mg "_law_broken" = some (.ref (He.ga K "_law_broken")) := He.glo_ok W.kin W.ns (W.says.fact 64 (f := .glo "_law_broken") rfl)
theorem Wr.g__law_led (W : Wr P w K mg base) : mg "_law_led" = some (.ref (He.ga K "_law_led")) := He.glo_ok W.kin W.ns (W.says.fact 65 (f := .glo "_law_led") rfl)
theorem Wr.g__law_deed (W : Wr P w K mg base) : mg "_law_deed" = some (.ref (He.ga K "_law_deed")) := He.glo_ok W.kin W.ns (W.says.fact 66 (f := .glo "_law_deed") rfl)
theorem Wr.g__law_right (W : Wr P w K mg base) : mg "_law_right" = some (.ref (He.ga K "_law_right")) := He.glo_ok W.kin W.ns (W.says.fact 67 (f := .glo "_law_right") rfl)
theorem Wr.g_law (W : Wr P w K mg base) : mg "law" = some (.ref (He.ga K "law")) := He.glo_ok W.kin W.ns (W.says.fact 68 (f := .glo "law") rfl)
theorem Wr.g_Lots (W : Wr P w K mg base) : mg "Lots" = some (.ref (He.ga K "Lots")) := He.glo_ok W.kin W.ns (W.says.fact 69 (f := .glo "Lots") rfl)
theorem Wr.g_Desk (W : Wr P w K mg base) : mg "Desk" = some (.ref (He.ga K "Desk")) := He.glo_ok W.kin W.ns (W.says.fact 70 (f := .glo "Desk") rfl)
theorem Wr.g_WrongValue (W : Wr P w K mg base) : mg "WrongValue" = some (.ref (He.ga K "WrongValue")) := He.glo_ok W.kin W.ns (W.says.fact 71 (f := .glo "WrongValue") rfl)
theorem Wr.g_InvalidText (W : Wr P w K mg base) : mg "InvalidText" = some (.ref (He.ga K "InvalidText")) := He.glo_ok W.kin W.ns (W.says.fact 72 (f := .glo "InvalidText") rfl)
theorem Wr.g_InvalidLot (W : Wr P w K mg base) : mg "InvalidLot" = some (.ref (He.ga K "InvalidLot")) := He.glo_ok W.kin W.ns (W.says.fact 73 (f := .glo "InvalidLot") rfl)
theorem Wr.g_InvalidFamily (W : Wr P w K mg base) : mg "InvalidFamily" = some (.ref (He.ga K "InvalidFamily")) := He.glo_ok W.kin W.ns (W.says.fact 74 (f := .glo "InvalidFamily") rfl)
theorem Wr.g_InvalidTwins (W : Wr P w K mg base) : mg "InvalidTwins" = some (.ref (He.ga K "InvalidTwins")) := He.glo_ok W.kin W.ns (W.says.fact 75 (f := .glo "InvalidTwins") rfl)
theorem Wr.g_InvalidBalance (W : Wr P w K mg base) : mg "InvalidBalance" = some (.ref (He.ga K "InvalidBalance")) := He.glo_ok W.kin W.ns (W.says.fact 76 (f := .glo "InvalidBalance") rfl)
theorem Wr.g_InvalidThings (W : Wr P w K mg base) : mg "InvalidThings" = some (.ref (He.ga K "InvalidThings")) := He.glo_ok W.kin W.ns (W.says.fact 77 (f := .glo "InvalidThings") rfl)
theorem Wr.g_InvalidNumber (W : Wr P w K mg base) : mg "InvalidNumber" = some (.ref (He.ga K "InvalidNumber")) := He.glo_ok W.kin W.ns (W.says.fact 78 (f := .glo "InvalidNumber") rfl)
theorem Wr.g_InvalidWish (W : Wr P w K mg base) : mg "InvalidWish" = some (.ref (He.ga K "InvalidWish")) := He.glo_ok W.kin W.ns (W.says.fact 79 (f := .glo "InvalidWish") rfl)
theorem Wr.g_InvalidCommand (W : Wr P w K mg base) : mg "InvalidCommand" = some (.ref (He.ga K "InvalidCommand")) := He.glo_ok W.kin W.ns (W.says.fact 80 (f := .glo "InvalidCommand") rfl)
theorem Wr.g_NotLots (W : Wr P w K mg base) : mg "NotLots" = some (.ref (He.ga K "NotLots")) := He.glo_ok W.kin W.ns (W.says.fact 81 (f := .glo "NotLots") rfl)
theorem Wr.g_InvalidLots (W : Wr P w K mg base) : mg "InvalidLots" = some (.ref (He.ga K "InvalidLots")) := He.glo_ok W.kin W.ns (W.says.fact 82 (f := .glo "InvalidLots") rfl)
theorem Wr.g_InvalidIndexes (W : Wr P w K mg base) : mg "InvalidIndexes" = some (.ref (He.ga K "InvalidIndexes")) := He.glo_ok W.kin W.ns (W.says.fact 83 (f := .glo "InvalidIndexes") rfl)
theorem Wr.g_WrongName (W : Wr P w K mg base) : mg "WrongName" = some (.ref (He.ga K "WrongName")) := He.glo_ok W.kin W.ns (W.says.fact 84 (f := .glo "WrongName") rfl)
theorem Wr.g_UnknownThing (W : Wr P w K mg base) : mg "UnknownThing" = some (.ref (He.ga K "UnknownThing")) := He.glo_ok W.kin W.ns (W.says.fact 85 (f := .glo "UnknownThing") rfl)
theorem Wr.g_NotPossible (W : Wr P w K mg base) : mg "NotPossible" = some (.ref (He.ga K "NotPossible")) := He.glo_ok W.kin W.ns (W.says.fact 86 (f := .glo "NotPossible") rfl)
theorem Wr.g_NothingToUndo (W : Wr P w K mg base) : mg "NothingToUndo" = some (.ref (He.ga K "NothingToUndo")) := He.glo_ok W.kin W.ns (W.says.fact 87 (f := .glo "NothingToUndo") rfl)
theorem Wr.g_TooMany (W : Wr P w K mg base) : mg "TooMany" = some (.ref (He.ga K "TooMany")) := He.glo_ok W.kin W.ns (W.says.fact 88 (f := .glo "TooMany") rfl)
theorem Wr.g_TooFew (W : Wr P w K mg base) : mg "TooFew" = some (.ref (He.ga K "TooFew")) := He.glo_ok W.kin W.ns (W.says.fact 89 (f := .glo "TooFew") rfl)
theorem Wr.g_TooWide (W : Wr P w K mg base) : mg "TooWide" = some (.ref (He.ga K "TooWide")) := He.glo_ok W.kin W.ns (W.says.fact 90 (f := .glo "TooWide") rfl)
theorem Wr.g_Broken (W : Wr P w K mg base) : mg "Broken" = some (.ref (He.ga K "Broken")) := He.glo_ok W.kin W.ns (W.says.fact 91 (f := .glo "Broken") rfl)
theorem Wr.cl_Lots (W : Wr P w K mg base) : Cls K (He.ga K "Lots") := He.cls_ok (W.says.fact 92 (f := .cls "Lots") rfl)
theorem Wr.mk_Lots (W : Wr P w K mg base) : Mk K (He.ga K "Lots") (He.ma K (He.ga K "Lots") "__init__") := He.mkr_ok (W.says.fact 93 (f := .mkr "Lots") rfl)
theorem Wr.cl_Desk (W : Wr P w K mg base) : Cls K (He.ga K "Desk") := He.cls_ok (W.says.fact 94 (f := .cls "Desk") rfl)
theorem Wr.mk_Desk (W : Wr P w K mg base) : Mk K (He.ga K "Desk") (He.ma K (He.ga K "Desk") "__init__") := He.mkr_ok (W.says.fact 95 (f := .mkr "Desk") rfl)
theorem Wr.na_Lots_words (W : Wr P w K mg base) : NoAttr K (He.ga K "Lots") "words" := He.noat_ok (W.says.fact 96 (f := .noat "Lots" "words") rfl)
theorem Wr.na_Lots_letters (W : Wr P w K mg base) : NoAttr K (He.ga K "Lots") "letters" := He.noat_ok (W.says.fact 97 (f := .noat "Lots" "letters") rfl)
theorem Wr.na_Desk_held (W : Wr P w K mg base) : NoAttr K (He.ga K "Desk") "held" := He.noat_ok (W.says.fact 98 (f := .noat "Desk" "held") rfl)
theorem Wr.m_Lots___len__ (W : Wr P w K mg base) : Meth K (He.ga K "Lots") "__len__" (He.ma K (He.ga K "Lots") "__len__") := He.meth_ok (W.says.fact 99 (f := .meth "Lots" "__len__") rfl)
theorem Wr.m_Lots___eq__ (W : Wr P w K mg base) : Meth K (He.ga K "Lots") "__eq__" (He.ma K (He.ga K "Lots") "__eq__") := He.meth_ok (W.says.fact 100 (f := .meth "Lots" "__eq__") rfl)
theorem Wr.m_Lots___str__ (W : Wr P w K mg base) : Meth K (He.ga K "Lots") "__str__" (He.ma K (He.ga K "Lots") "__str__") := He.meth_ok (W.says.fact 101 (f := .meth "Lots" "__str__") rfl)
theorem Wr.m_Lots_added (W : Wr P w K mg base) : Meth K (He.ga K "Lots") "added" (He.ma K (He.ga K "Lots") "added") := He.meth_ok (W.says.fact 102 (f := .meth "Lots" "added") rfl)
theorem Wr.m_Lots_without (W : Wr P w K mg base) : Meth K (He.ga K "Lots") "without" (He.ma K (He.ga K "Lots") "without") := He.meth_ok (W.says.fact 103 (f := .meth "Lots" "without") rfl)
theorem Wr.m_Desk_become (W : Wr P w K mg base) : Meth K (He.ga K "Desk") "become" (He.ma K (He.ga K "Desk") "become") := He.meth_ok (W.says.fact 104 (f := .meth "Desk" "become") rfl)
theorem Wr.m_Desk_turn (W : Wr P w K mg base) : Meth K (He.ga K "Desk") "turn" (He.ma K (He.ga K "Desk") "turn") := He.meth_ok (W.says.fact 105 (f := .meth "Desk" "turn") rfl)
theorem Wr.m_Desk_put (W : Wr P w K mg base) : Meth K (He.ga K "Desk") "put" (He.ma K (He.ga K "Desk") "put") := He.meth_ok (W.says.fact 106 (f := .meth "Desk" "put") rfl)
theorem Wr.m_Desk_take (W : Wr P w K mg base) : Meth K (He.ga K "Desk") "take" (He.ma K (He.ga K "Desk") "take") := He.meth_ok (W.says.fact 107 (f := .meth "Desk" "take") rfl)
theorem Wr.m_Desk_change (W : Wr P w K mg base) : Meth K (He.ga K "Desk") "change" (He.ma K (He.ga K "Desk") "change") := He.meth_ok (W.says.fact 108 (f := .meth "Desk" "change") rfl)
theorem Wr.m_Desk_promise (W : Wr P w K mg base) : Meth K (He.ga K "Desk") "promise" (He.ma K (He.ga K "Desk") "promise") := He.meth_ok (W.says.fact 109 (f := .meth "Desk" "promise") rfl)
theorem Wr.m_Desk_lift (W : Wr P w K mg base) : Meth K (He.ga K "Desk") "lift" (He.ma K (He.ga K "Desk") "lift") := He.meth_ok (W.says.fact 110 (f := .meth "Desk" "lift") rfl)
theorem Wr.m_Desk_undo (W : Wr P w K mg base) : Meth K (He.ga K "Desk") "undo" (He.ma K (He.ga K "Desk") "undo") := He.meth_ok (W.says.fact 111 (f := .meth "Desk" "undo") rfl)
theorem Wr.i_MOST_LOTS (W : Wr P w K mg base) : ∃ t, mg "MOST_LOTS" = some (.int 9 t) := He.int_ok W.kin W.ns (W.says.fact 112 (f := .int "MOST_LOTS" 9) rfl)
theorem Wr.i_MOST_THINGS (W : Wr P w K mg base) : ∃ t, mg "MOST_THINGS" = some (.int 8 t) := He.int_ok W.kin W.ns (W.says.fact 113 (f := .int "MOST_THINGS" 8) rfl)
theorem Wr.z_LETTERS (W : Wr P w K mg base) : ∃ t, mg "LETTERS" = some (.str "abcdefghijklmnopqrstuvwxyz" t) := He.str_ok W.kin W.ns (W.says.fact 114 (f := .str "LETTERS" "abcdefghijklmnopqrstuvwxyz") rfl)
theorem Wr.g_ALONE (W : Wr P w K mg base) : mg "ALONE" = some (.ref (He.ga K "ALONE")) := He.glo_ok W.kin W.ns (W.says.fact 115 (f := .glo "ALONE") rfl)
theorem Wr.d_is_integer (W : Wr P w K mg base) : ∃ fd, FunD K "is_integer" "is_integer" (defArgs s_is_integer) (defBody s_is_integer) (defScope s_is_integer) [] [] (He.fAd K ("is_integer", none)) fd := W.says.def_ 0 (d := dd ("is_integer", none) "is_integer" "is_integer" s_is_integer) rfl
theorem Wr.d_is_within (W : Wr P w K mg base) : ∃ fd, FunD K "is_within" "is_within" (defArgs s_is_within) (defBody s_is_within) (defScope s_is_within) [] [] (He.fAd K ("is_within", none)) fd := W.says.def_ 1 (d := dd ("is_within", none) "is_within" "is_within" s_is_within) rfl
theorem Wr.d_is_rising (W : Wr P w K mg base) : ∃ fd, FunD K "is_rising" "is_rising" (defArgs s_is_rising) (defBody s_is_rising) (defScope s_is_rising) [] [] (He.fAd K ("is_rising", none)) fd := W.says.def_ 2 (d := dd ("is_rising", none) "is_rising" "is_rising" s_is_rising) rfl
theorem Wr.d_is_lot (W : Wr P w K mg base) : ∃ fd, FunD K "is_lot" "is_lot" (defArgs s_is_lot) (defBody s_is_lot) (defScope s_is_lot) [] [] (He.fAd K ("is_lot", none)) fd := W.says.def_ 3 (d := dd ("is_lot", none) "is_lot" "is_lot" s_is_lot) rfl
theorem Wr.d_things_in (W : Wr P w K mg base) : ∃ fd, FunD K "things_in" "things_in" (defArgs s_things_in) (defBody s_things_in) (defScope s_things_in) [] [] (He.fAd K ("things_in", none)) fd := W.says.def_ 4 (d := dd ("things_in", none) "things_in" "things_in" s_things_in) rfl
theorem Wr.d_check_words (W : Wr P w K mg base) : ∃ fd, FunD K "check_words" "check_words" (defArgs s_check_words) (defBody s_check_words) (defScope s_check_words) [] [] (He.fAd K ("check_words", none)) fd := W.says.def_ 5 (d := dd ("check_words", none) "check_words" "check_words" s_check_words) rfl
theorem Wr.d_Lots___init__ (W : Wr P w K mg base) : ∃ fd, FunD K "__init__" "Lots.__init__" (defArgs s_Lots___init__) (defBody s_Lots___init__) (defScope s_Lots___init__) [] [] (He.fAd K ("Lots", some "__init__")) fd := W.says.def_ 6 (d := dd ("Lots", some "__init__") "__init__" "Lots.__init__" s_Lots___init__) rfl
theorem Wr.d_Lots___len__ (W : Wr P w K mg base) : ∃ fd, FunD K "__len__" "Lots.__len__" (defArgs s_Lots___len__) (defBody s_Lots___len__) (defScope s_Lots___len__) [] [] (He.fAd K ("Lots", some "__len__")) fd := W.says.def_ 7 (d := dd ("Lots", some "__len__") "__len__" "Lots.__len__" s_Lots___len__) rfl
theorem Wr.d_Lots___eq__ (W : Wr P w K mg base) : ∃ fd, FunD K "__eq__" "Lots.__eq__" (defArgs s_Lots___eq__) (defBody s_Lots___eq__) (defScope s_Lots___eq__) [] [] (He.fAd K ("Lots", some "__eq__")) fd := W.says.def_ 8 (d := dd ("Lots", some "__eq__") "__eq__" "Lots.__eq__" s_Lots___eq__) rfl
theorem Wr.d_Lots___str__ (W : Wr P w K mg base) : ∃ fd, FunD K "__str__" "Lots.__str__" (defArgs s_Lots___str__) (defBody s_Lots___str__) (defScope s_Lots___str__) [] [] (He.fAd K ("Lots", some "__str__")) fd := W.says.def_ 9 (d := dd ("Lots", some "__str__") "__str__" "Lots.__str__" s_Lots___str__) rfl
theorem Wr.d_Lots_added (W : Wr P w K mg base) : ∃ fd, FunD K "added" "Lots.added" (defArgs s_Lots_added) (defBody s_Lots_added) (defScope s_Lots_added) [] [] (He.fAd K ("Lots", some "added")) fd := W.says.def_ 10 (d := dd ("Lots", some "added") "added" "Lots.added" s_Lots_added) rfl
theorem Wr.d_Lots_without (W : Wr P w K mg base) : ∃ fd, FunD K "without" "Lots.without" (defArgs s_Lots_without) (defBody s_Lots_without) (defScope s_Lots_without) [] [] (He.fAd K ("Lots", some "without")) fd := W.says.def_ 11 (d := dd ("Lots", some "without") "without" "Lots.without" s_Lots_without) rfl
theorem Wr.d_check_lots (W : Wr P w K mg base) : ∃ fd, FunD K "check_lots" "check_lots" (defArgs s_check_lots) (defBody s_check_lots) (defScope s_check_lots) [] [] (He.fAd K ("check_lots", none)) fd := W.says.def_ 12 (d := dd ("check_lots", none) "check_lots" "check_lots" s_check_lots) rfl
theorem Wr.d_check_lot (W : Wr P w K mg base) : ∃ fd, FunD K "check_lot" "check_lot" (defArgs s_check_lot) (defBody s_check_lot) (defScope s_check_lot) [] [] (He.fAd K ("check_lot", none)) fd := W.says.def_ 13 (d := dd ("check_lot", none) "check_lot" "check_lot" s_check_lot) rfl
theorem Wr.d_check_many (W : Wr P w K mg base) : ∃ fd, FunD K "check_many" "check_many" (defArgs s_check_many) (defBody s_check_many) (defScope s_check_many) [] [] (He.fAd K ("check_many", none)) fd := W.says.def_ 14 (d := dd ("check_many", none) "check_many" "check_many" s_check_many) rfl
theorem Wr.d_check_index (W : Wr P w K mg base) : ∃ fd, FunD K "check_index" "check_index" (defArgs s_check_index) (defBody s_check_index) (defScope s_check_index) [] [] (He.fAd K ("check_index", none)) fd := W.says.def_ 15 (d := dd ("check_index", none) "check_index" "check_index" s_check_index) rfl
theorem Wr.d_check_indexes (W : Wr P w K mg base) : ∃ fd, FunD K "check_indexes" "check_indexes" (defArgs s_check_indexes) (defBody s_check_indexes) (defScope s_check_indexes) [] [] (He.fAd K ("check_indexes", none)) fd := W.says.def_ 16 (d := dd ("check_indexes", none) "check_indexes" "check_indexes" s_check_indexes) rfl
theorem Wr.d_bits_of (W : Wr P w K mg base) : ∃ fd, FunD K "bits_of" "bits_of" (defArgs s_bits_of) (defBody s_bits_of) (defScope s_bits_of) [] [] (He.fAd K ("bits_of", none)) fd := W.says.def_ 17 (d := dd ("bits_of", none) "bits_of" "bits_of" s_bits_of) rfl
theorem Wr.d_unions_by_choice (W : Wr P w K mg base) : ∃ fd, FunD K "unions_by_choice" "unions_by_choice" (defArgs s_unions_by_choice) (defBody s_unions_by_choice) (defScope s_unions_by_choice) [] [] (He.fAd K ("unions_by_choice", none)) fd := W.says.def_ 18 (d := dd ("unions_by_choice", none) "unions_by_choice" "unions_by_choice" s_unions_by_choice) rfl
theorem Wr.d_choices_by_union (W : Wr P w K mg base) : ∃ fd, FunD K "choices_by_union" "choices_by_union" (defArgs s_choices_by_union) (defBody s_choices_by_union) (defScope s_choices_by_union) [] [] (He.fAd K ("choices_by_union", none)) fd := W.says.def_ 19 (d := dd ("choices_by_union", none) "choices_by_union" "choices_by_union" s_choices_by_union) rfl
theorem Wr.d_has_part (W : Wr P w K mg base) : ∃ fd, FunD K "has_part" "has_part" (defArgs s_has_part) (defBody s_has_part) (defScope s_has_part) [] [] (He.fAd K ("has_part", none)) fd := W.says.def_ 20 (d := dd ("has_part", none) "has_part" "has_part" s_has_part) rfl
theorem Wr.d_least_by_union (W : Wr P w K mg base) : ∃ fd, FunD K "least_by_union" "least_by_union" (defArgs s_least_by_union) (defBody s_least_by_union) (defScope s_least_by_union) [] [] (He.fAd K ("least_by_union", none)) fd := W.says.def_ 21 (d := dd ("least_by_union", none) "least_by_union" "least_by_union" s_least_by_union) rfl
theorem Wr.d_packed (W : Wr P w K mg base) : ∃ fd, FunD K "packed" "packed" (defArgs s_packed) (defBody s_packed) (defScope s_packed) [] [] (He.fAd K ("packed", none)) fd := W.says.def_ 22 (d := dd ("packed", none) "packed" "packed" s_packed) rfl
theorem Wr.d_most_of (W : Wr P w K mg base) : ∃ fd, FunD K "most_of" "most_of" (defArgs s_most_of) (defBody s_most_of) (defScope s_most_of) [] [] (He.fAd K ("most_of", none)) fd := W.says.def_ 23 (d := dd ("most_of", none) "most_of" "most_of" s_most_of) rfl
theorem Wr.d_most_folds (W : Wr P w K mg base) : ∃ fd, FunD K "most_folds" "most_folds" (defArgs s_most_folds) (defBody s_most_folds) (defScope s_most_folds) [] [] (He.fAd K ("most_folds", none)) fd := W.says.def_ 24 (d := dd ("most_folds", none) "most_folds" "most_folds" s_most_folds) rfl
theorem Wr.d_is_wish (W : Wr P w K mg base) : ∃ fd, FunD K "is_wish" "is_wish" (defArgs s_is_wish) (defBody s_is_wish) (defScope s_is_wish) [] [] (He.fAd K ("is_wish", none)) fd := W.says.def_ 25 (d := dd ("is_wish", none) "is_wish" "is_wish" s_is_wish) rfl
theorem Wr.d_check_wish (W : Wr P w K mg base) : ∃ fd, FunD K "check_wish" "check_wish" (defArgs s_check_wish) (defBody s_check_wish) (defScope s_check_wish) [] [] (He.fAd K ("check_wish", none)) fd := W.says.def_ 26 (d := dd ("check_wish", none) "check_wish" "check_wish" s_check_wish) rfl
theorem Wr.d_is_kept (W : Wr P w K mg base) : ∃ fd, FunD K "is_kept" "is_kept" (defArgs s_is_kept) (defBody s_is_kept) (defScope s_is_kept) [] [] (He.fAd K ("is_kept", none)) fd := W.says.def_ 27 (d := dd ("is_kept", none) "is_kept" "is_kept" s_is_kept) rfl
theorem Wr.d_Desk___init__ (W : Wr P w K mg base) : ∃ fd, FunD K "__init__" "Desk.__init__" (defArgs s_Desk___init__) (defBody s_Desk___init__) (defScope s_Desk___init__) [] [] (He.fAd K ("Desk", some "__init__")) fd := W.says.def_ 28 (d := dd ("Desk", some "__init__") "__init__" "Desk.__init__" s_Desk___init__) rfl
theorem Wr.d_Desk_become (W : Wr P w K mg base) : ∃ fd, FunD K "become" "Desk.become" (defArgs s_Desk_become) (defBody s_Desk_become) (defScope s_Desk_become) [] [] (He.fAd K ("Desk", some "become")) fd := W.says.def_ 29 (d := dd ("Desk", some "become") "become" "Desk.become" s_Desk_become) rfl
theorem Wr.d_Desk_turn (W : Wr P w K mg base) : ∃ fd, FunD K "turn" "Desk.turn" (defArgs s_Desk_turn) (defBody s_Desk_turn) (defScope s_Desk_turn) [] [] (He.fAd K ("Desk", some "turn")) fd := W.says.def_ 30 (d := dd ("Desk", some "turn") "turn" "Desk.turn" s_Desk_turn) rfl
theorem Wr.d_Desk_put (W : Wr P w K mg base) : ∃ fd, FunD K "put" "Desk.put" (defArgs s_Desk_put) (defBody s_Desk_put) (defScope s_Desk_put) [] [] (He.fAd K ("Desk", some "put")) fd := W.says.def_ 31 (d := dd ("Desk", some "put") "put" "Desk.put" s_Desk_put) rfl
theorem Wr.d_Desk_take (W : Wr P w K mg base) : ∃ fd, FunD K "take" "Desk.take" (defArgs s_Desk_take) (defBody s_Desk_take) (defScope s_Desk_take) [] [] (He.fAd K ("Desk", some "take")) fd := W.says.def_ 32 (d := dd ("Desk", some "take") "take" "Desk.take" s_Desk_take) rfl
theorem Wr.d_Desk_change (W : Wr P w K mg base) : ∃ fd, FunD K "change" "Desk.change" (defArgs s_Desk_change) (defBody s_Desk_change) (defScope s_Desk_change) [] [] (He.fAd K ("Desk", some "change")) fd := W.says.def_ 33 (d := dd ("Desk", some "change") "change" "Desk.change" s_Desk_change) rfl
theorem Wr.d_Desk_promise (W : Wr P w K mg base) : ∃ fd, FunD K "promise" "Desk.promise" (defArgs s_Desk_promise) (defBody s_Desk_promise) (defScope s_Desk_promise) [] [] (He.fAd K ("Desk", some "promise")) fd := W.says.def_ 34 (d := dd ("Desk", some "promise") "promise" "Desk.promise" s_Desk_promise) rfl
theorem Wr.d_Desk_lift (W : Wr P w K mg base) : ∃ fd, FunD K "lift" "Desk.lift" (defArgs s_Desk_lift) (defBody s_Desk_lift) (defScope s_Desk_lift) [] [] (He.fAd K ("Desk", some "lift")) fd := W.says.def_ 35 (d := dd ("Desk", some "lift") "lift" "Desk.lift" s_Desk_lift) rfl
theorem Wr.d_Desk_undo (W : Wr P w K mg base) : ∃ fd, FunD K "undo" "Desk.undo" (defArgs s_Desk_undo) (defBody s_Desk_undo) (defScope s_Desk_undo) [] [] (He.fAd K ("Desk", some "undo")) fd := W.says.def_ 36 (d := dd ("Desk", some "undo") "undo" "Desk.undo" s_Desk_undo) rfl
theorem Wr.d_InvalidNumber___init__ (W : Wr P w K mg base) : ∃ fd, FunD K "__init__" "InvalidNumber.__init__" (defArgs s_InvalidNumber___init__) (defBody s_InvalidNumber___init__) (defScope s_InvalidNumber___init__) [] [] (He.fAd K ("InvalidNumber", some "__init__")) fd := W.says.def_ 37 (d := dd ("InvalidNumber", some "__init__") "__init__" "InvalidNumber.__init__" s_InvalidNumber___init__) rfl
theorem Wr.d_Broken___init__ (W : Wr P w K mg base) : ∃ fd, FunD K "__init__" "Broken.__init__" (defArgs s_Broken___init__) (defBody s_Broken___init__) (defScope s_Broken___init__) [] [] (He.fAd K ("Broken", some "__init__")) fd := W.says.def_ 38 (d := dd ("Broken", some "__init__") "__init__" "Broken.__init__" s_Broken___init__) rfl
theorem Wr.d__law_coil (W : Wr P w K mg base) : ∃ fd, FunD K "_law_coil" "_law_coil" (defArgs s__law_coil) (defBody s__law_coil) (defScope s__law_coil) [] [] (He.fAd K ("_law_coil", none)) fd := W.says.def_ 39 (d := dd ("_law_coil", none) "_law_coil" "_law_coil" s__law_coil) rfl
theorem Wr.d__law_tug (W : Wr P w K mg base) : ∃ fd, FunD K "_law_tug" "_law_tug" (defArgs s__law_tug) (defBody s__law_tug) (defScope s__law_tug) [] [] (He.fAd K ("_law_tug", none)) fd := W.says.def_ 40 (d := dd ("_law_tug", none) "_law_tug" "_law_tug" s__law_tug) rfl
theorem Wr.d__law_take (W : Wr P w K mg base) : ∃ fd, FunD K "_law_take" "_law_take" (defArgs s__law_take) (defBody s__law_take) (defScope s__law_take) [] [] (He.fAd K ("_law_take", none)) fd := W.says.def_ 41 (d := dd ("_law_take", none) "_law_take" "_law_take" s__law_take) rfl
theorem Wr.d__law_letters (W : Wr P w K mg base) : ∃ fd, FunD K "_law_letters" "_law_letters" (defArgs s__law_letters) (defBody s__law_letters) (defScope s__law_letters) [] [] (He.fAd K ("_law_letters", none)) fd := W.says.def_ 42 (d := dd ("_law_letters", none) "_law_letters" "_law_letters" s__law_letters) rfl
theorem Wr.d__law_word (W : Wr P w K mg base) : ∃ fd, FunD K "_law_word" "_law_word" (defArgs s__law_word) (defBody s__law_word) (defScope s__law_word) [] [] (He.fAd K ("_law_word", none)) fd := W.says.def_ 43 (d := dd ("_law_word", none) "_law_word" "_law_word" s__law_word) rfl
theorem Wr.d__law_words (W : Wr P w K mg base) : ∃ fd, FunD K "_law_words" "_law_words" (defArgs s__law_words) (defBody s__law_words) (defScope s__law_words) [] [] (He.fAd K ("_law_words", none)) fd := W.says.def_ 44 (d := dd ("_law_words", none) "_law_words" "_law_words" s__law_words) rfl
theorem Wr.d__law_masks (W : Wr P w K mg base) : ∃ fd, FunD K "_law_masks" "_law_masks" (defArgs s__law_masks) (defBody s__law_masks) (defScope s__law_masks) [] [] (He.fAd K ("_law_masks", none)) fd := W.says.def_ 45 (d := dd ("_law_masks", none) "_law_masks" "_law_masks" s__law_masks) rfl
theorem Wr.d__law_apart (W : Wr P w K mg base) : ∃ fd, FunD K "_law_apart" "_law_apart" (defArgs s__law_apart) (defBody s__law_apart) (defScope s__law_apart) [] [] (He.fAd K ("_law_apart", none)) fd := W.says.def_ 46 (d := dd ("_law_apart", none) "_law_apart" "_law_apart" s__law_apart) rfl
theorem Wr.d__law_most (W : Wr P w K mg base) : ∃ fd, FunD K "_law_most" "_law_most" (defArgs s__law_most) (defBody s__law_most) (defScope s__law_most) [] [] (He.fAd K ("_law_most", none)) fd := W.says.def_ 47 (d := dd ("_law_most", none) "_law_most" "_law_most" s__law_most) rfl
theorem Wr.d__law_is_lot (W : Wr P w K mg base) : ∃ fd, FunD K "_law_is_lot" "_law_is_lot" (defArgs s__law_is_lot) (defBody s__law_is_lot) (defScope s__law_is_lot) [] [] (He.fAd K ("_law_is_lot", none)) fd := W.says.def_ 48 (d := dd ("_law_is_lot", none) "_law_is_lot" "_law_is_lot" s__law_is_lot) rfl
theorem Wr.d__law_is_number (W : Wr P w K mg base) : ∃ fd, FunD K "_law_is_number" "_law_is_number" (defArgs s__law_is_number) (defBody s__law_is_number) (defScope s__law_is_number) [] [] (He.fAd K ("_law_is_number", none)) fd := W.says.def_ 49 (d := dd ("_law_is_number", none) "_law_is_number" "_law_is_number" s__law_is_number) rfl
theorem Wr.d__law_is_wish (W : Wr P w K mg base) : ∃ fd, FunD K "_law_is_wish" "_law_is_wish" (defArgs s__law_is_wish) (defBody s__law_is_wish) (defScope s__law_is_wish) [] [] (He.fAd K ("_law_is_wish", none)) fd := W.says.def_ 50 (d := dd ("_law_is_wish", none) "_law_is_wish" "_law_is_wish" s__law_is_wish) rfl
theorem Wr.d__law_keeps (W : Wr P w K mg base) : ∃ fd, FunD K "_law_keeps" "_law_keeps" (defArgs s__law_keeps) (defBody s__law_keeps) (defScope s__law_keeps) [] [] (He.fAd K ("_law_keeps", none)) fd := W.says.def_ 51 (d := dd ("_law_keeps", none) "_law_keeps" "_law_keeps" s__law_keeps) rfl
theorem Wr.d__law_sort (W : Wr P w K mg base) : ∃ fd, FunD K "_law_sort" "_law_sort" (defArgs s__law_sort) (defBody s__law_sort) (defScope s__law_sort) [] [] (He.fAd K ("_law_sort", none)) fd := W.says.def_ 52 (d := dd ("_law_sort", none) "_law_sort" "_law_sort" s__law_sort) rfl
theorem Wr.d__law_caught (W : Wr P w K mg base) : ∃ fd, FunD K "_law_caught" "_law_caught" (defArgs s__law_caught) (defBody s__law_caught) (defScope s__law_caught) [] [] (He.fAd K ("_law_caught", none)) fd := W.says.def_ 53 (d := dd ("_law_caught", none) "_law_caught" "_law_caught" s__law_caught) rfl
theorem Wr.d__law_any_index (W : Wr P w K mg base) : ∃ fd, FunD K "_law_any_index" "_law_any_index" (defArgs s__law_any_index) (defBody s__law_any_index) (defScope s__law_any_index) [] [] (He.fAd K ("_law_any_index", none)) fd := W.says.def_ 54 (d := dd ("_law_any_index", none) "_law_any_index" "_law_any_index" s__law_any_index) rfl
theorem Wr.d__law_letters_of (W : Wr P w K mg base) : ∃ fd, FunD K "_law_letters_of" "_law_letters_of" (defArgs s__law_letters_of) (defBody s__law_letters_of) (defScope s__law_letters_of) [] [] (He.fAd K ("_law_letters_of", none)) fd := W.says.def_ 55 (d := dd ("_law_letters_of", none) "_law_letters_of" "_law_letters_of" s__law_letters_of) rfl
theorem Wr.d__law_later (W : Wr P w K mg base) : ∃ fd, FunD K "_law_later" "_law_later" (defArgs s__law_later) (defBody s__law_later) (defScope s__law_later) [] [] (He.fAd K ("_law_later", none)) fd := W.says.def_ 56 (d := dd ("_law_later", none) "_law_later" "_law_later" s__law_later) rfl
theorem Wr.d__law_did (W : Wr P w K mg base) : ∃ fd, FunD K "_law_did" "_law_did" (defArgs s__law_did) (defBody s__law_did) (defScope s__law_did) [] [] (He.fAd K ("_law_did", none)) fd := W.says.def_ 57 (d := dd ("_law_did", none) "_law_did" "_law_did" s__law_did) rfl
theorem Wr.d__law_shows (W : Wr P w K mg base) : ∃ fd, FunD K "_law_shows" "_law_shows" (defArgs s__law_shows) (defBody s__law_shows) (defScope s__law_shows) [] [] (He.fAd K ("_law_shows", none)) fd := W.says.def_ 58 (d := dd ("_law_shows", none) "_law_shows" "_law_shows" s__law_shows) rfl
theorem Wr.d__law_broken (W : Wr P w K mg base) : ∃ fd, FunD K "_law_broken" "_law_broken" (defArgs s__law_broken) (defBody s__law_broken) (defScope s__law_broken) [] [] (He.fAd K ("_law_broken", none)) fd := W.says.def_ 59 (d := dd ("_law_broken", none) "_law_broken" "_law_broken" s__law_broken) rfl
theorem Wr.d__law_led (W : Wr P w K mg base) : ∃ fd, FunD K "_law_led" "_law_led" (defArgs s__law_led) (defBody s__law_led) (defScope s__law_led) [] [] (He.fAd K ("_law_led", none)) fd := W.says.def_ 60 (d := dd ("_law_led", none) "_law_led" "_law_led" s__law_led) rfl
theorem Wr.d__law_deed (W : Wr P w K mg base) : ∃ fd, FunD K "_law_deed" "_law_deed" (defArgs s__law_deed) (defBody s__law_deed) (defScope s__law_deed) [] [] (He.fAd K ("_law_deed", none)) fd := W.says.def_ 61 (d := dd ("_law_deed", none) "_law_deed" "_law_deed" s__law_deed) rfl
theorem Wr.d__law_right (W : Wr P w K mg base) : ∃ fd, FunD K "_law_right" "_law_right" (defArgs s__law_right) (defBody s__law_right) (defScope s__law_right) [] [] (He.fAd K ("_law_right", none)) fd := W.says.def_ 62 (d := dd ("_law_right", none) "_law_right" "_law_right" s__law_right) rfl
theorem Wr.d_law (W : Wr P w K mg base) : ∃ fd, FunD K "law" "law" (defArgs s_law) (defBody s_law) (defScope s_law) [] [] (He.fAd K ("law", none)) fd := W.says.def_ 63 (d := dd ("law", none) "law" "law" s_law) rfl
end
end K7

set_option Elab.async false
set_option linter.all false
set_option maxRecDepth 100000
set_option maxHeartbeats 0
namespace K7
open PySem PySem.Spec PyProof.Rows L2
abbrev Rw : PySem.W.OpenRow := PySem.W.OpenLaw.row PySem.Challenge.rw_sameunions_k71_whole_desks_led_back
abbrev qv : Program := PySem.W.view Rw.prog [115]
def names1 : List PySem.Str := ["_wall", "WrongValue", "InvalidText", "InvalidLot", "InvalidFamily", "InvalidTwins", "InvalidBalance", "InvalidThings", "InvalidNumber", "InvalidWish", "InvalidCommand", "NotLots", "InvalidLots", "InvalidIndexes", "WrongName", "UnknownThing", "NotPossible", "NothingToUndo", "TooMany", "TooFew", "TooWide", "Broken", "is_integer", "is_within", "common", "lowest", "less", "product", "over", "MOST_LOTS", "MOST_THINGS"]
def names2 : List PySem.Str := ["LETTERS", "is_rising", "is_lot", "things_in", "check_words", "Lots", "check_lots", "check_lot", "check_many", "check_index", "check_indexes", "bits_of", "row_of", "mixed", "first_place", "reduced", "is_free", "meet_of", "unions_by_choice", "choices_by_union", "apart", "family_of", "as_twins", "all_pairs", "do_meet_all", "has_twins", "has_part", "least_by_union", "packed", "most_of", "most_folds"]
def names3 : List PySem.Str := ["twins_in", "first_of", "have_one_meet", "like_in", "like_twins", "ALONE", "is_wish", "check_wish", "is_kept", "Desk", "_law_coil", "_law_tug", "_law_take", "_law_letters", "_law_word", "_law_words", "_law_masks", "_law_twins", "_law_meet", "_law_likes", "_law_apart", "_law_most", "_law_rank", "_law_is_lot", "_law_is_number", "_law_is_wish", "_law_keeps", "_law_want", "_law_sort", "_law_caught"]
def names4 : List PySem.Str := ["_law_any_word", "_law_any_index", "_law_letters_of", "_law_later", "_law_did", "_law_move", "_law_shows", "_law_broken", "_law_led", "_law_deed", "_law_right"]
def names : List PySem.Str := names1 ++ names2 ++ names3 ++ names4
def used0 : List Str := ["is_integer", "is_within", "is_rising", "is_lot", "things_in", "check_words", "check_lots", "check_lot", "check_many", "check_index", "check_indexes", "bits_of", "unions_by_choice", "choices_by_union", "has_part", "least_by_union", "packed", "most_of", "most_folds", "is_wish", "check_wish", "is_kept", "_law_coil", "_law_tug", "_law_take", "_law_letters", "_law_word", "_law_words", "_law_masks", "_law_apart"]
def used1 : List Str := ["_law_most", "_law_is_lot", "_law_is_number", "_law_is_wish", "_law_keeps", "_law_sort", "_law_caught", "_law_any_index", "_law_letters_of", "_law_later", "_law_did", "_law_shows", "_law_broken", "_law_led", "_law_deed", "_law_right", "law", "Lots", "Desk", "WrongValue", "InvalidText", "InvalidLot", "InvalidFamily", "InvalidTwins", "InvalidBalance", "InvalidThings", "InvalidNumber", "InvalidWish", "InvalidCommand", "NotLots"]
def used2 : List Str := ["InvalidLots", "InvalidIndexes", "WrongName", "UnknownThing", "NotPossible", "NothingToUndo", "TooMany", "TooFew", "TooWide", "Broken", "ALONE"]
def used : List Str := used0 ++ used1 ++ used2
/-- what the objects at these addresses name -/
def nxt (g : Addr → Option Obj) (as : List Addr) : List Addr := as.flatMap fun a => match g a with
  | some o => He.refsD o
  | none => []
/-- the names' objects, and what they lead to in four steps -/
def asK (g : Addr → Option Obj) : List Addr :=
  (fun a1 => (fun a2 => (fun a3 => (fun a4 => mainGlobals :: (a1 ++ (a2 ++ (a3 ++ (a4 ++ nxt g a4))))) (nxt g a3)) (nxt g a2)) (nxt g a1)) (used.map (He.ga (He.frG g [mainGlobals])))
abbrev Ok : Type := (Bool × List He.FnW) × (Bool × List He.FnW)
def obsK (g : Addr → Option Obj) (K : PySem.W.Frag) : Ok := ((((fa.all fun f => f.ok K) && fn.all fun d => d.ok K), fn.map fun d => He.fnW K d.at_), (exB K && He.tabsB g tf K, getV K))
def valK : Ok := ((true, fn.map He.DefD.val), (true, gDefs.map fun q => q.2.val))
structure SaysK (h : Heap) (K : PySem.W.Frag) : Prop where
  d : He.SaysD fa fn K
  more : exB K = true
  gets : getV K = gDefs.map fun q => q.2.val
  hd : ∀ p ∈ tf, PySem.W.codeHdIn K (He.cT K p).1 (He.cT K p).2 = true
  out : ∀ p ∈ tf, K.lookup (He.cT K p).2 = none
  empty : ∀ p ∈ tf, h.get? (He.cT K p).2 = some { cls := .none, data := .fields #[] }
theorem saysK_of {h : Heap} {as : List Addr} (e : obsK h.get? (He.frT h.get? as) = valK) : SaysK h (He.frT h.get? as) := by
  have e1 : He.obsD fa fn (He.frT h.get? as) = He.valD fn := congrArg (fun z : Ok => z.1) e
  have e2 : (exB (He.frT h.get? as) && He.tabsB h.get? tf (He.frT h.get? as)) = true := congrArg (fun z : Ok => z.2.1) e
  have e3 : getV (He.frT h.get? as) = gDefs.map fun q => q.2.val := congrArg (fun z : Ok => z.2.2) e
  obtain ⟨h1, h2⟩ := He.ba e2
  have key : ∀ p ∈ tf, PySem.W.codeHdIn (He.frT h.get? as) (He.cT (He.frT h.get? as) p).1 (He.cT (He.frT h.get? as) p).2 = true ∧ ∃ o, h.get? (He.cT (He.frT h.get? as) p).2 = some o ∧ He.emptyTab o = true := fun p hp => by
    obtain ⟨h3, h4⟩ := He.ba (List.all_eq_true.mp h2 p hp)
    cases q : h.get? (He.cT (He.frT h.get? as) p).2 with
    | none => rw [q] at h4; cases h4
    | some o => rw [q] at h4; exact ⟨h3, o, rfl, h4⟩
  exact ⟨e1, h1, e3, fun p hp => (key p hp).1, fun p hp => let ⟨_, _, q, z⟩ := key p hp; He.frT_none q z, fun p hp => by
    obtain ⟨_, o, q, z⟩ := key p hp
    rw [q, He.emptyTab_eq z]⟩
def hookK : PySem.W.Hook where
  α := Ok
  obs := fun s => obsK s.heap.get? (He.frT s.heap.get? (asK s.heap.get?))
  val := fun _ => valK
  says := fun _ h => ∃ K : PySem.W.Frag, K.In h ∧ SaysK h K
  of := fun _ _ e => ⟨_, He.frT_in, saysK_of e⟩
  keeps := fun _ _ _ ⟨K, hK, c⟩ k => ⟨K, PySem.W.Frag.In.keeps hK k, ⟨c.d, c.more, c.gets, c.hd, c.out, fun p hp => k _ _ (c.empty p hp)⟩⟩
def ob (s : PySem.W.SharedT) : Ok := obsK (HandSHeadRun.getT s) (He.frT (HandSHeadRun.getT s) (asK (HandSHeadRun.getT s)))
theorem ob_eq (s : PySem.W.SharedT) : ob s = hookK.obs s.abs := by
  have e : HandSHeadRun.getT s = s.abs.heap.get? := funext fun a => HandSHeadRun.getT_eq s a
  show obsK (HandSHeadRun.getT s) (He.frT (HandSHeadRun.getT s) (asK (HandSHeadRun.getT s))) = obsK s.abs.heap.get? (He.frT s.abs.heap.get? (asK s.abs.heap.get?))
  rw [e]
/-! ### the run, by parts -/
noncomputable section
def Part {β : Type} (f : World → PySem.W.SharedT → β) (v : β) (w : World) : Prop := ∀ os : OsState, (HandSHeadRun.endF (HandSHeadRun.stepQ (HandSHeadRun.denQ HandSHeadRun.tabQ) Rw.prog w) 20000 Rw.prog w os).map (f w) = some v
theorem Part.and {β γ : Type} {f : World → PySem.W.SharedT → β} {g : World → PySem.W.SharedT → γ} {v : β} {u : γ} {w : World} (h : Part f v w) (k : Part g u w) : Part (fun w s => (f w s, g w s)) (v, u) w := fun os => by
  obtain ⟨s, e, a⟩ := Option.map_eq_some_iff.mp (h os)
  obtain ⟨s', e', b⟩ := Option.map_eq_some_iff.mp (k os)
  cases e.symm.trans e'
  exact Option.map_eq_some_iff.mpr ⟨s, e, Prod.ext a b⟩
theorem Part.map {β γ : Type} {f : World → PySem.W.SharedT → β} {v : β} {w : World} (h : Part f v w) (g : β → γ) : Part (fun w s => g (f w s)) (g v) w := fun os => by
  obtain ⟨s, e, a⟩ := Option.map_eq_some_iff.mp (h os)
  exact Option.map_eq_some_iff.mpr ⟨s, e, congrArg g a⟩
abbrev Kof (s : PySem.W.SharedT) : PySem.W.Frag := He.frT (HandSHeadRun.getT s) (asK (HandSHeadRun.getT s))
def p1 (w : World) (s : PySem.W.SharedT) : Bool := HandSHeadRun.looksF Rw.prog (PySem.W.boot_heap w.params) s.abs
def p2 (_ : World) (s : PySem.W.SharedT) := HandSHeadRun.seenQ qv names (importedModules Rw.prog.main.body) (fun s => PySem.W.xlAt qv [] s && PySem.W.recOk Rw.toRowW.records s) s.abs
def p3 (_ : World) (s : PySem.W.SharedT) : Bool := fa.all fun f => f.ok (Kof s)
def p4 (_ : World) (s : PySem.W.SharedT) : Bool := fn.all fun d => d.ok (Kof s)
def p5 (_ : World) (s : PySem.W.SharedT) : List He.FnW := fn.map fun d => He.fnW (Kof s) d.at_
def p6 (_ : World) (s : PySem.W.SharedT) : Bool := exB (Kof s)
def p7 (_ : World) (s : PySem.W.SharedT) : Bool := He.tabsB (HandSHeadRun.getT s) tf (Kof s)
def p8 (_ : World) (s : PySem.W.SharedT) : List He.FnW := getV (Kof s)
theorem run_of {w : World} (h1 : Part p1 true w) (h2 : Part p2 (PySem.W.openGood qv names) w) (h3 : Part p3 true w) (h4 : Part p4 true w) (h5 : Part p5 (fn.map He.DefD.val) w) (h6 : Part p6 true w) (h7 : Part p7 true w) (h8 : Part p8 (gDefs.map fun q => q.2.val) w) : HandSHeadRun.RunEq Rw qv hookK ob 20000 names w := fun os => by
  have a := ((h1.and h2).and (((h3.and h4).and h5).and ((h6.and h7).and h8))).map (fun z => (z.1.1, z.1.2, (((z.2.1.1.1 && z.2.1.1.2, z.2.1.2), (z.2.2.1.1 && z.2.2.1.2, z.2.2.2)) : Ok))) os
  exact a
end
end K7

set_option Elab.async false
set_option linter.all false
set_option maxRecDepth 100000
set_option maxHeartbeats 0
namespace K7
open PySem PySem.Spec PyProof.Rows L2
theorem run_A (w : World) : Part (fun w s => (p1 w s, p2 w s)) (true, (PySem.W.openGood qv names)) w := by
  intro os
  kernel_rfl
end K7

set_option Elab.async false
set_option linter.all false
set_option maxRecDepth 100000
set_option maxHeartbeats 0
namespace K7
open PySem PySem.Spec PyProof.Rows L2
theorem run_B (w : World) : Part (fun w s => (p3 w s, p4 w s)) (true, true) w := by
  intro os
  kernel_rfl
end K7

set_option Elab.async false
set_option linter.all false
set_option maxRecDepth 100000
set_option maxHeartbeats 0
namespace K7
open PySem PySem.Spec PyProof.Rows L2
theorem run_C (w : World) : Part (fun w s => (p5 w s, p8 w s)) ((fn.map He.DefD.val), (gDefs.map fun q => q.2.val)) w := by
  intro os
  kernel_rfl
end K7

set_option Elab.async false
set_option linter.all false
set_option maxRecDepth 100000
set_option maxHeartbeats 0
namespace K7
open PySem PySem.Spec PyProof.Rows L2
theorem run_D (w : World) : Part (fun w s => (p6 w s, p7 w s)) (true, true) w := by
  intro os
  kernel_rfl
end K7

set_option Elab.async false
set_option linter.all false
set_option maxRecDepth 100000
set_option maxHeartbeats 4000000
namespace K7
open PySem PySem.Spec PyProof.Rows L2
/-! ### except (A, B, C) as e: suite, where one of the three is always met -/
theorem fly_push {base h : Heap} {l : List Env} {e : Addr} {Z : Obj → Prop} {o : Obj} (x : HandSPX.FlyingZ base l e Z h) : HandSPX.FlyingZ base l e Z (h.push o) := by
  obtain ⟨k1, k2, k3, oe, vs, T, oT, ts, he, hz, hd, h1, hn, hT, hT2, hd2, h3⟩ := x
  exact ⟨fun b u q => Heap.get?_push_of_some _ (k1 b u q), k2, k3.of_keeps fun b u q _ => ⟨u, Heap.get?_push_of_some _ q, rfl⟩, oe, vs, T, oT, ts, Heap.get?_push_of_some _ he, hz, hd, h1, hn, hT, Heap.get?_push_of_some _ hT2, hd2, h3⟩
def wTup (K : PySem.W.Frag) (c1 c2 c3 : Addr) (i : Nat) (ts : Addr → Value → Option Addr → TS) (D : Ends) : WX := fun cls d σ H =>
  PySem.W.exmAny K cls [.ref c1, .ref c2, .ref c3] = some true ∧ ∀ a, H a = none → ts a cls d { nx := fun σ' H' => D.nx (σ'.set i none) H', rt := D.rt, bk := fun σ' H' => D.bk (σ'.set i none) H', ct := fun σ' H' => D.ct (σ'.set i none) H' } (σ.set i (some (.ref a))) H
section
variable {X : Cx} {x1 x2 x3 n : Str} {c1 c2 c3 : Addr} {i : Nat} {body suite : List Stmt} {b₀ : Stmt} {p1 p2 p3 pt pos pos' : Pos} {kk : Nat} {tb : WX → TS} {ts : Addr → Value → Option Addr → TS}
theorem ps_try_tup (hs : X.stack = X.env :: X.outer) (hf : X.env.frame = some X.env.locals) (hN : X.N.Nodup) (hi : X.N[i]? = some n) (hln : X.env.kindOf n = some .local)
    (g1 : Gl X x1) (g2 : Gl X x2) (g3 : Gl X x3) (m1 : X.mg x1 = some (.ref c1)) (m2 : X.mg x2 = some (.ref c2)) (m3 : X.mg x3 = some (.ref c3))
    (hb : ∀ (W : WX) (pn : List (Addr × Obj)) (xe : Value → Shared → Prop), Takes (X.tr pn xe) W → PassesOwn (model X.prog X.w) X.A X.env xe → PSs (X.tr pn xe) body (tb W))
    (hsu : ∀ (a : Addr) (oe : Obj) (cls : Value) (d : Option Addr) (pn : List (Addr × Obj)), Zc cls d oe → (∃ vs, oe.data = .fields vs) → PSs (X.suite a ((a, oe) :: pn)) (b₀ :: suite) (ts a cls d))
    (d1 : (x1 == ("__debug__" : Str)) = false := by decide) (d2 : (x2 == ("__debug__" : Str)) = false := by decide) (d3 : (x3 == ("__debug__" : Str)) = false := by decide) :
    PS X (.Try body [.ExceptHandler (some (.Tuple [.Name x1 p1, .Name x2 p2, .Name x3 p3] kk pt)) (some n) (b₀ :: suite) pos'] [] [] pos) (fun D σ H => tb (wTup X.K c1 c2 c3 i ts D) D σ H) := by
  constructor
  intro pins s σ H D I h
  have ok := I.ok
  have frames : X.A.frames = some (X.env :: X.outer) := hs ▸ ok.frames
  refine wpAny_Try_except (wpAny_mono ((hb (wTup X.K c1 c2 c3 i ts D) (X.pn ++ pins) (fun e u => wpAny (model X.prog X.w) X.A (noteFrame e X.env) (fun _ u => wpAny (model X.prog X.w) X.A (setFlight e none) (fun _ u =>
    wpAny (model X.prog X.w) X.A (handleBy e X.env [.ExceptHandler (some (.Tuple [.Name x1 p1, .Name x2 p2, .Name x3 p3] kk pt)) (some n) (b₀ :: suite) pos']) (SP X pins D) X.xe u) X.xe u) X.xe u) (fun u s' thrown => ?_) PassesOwn.looking).run [] s σ H D (I.toTry _) h) (fun f s1 went => ?_) (fun e s1 he => he))
  · -- something was thrown, and no longer flies
    obtain ⟨a, B, sI, pins', τ, G, cls, d, ue, inTry, nb, up, sky, fresh, os, ag, met, suits⟩ := thrown
    subst ue
    have inside : Inv X pins τ G sI := inTry.ofTry ok
    show wpAny (model X.prog X.w) X.A (noteFrame (.ref a) X.env) _ _ _
    refine Sky.land Zc.steady frames hf (hs ▸ sky : Sky B (X.env :: X.outer) a (Zc cls d) X.env.locals s'.heap) fun hA flA upA => ?_
    obtain ⟨oA, vA, atA, zA, dA⟩ := flA.there
    have noFrame : a ∉ frs (X.env :: X.outer) := fun hm =>
      let ⟨_, oB, atB, notF⟩ := flA.2.2.1.mem hm
      notF _ (Option.some.inj (atA.symm.trans atB) ▸ dA)
    have n1 : a ≠ X.env.locals := fun z => noFrame (List.mem_filterMap.mpr ⟨X.env, List.mem_cons_self, hf.trans (congrArg some z.symm)⟩)
    have n2 : a ∉ X.fs := fun hm => let ⟨v, hv, fr⟩ := List.mem_filterMap.mp hm; noFrame (List.mem_filterMap.mpr ⟨v, List.mem_cons_of_mem _ hv, fr⟩)
    have hot := (inside.landed nb flA.1 (up.trans upA) os ag : Inv X pins τ G { s' with heap := hA }).suite atA dA fresh n1 n2
    -- the three classes, then the tuple of them
    refine wpAny_handleBy_cons (codeAny_handlers_test (wpAny_Tuple_spliced (show wpAny _ _ (spliced [(false, eval (.Name x1 p1) X.env), (false, eval (.Name x2 p2) X.env), (false, eval (.Name x3 p3) X.env)]) _ _ _ from
      Calls.spliced_cons (ld_glob (X := X.suite a ((a, oA) :: (X.pn ++ pins))) hot g1 m1 (Calls.spliced_cons (ld_glob (X := X.suite a ((a, oA) :: (X.pn ++ pins))) hot g2 m2
        (Calls.spliced_cons (ld_glob (X := X.suite a ((a, oA) :: (X.pn ++ pins))) hot g3 m3 (Calls.spliced_nil ⟨by show 3 ≤ sizeLine; rw [sizeLine_eq]; omega, ?_⟩) d3)) d2)) d1)))) nofun
    let trio : Obj := { cls := .type "tuple", data := .seq [Value.ref c1, .ref c2, .ref c3].toArray }
    have flB : HandSPX.FlyingZ B (X.env :: X.outer) a (Zc cls d) (hA.push trio) := fly_push flA
    have upB : s'.heap.UpToSlots (hA.push trio) := upA.trans fun b o q _ => ⟨o.slots, Heap.get?_push_of_some _ q⟩
    have JB : Inv X pins τ G { s' with heap := hA.push trio } := inside.landed nb flB.1 (up.trans upB) os ag
    have atB : (hA.push trio).get? a = some oA := Heap.get?_push_of_some _ atA
    have isC : PySem.W.Looks (model X.prog X.w) (hA.push trio) (typeOf (.ref a)) cls := fun A Q E s k q => wpAny_typeOf_ref (k _ _ atB) (zA.1.symm ▸ q)
    refine (PySem.W.exm_tup3 (M := model X.prog X.w) (tp := hA.objs.size) JB.kIn isC (Heap.get?_push_size _ rfl) met).here (codeAny_handlers_suite_as (HandSPX.lands_againZ flB fun hC flC upC => ?_))
    have JC : Inv X pins τ G { s' with heap := hC } := inside.landed nb flC.1 ((up.trans upB).trans upC) os ag
    obtain ⟨oC, vC, atC, zC, dC⟩ := flC.there
    -- the name, the suite, the name's end
    refine store_ok (X := X.suite a ((a, oC) :: (X.pn ++ pins))) (v := .ref a) (JC.suite atC dC fresh n1 n2) hN hi (.inl hln) rfl (fun sN JN => wpAny_mono ((hsu a oC cls d (X.pn ++ pins) zC ⟨_, dC⟩).run [] sN _ G _ JN (suits a fresh)) (fun f sE went => ?_) fun _ _ z => False.elim z) (.inr hln)
    cases f with
    | ret u => obtain ⟨v, ρ, L, JE, rv, q⟩ := went; exact gone_ok (JE.unsuite ok) hN hi hln fun sZ JZ => ⟨_, _, _, JZ, rv, q⟩
    | next => obtain ⟨ρ, L, JE, q⟩ := went; exact gone_ok (JE.unsuite ok) hN hi hln fun sZ JZ => ⟨_, _, JZ, q⟩
    | cont => obtain ⟨ρ, L, JE, q⟩ := went; exact gone_ok (JE.unsuite ok) hN hi hln fun sZ JZ => ⟨_, _, JZ, q⟩
    | brk => obtain ⟨ρ, L, JE, q⟩ := went; exact gone_ok (JE.unsuite ok) hN hi hln fun sZ JZ => ⟨_, _, JZ, q⟩
  · -- nothing was thrown
    cases f with
    | ret u => obtain ⟨v, ρ, L, JE, rv, q⟩ := went; exact ⟨v, ρ, L, JE.ofTry ok, rv, q⟩
    | next => obtain ⟨ρ, L, JE, q⟩ := went; exact wpAny_execs_nil ⟨ρ, L, JE.ofTry ok, q⟩
    | cont => obtain ⟨ρ, L, JE, q⟩ := went; exact ⟨ρ, L, JE.ofTry ok, q⟩
    | brk => obtain ⟨ρ, L, JE, q⟩ := went; exact ⟨ρ, L, JE.ofTry ok, q⟩
end
end K7
namespace K7
open PySem PySem.Spec PyProof.Rows L2
/-! ### a def that is called within an except suite, and gets the error: p the error's object -/
abbrev SpV := Addr × Obj → List V → Hp → VK → Prop
structure FnV (P : Program) (w : World) (K : PySem.W.Frag) (mg : Str → Option Value) (base : Heap) (k : Nat) (f : Addr) (fd : FuncData) (ps : List Str) (sp : SpV) : Prop where
  len : ∀ p vs H Q, sp p vs H Q → vs.length = ps.length
  run : ∀ (A : Around) (outer : List Env) (s : Shared) (H : Hp) (args : Args) (us : List Value) (vs : List V) (Q : VK) (p : Addr × Obj), L2H.RoomH k A → L2H.PinOk outer H s p → Env0 P w K mg base A outer s H → BindsTo s fd args (ps.zip us) → Vals vs us → sp p vs H Q →
    codeAny (model P w) A (.call (.ref f) args) (CR CX0 outer P w H s Q E0) s
theorem fnv_of {P : Program} {w : World} {K : PySem.W.Frag} {mg : Str → Option Value} {base : Heap} {k : Nat} {f : Addr} {name qual : Str} {params : Arguments} {body : List Stmt} {scope : Scope} {dV kV doc pm cdv ct oc : Value} {an od : Option Addr}
    {osl : Array (Option Value)} {N ps : List Str} {sp : SpV} (lk : K.lookup f = some ⟨oc, od, .func (PySem.W.fnOf name qual params body scope dV kV doc pm an cdv ct), osl⟩) (hcd : PySem.W.codeIn K cdv qual = true) (S : FnScope N ps scope)
    (len : ∀ p vs H Q, sp p vs H Q → vs.length = ps.length)
    (hbody : ∀ (A : Around) (outer : List Env) (s : Shared) (H : Hp) (vs : List V) (Q : VK) (p : Addr × Obj), L2H.RoomH k (A.deeper (envOfC qual scope s.heap.objs.size f cdv)) → sp p vs H Q →
      ∃ t, PSs (L2H.cxH CX0 P w K mg base N qual scope f cdv A outer s H E0 p) body t ∧ t { nx := fun _ H' => Q .non H', rt := Q } (L2.start N vs) H) :
    FnV P w K mg base (k + 1) f (PySem.W.fnOf name qual params body scope dV kV doc pm an cdv ct) ps sp := by
  refine ⟨len, fun A outer s H args us vs Q p room pinned e0 binds rv promise => ?_⟩
  have n := len _ _ _ _ promise
  have whole : ∀ b o, base.get? b = some o → s.heap.get? b = some o := fun b o e => (e0.bs b o e).1
  have local_ : ∀ y ∈ ps.zip us, scope.names.lookup y.1 = some .local ∨ (scope.names.lookup y.1 = some .cell ∧ ((cellsFrom (s.heap.objs.size + 1) scope.names []).lookup y.1).isSome = true) := fun y hy =>
    (S.par y.1 (List.of_mem_zip (a := y.1) (b := y.2) hy).1).imp id fun c => ⟨c, PySem.W.cellsFrom_some _ _ _ (.inl c)⟩
  have known := e0.mod.kin.keeps whole
  refine codeAny_call_function room.depth (known _ _ lk) rfl S.co S.gen rfl (PySem.W.codeRec_of known hcd) (binds _ _ _ _ (wpAny_newFunctionEnv_cells S.kind local_ fun env is_env s1 entry => ?_))
  cases is_env
  refine ⟨(e0.mod.nolimit.keeps whole).keeps entry.toInCall.keep, codeAny_func ?_⟩
  obtain ⟨t, walk, holds⟩ := hbody A outer s H vs Q p (room.deeper _) promise
  have at0 : Inv (L2H.cxH CX0 P w K mg base N qual scope f cdv A outer s H E0 p) [] (L2.start N vs) H s1 := L2H.inv_startH S pinned e0 n rv entry
  refine wpAny_mono (walk.run [] s1 (L2.start N vs) H _ at0 holds) (fun fl s' went => ?_) fun _ _ z => z
  have out : ∀ (τ : L2.St) (G : Hp) (v : V) (u : Value), Inv (L2H.cxH CX0 P w K mg base N qual scope f cdv A outer s H E0 p) [] τ G s' → RelV v u → Q v G → CE outer P w H s Q u s' := fun τ G v u J r q => ⟨v, G, J.os, J.bare, J.base, J.hok, r, q⟩
  match fl, went with
  | .ret u, ⟨v, τ, G, J, r, q⟩ => exact out τ G v u J r q
  | .next, ⟨τ, G, J, q⟩ => exact out τ G .non .none J rfl q
  | .brk, ⟨_, _, _, q⟩ => exact q.elim
  | .cont, ⟨_, _, _, q⟩ => exact q.elim
/-- such a def by its name -/
structure FV (P : Program) (w : World) (K : PySem.W.Frag) (mg : Str → Option Value) (base : Heap) (k : Nat) (x : Str) (ps : List Str) (sp : SpV) : Prop where
  ex : ∃ f fd, FnV P w K mg base k f fd ps sp ∧ mg x = some (.ref f) ∧ PySem.W.keepIn K (.ref f) = true ∧ Binds K fd ps []
def tCallV (p : Addr × Obj) (sp : SpV) (t : TA) : TE := fun σ H Q => t σ H fun vs H1 => sp p vs H1 Q
section
variable {X : Cx} {a : Addr} {oe : Obj} {pn : List (Addr × Obj)} {k : Nat} {x : Str} {ps : List Str} {sp : SpV} {e : Expr} {es : List Expr} {t : TA} {q pos : Pos}
theorem pe_callV (F : FV X.prog X.w X.K X.mg X.base k x ps sp) (hr : L2H.RoomH k (X.suite a ((a, oe) :: pn)).A) (hg : Gl X x) (ha : PA (X.suite a ((a, oe) :: pn)) (e :: es) t) (hdb : (x == ("__debug__" : Str)) = false := by decide)
    (he : starEach (e :: es) X.env = (false, eval e X.env) :: starEach es X.env := by rfl) (hpl : (backTo pos (starEach es X.env)).any (·.1) = false := by rfl) : PE (X.suite a ((a, oe) :: pn)) (.Call (.Name x q) (e :: es) [] pos) (tCallV (a, oe) sp t) := by
  obtain ⟨f, fd, ok, is_f, kept, binds⟩ := F.ex
  constructor
  intro pins s σ H Q I h
  refine wpAny_Call_Name_kw (ld_glob I hg is_f (PySem.W.callWith_K (h₀ := X.base) I.ok.mod.kin kept (thn (ha.run pos pins s σ H _ I h) fun us s1 came => ?_) he hpl) hdb)
  obtain ⟨vs, G, J, rv, q⟩ := came
  refine ⟨J.kIn, ?_⟩
  have n : us.length = ps.length := rv.length.symm.trans (ok.len _ _ _ _ q)
  have b := List.append_nil us ▸ binds s1 us J.kIn ((List.append_nil us).symm ▸ n)
  obtain ⟨p1, p2, p3, p4, p5⟩ := J.pin (a, oe) (List.mem_append_left _ List.mem_cons_self)
  have pinned : L2H.PinOk X.stack G s1 (a, oe) := ⟨p1, p2, fun hm => (List.mem_cons.mp (J.stkSub a hm)).elim p3 p4, p5⟩
  refine wpAny_call (codeAny_mono (ok.run _ X.stack s1 G ⟨us, []⟩ us vs Q (a, oe) hr pinned J.env0 b rv q) fun r s' res => ?_)
  match r, res with
  | .ok (.ret u), res => exact J.after res
  | .ok .next, res => exact res.elim
  | .ok .brk, res => exact res.elim
  | .ok .cont, res => exact res.elim
  | .error _, res => exact res.elim
end
/-- the error's own dict, where it has one -/
def DictAt (H : Hp) (d : Option Addr) : Prop := d = none ∨ ∃ dd fs, d = some dd ∧ H dd = some (.xd fs)
def rIsV (K : PySem.W.Frag) (D a : Addr) (d : Option Addr) : List V → Hp → VK → Prop := fun xs H Q => ∃ (c : V) (cv : Value) (b : Bool), xs = [.ref a, c] ∧ (∀ u, RelV c u → u = cv) ∧ PySem.W.kitOne K (.ref D) cv = some b ∧ DictAt H d ∧ Q (.bl b) H
section
variable {X : Cx} {D a : Addr} {oe : Obj} {d : Option Addr}
theorem fields_notCls {oe : Obj} (hf : ∃ vs, oe.data = .fields vs) : PySem.W.notCls oe = true := by
  obtain ⟨vs, e⟩ := hf
  unfold PySem.W.notCls
  rw [e] <;> rfl
theorem inst_v {pins : List (Addr × Obj)} {σ : L2.St} {H : Hp} {s : Shared} (I : Inv X pins σ H s) (hp : (a, oe) ∈ X.pn) (hz : Zc (.ref D) d oe) (hf : ∃ vs, oe.data = .fields vs) (hd : DictAt H d) : ∃ od, PySem.W.InstAt s.heap a oe D od := by
  have there := (I.pin (a, oe) (List.mem_append_left _ hp)).1
  have noCls := fields_notCls hf
  rcases hd with z | ⟨dd, fs, z, at_d⟩
  · exact ⟨none, there, hz.1, noCls, by rw [hz.2, z]; trivial⟩
  · obtain ⟨own, ns, _⟩ := (show ObjOk X.prog X.w H s.heap dd (.xd fs) from I.hok dd _ at_d)
    obtain ⟨od, in_d, _⟩ := lookIn_ns ns
    exact ⟨some od, there, hz.1, noCls, by rw [hz.2, z]; exact in_d⟩
theorem call_isV (C : ExcC X.K D) (hp : (a, oe) ∈ X.pn) (hz : Zc (.ref D) d oe) (hf : ∃ vs, oe.data = .fields vs) : CallR X (.builtin "isinstance") (rIsV X.K D a d) := fun pins s σ H xs us Q I r h => by
  obtain ⟨c, cv, b, two, only, kit, hda, q⟩ := h
  subst two
  obtain ⟨u1, u2, ue, rx, rt⟩ := r.two
  subst ue
  cases rx
  cases only _ rt
  obtain ⟨od, J⟩ := inst_v I hp hz hf hda
  exact PySem.W.kia_one (PySem.W.k7_kitx C) I.kIn J kit nofun fun tk => ⟨.bl b, H, I.kept (t' := tk) fun _ _ z => z, rfl, q⟩
def tXv (a dd : Addr) (f : Str) (te : TE) : TE := fun σ H Q => te σ H fun x H1 => x = .ref a ∧ ∃ (fs : List (Str × V)) (v : V), H1 dd = some (.xd fs) ∧ fs.lookup f = some v ∧ Q v H1
theorem pe_xv {dd : Addr} {e : Expr} {te : TE} {pos : Pos} {n : Str} (T : XfC X.K D) (hno : PySem.W.findIn X.K (.ref D) n = some none) (hp : (a, oe) ∈ X.pn) (hz : Zc (.ref D) (some dd) oe) (hf : ∃ vs, oe.data = .fields vs) (he : PE X e te) (hb : attributeBase e n X.env (eval e X.env) = eval e X.env := by rfl) :
    PE X (.Attribute e n pos) (tXv a dd n te) := by
  constructor
  intro pins s σ H Q I h
  refine attr_of hb (thn (he.run pins s σ H _ I h) fun u s1 came => ?_)
  obtain ⟨x, G, J, rx, ex, fs, v, at_d, is_v, q⟩ := came
  subst ex
  cases (rx : u = Value.ref a)
  have own : DictAt G (some dd) := .inr ⟨dd, fs, rfl, at_d⟩
  obtain ⟨m, ns, rel⟩ := (show ObjOk X.prog X.w G s1.heap dd (.xd fs) from J.hok dd _ at_d)
  obtain ⟨od, in_d, look⟩ := lookIn_ns ns
  obtain ⟨w, is_w, rw_⟩ := RelO.some_of (v := v) (o := m n) (is_v ▸ rel n)
  have there := (J.pin (a, oe) (List.mem_append_left _ hp)).1
  have inst : PySem.W.InstAt s1.heap a oe D (some od) := ⟨there, hz.1, fields_notCls hf, by rw [hz.2]; exact in_d⟩
  exact HandSPX.exc_get J.kIn inst T.ga T.gg T.exC (PySem.W.findObj_own T.hdC hno rfl ((look n).trans (congrArg some is_w))) (handed_of rw_) ⟨v, G, J.tok _, rw_, q⟩
end
end K7

set_option Elab.async false
set_option linter.all false
set_option maxRecDepth 100000
set_option maxHeartbeats 4000000
namespace K7
open PySem PySem.Spec PyProof.Rows L2
open AutoSeq1 (wpAny_loadPart')
/-! ### enumerate(tuple) -/
theorem enum_tup {l : Addr} {items : Array Value} {n : Nat} {dct : Option Addr} {sl : Array (Option Value)} :
    Meets (Builtin.«enumerate.__new__» ⟨[.type "enumerate", .ref l], []⟩) (fun _ R s => s.heap.get? l = some { cls := .type "tuple", dict := dct, data := .seq items n, slots := sl } ∧
      R (.ok (.ret (.ref (s.heap.push { cls := .type "tuple_iterator", data := .fields #[.ref l, .int 0 0] }).objs.size)))
        { s with heap := (s.heap.push { cls := .type "tuple_iterator", data := .fields #[.ref l, .int 0 0] }).push { cls := .type "enumerate", data := .fields #[.none, .bool false, .ref s.heap.objs.size, rawInt 0, .none, .none] } }) :=
  .of_wp fun prog w A R s h => by
    obtain ⟨hp, g, d, tk, os⟩ := s; obtain ⟨hl, h⟩ := h
    have hsub := sub_enumerate
    have hL : Heap.IsTuple (Shared.heap ⟨hp, g, d, tk, os⟩) l items := ⟨_, hl, rfl, n, rfl⟩
    wp_walk using wpAny_loadPart' hl
    refine wpAny_stack_any fun st => wpAny_pure ?_
    split
    · rename_i c _ _ _ _ _
      cases (c == Value.type "enumerate")
      · wp_walk using wpAny_loadPart' hl, wpAny_pyIter_tuple hL
        exact ⟨_, rfl, h⟩
      · wp_walk using wpAny_loadPart' hl, wpAny_pyIter_tuple hL
        exact ⟨_, rfl, h⟩
    · wp_walk using wpAny_loadPart' hl, wpAny_pyIter_tuple hL
      exact ⟨_, rfl, h⟩
/-- what holds of two things holds of each of them -/
theorem of_two {e it b : Addr} {C : Addr → Prop} (hb : b ∈ [e, it]) (c1 : C e) (c2 : C it) : C b :=
  (List.mem_cons.mp hb).elim (fun z => z ▸ c1) fun z => List.mem_singleton.mp z ▸ c2
/-- the iterator over the tuple, the enumerate object: both new, one behind the other -/
abbrev oIt (l : Addr) : Obj := { cls := .type "tuple_iterator", data := .fields #[.ref l, .int 0 0] }
abbrev oEn (it : Addr) : Obj := { cls := .type "enumerate", data := .fields #[.none, .bool false, .ref it, rawInt 0, .none, .none] }
theorem enum_laid (h : Heap) (l : Addr) : ((h.push (oIt l)).push (oEn h.objs.size)).get? (h.objs.size + 1) = some (oEn h.objs.size) ∧ (h.push (oIt l)).objs.size = h.objs.size + 1 := by
  have n := Heap.size_push h (oIt l)
  exact ⟨n ▸ Heap.get?_push_size (h.push (oIt l)) (o := oEn h.objs.size) rfl, n⟩
section
variable {prog : Program} {w : World} {A : Around} {X0 : Value → Shared → Prop} {s : Shared} {l e it : Addr} {items : Array Value}
theorem call_enumT {Q : Value → Shared → Prop} (tup : s.heap.IsTuple l items)
    (k : ∀ h', IsEnum h' (s.heap.objs.size + 1) s.heap.objs.size 0 .none → h'.IsTupleIter s.heap.objs.size l 0 → (∀ b o, s.heap.get? b = some o → h'.get? b = some o) → Q (.ref (s.heap.objs.size + 1)) { s with heap := h' }) : wpAny (model prog w) A (call (.type "enumerate") [.ref l]) Q X0 s := by
  rcases tup with ⟨⟨cl, dc, da, so⟩, at_l, c1, n, c2⟩
  have c1' : cl = .type "tuple" := c1
  have c2' : da = .seq items n := c2
  subst c1' c2'
  obtain ⟨g, z⟩ := enum_laid s.heap l
  refine callType_new F.called_enumerate (by decide) (F.typeCall_enumerate_1 _) (F.newCall_enumerate_1 _) (fun obj => F.args_object_init_2 obj _) F.entry_enumerate_new enum_tup ⟨at_l, ?_⟩
  show _ ∧ _
  rw [z]
  exact ⟨⟨_, g, rfl⟩, k _ g ⟨_, Heap.get?_push_of_some _ (Heap.get?_push_size _ rfl), rfl, rfl⟩ fun b o x => Heap.get?_push_of_some _ (Heap.get?_push_of_some _ x)⟩
/-- no item is left -/
theorem enumT_end {i : Nat} {old : Value} {Q : Option Value → Shared → Prop} (calm : A.handled = none) (en : IsEnum s.heap e it i old) (ti : s.heap.IsTupleIter it l i) (tup : s.heap.IsTuple l items) (out : items[i]? = none)
    (k : ∀ h', Heap.ExtBut it s.heap h' → Q none { s with heap := h' }) : wpAny (model prog w) A (pyNext (.ref e)) Q X0 s := by
  have ty : s.TypeIs (.ref e) "enumerate" := ⟨_, en, rfl⟩
  unfold pyNext
  refine wpAny_bind (wpAny_attempt (wpAny_callSpecial?_slot (name := Str.ofString "__next__") ty F.slot_enumerate_next (wpAny_call_entry F.slot_enumerate_next ty F.entry_enumerate_next (show wpAny _ _ (field (.ref e) 2 >>= _) _ _ _ from ?_) (F.args_enumerate_next_1 _))))
  exact wpAny_bind (wpAny_field en rfl (x := .ref it) rfl (wpAny_bind (wpAny_nextOf_tuple_end calm ti tup out fun h' x eb ⟨o, at_o, is_o⟩ => wpAny_bind (wpAny_isInstance (T := "StopIteration") (b := true) ⟨o, at_o, is_o⟩ isSubtype_stop (wpAny_pure (k _ eb))))))
end
/-- the turns over a tuple at a: a new pair each -/
def ItT (K : PySem.W.Frag) (a : Addr) : It where
  go := fun i H => ∃ (xs : List V) (x : V), SqT K H a xs ∧ xs[i]? = some x
  yld := fun i H v H' => ∃ T x, v = .ref T ∧ H T = none ∧ H' = upd H T (.tup [.int (i : Nat), x]) ∧ ∀ xs, SqT K H a xs → xs[i]? = some x
  stop := fun i H => ∃ xs : List V, SqT K H a xs ∧ xs.length ≤ i
/-- where an enumeration stands behind i turns -/
def EnAt (e it a : Addr) (i : Nat) (h : Heap) : Prop := (∃ old, IsEnum h e it ((i : Nat) : Int) old) ∧ h.IsTupleIter it a i ∧ e ≠ it
theorem EnAt.kept {e it a : Addr} {i : Nat} {h h' : Heap} (st : EnAt e it a i h) (k : ∀ b, b ∈ [e, it] → ∀ o, h.get? b = some o → h'.get? b = some o) : EnAt e it a i h' := by
  obtain ⟨⟨old, en⟩, ti, ne⟩ := st
  exact ⟨⟨old, k e List.mem_cons_self _ en⟩, ti.at fun o q => k it (List.mem_cons_of_mem _ List.mem_cons_self) o q, ne⟩
/-- a record that is followed and stands where the heap ends is no older than it -/
theorem turn_enumT {P : Program} {w : World} {K : PySem.W.Frag} {elts : List Expr} {kk : Nat} {tpos : Pos} (a e it : Addr) (ai : a ≠ it) (ea : e ≠ a) : Turn P w K (.Tuple elts kk tpos) (ItT K a) [e, it] e (EnAt e it a) where
  mem := List.mem_cons_self
  obj := fun i h st b hb => of_two (C := fun b => ∃ o, h.get? b = some o ∧ ∀ v, o.data ≠ .cell v) hb (let ⟨_, en⟩ := st.1; ⟨_, en, nofun⟩) (let ⟨o, at_it, _, fs⟩ := st.2.1; ⟨o, at_it, fun v q => Data.noConfusion (fs.symm.trans q)⟩)
  keep := fun i h h' st k => st.kept k
  item := fun X hp hw hk calm i pins s σ H E I own st g => by
    cases hp; cases hw; cases hk
    obtain ⟨xs, x, sq, at_i⟩ := g
    obtain ⟨⟨old, en⟩, ti, ne⟩ := st
    obtain ⟨us, rus, isT, _⟩ := I.tuple sq
    obtain ⟨u, at_u, ru⟩ := rus.get at_i
    have len : i < us.toArray.size := by rw [List.size_toArray]; exact (List.getElem?_eq_some_iff.mp at_u).1
    refine wpAny_pyNext_enum_itemD (Draws.tuple (prog := X.prog) (w := X.w) (A := X.A.in1) (I.ok.hd calm) it a ai us.toArray) en ⟨ti, isT⟩ len ne (fun z => of_two (C := fun b => e = b → False) z ne ea rfl) fun y h1 tk drawn out st1 pair _ kept => ?_
    have same : y = u := Option.some.inj (drawn.symm.trans (by rw [List.getElem?_toArray]; exact at_u))
    cases same
    refine ⟨_, rfl, wpAny_letOwnedTupleGo_enum (s := { s with heap := h1, toks := tk + 1 }) out fun h2 en2 but => ?_⟩
    have sizeE : s.heap.objs.size ≠ e := Nat.ne_of_gt (Heap.lt_size en)
    have low : ∀ b ∈ [e, it], b < s.heap.objs.size := fun b hb => of_two (C := fun b => b < s.heap.objs.size) hb (Heap.lt_size en) (let ⟨_, q, _⟩ := ti; Heap.lt_size q)
    have laid : ObjOk X.prog X.w (upd H s.heap.objs.size (.tup [.int (i : Nat), x])) h2 s.heap.objs.size (.tup [.int (i : Nat), x]) :=
      ⟨(by show 2 ≤ sizeLine; rw [sizeLine_eq]; omega), [.int i tk, u], .cons ⟨_, rfl⟩ (.cons ru .nil), ⟨_, (but.2 _ sizeE).trans pair, rfl, _, rfl⟩⟩
    have old2 : ∀ b o, b ∉ [e, it] → s.heap.get? b = some o → h2.get? b = some o := fun b o out_ q => by
      have n1 : b ≠ e := fun z => out_ (z ▸ List.mem_cons_self)
      have n2 : b ≠ it := fun z => out_ (z ▸ List.mem_cons_of_mem _ List.mem_cons_self)
      exact (but.2 b n1).trans (kept b o n1 n2 q)
    refine ⟨.ref s.heap.objs.size, _, I.turnedNew (t' := tk + 1) (ch := [e, it]) old2 own (Nat.le_refl _) laid, rfl, ⟨_, x, rfl, I.hok.fresh (Nat.le_refl _), rfl, fun ys q => (I.tuple_inj q sq) ▸ at_i⟩, ⟨⟨u, ?_⟩, st1.1.at fun o q => (but.2 it (Ne.symm ne)).trans q, ne⟩, fun b hb => (upd_ne (Nat.ne_of_lt (low b hb))).trans (own b hb).1⟩
    rw [Int.natCast_succ]
    exact en2
  done := fun X hp hw hk calm i pins s σ H E I own st g => by
    cases hp; cases hw; cases hk
    obtain ⟨xs, sq, over⟩ := g
    obtain ⟨⟨old, en⟩, ti, ne⟩ := st
    obtain ⟨us, rus, isT, _⟩ := I.tuple sq
    have o := own it (List.mem_cons_of_mem _ List.mem_cons_self)
    have gone : us.toArray[i]? = none := by
      rw [List.getElem?_toArray, List.getElem?_eq_none]
      rw [← rus.length]
      exact over
    exact enumT_end (I.ok.hd calm) en ti isT gone fun h' eb => ⟨rfl, I.turned (t' := s.toks) (fun b z hb q => eb b z hb q) o.1 o.2.1 o.2.2.2.1 o.2.2.2.2.1 o.2.2.2.2.2⟩
  self := fun _ _ _ _ _ st q => let ⟨_, en⟩ := st.1; wpAny_pyIter_enum en q
def iEnumT (K : PySem.W.Frag) (ta : TA) : TI := fun σ H R => ta σ H fun vs H1 => ∃ a xs, vs = [.ref a] ∧ SqT K H1 a xs ∧ R (ItT K a) H1
theorem pi_enumT {X : Cx} {e : Expr} {ta : TA} {p pos tpos : Pos} {elts : List Expr} {kk : Nat} (free : Gl X "enumerate") (mg0 : X.mg "enumerate" = none) (ha : PA X [e] ta) (plain : starEach [e] X.env = [(false, eval e X.env)] := by rfl) :
    PI X (.Tuple elts kk tpos) (.Call (.Name "enumerate" p) [e] [] pos) (iEnumT X.K ta) where
  run := fun pins s σ H R I h => Call_ (ld_blt I free mg0 boot_enumerate (PyProof.Rows.callWith_type1 (thn (ha.run pos pins s σ H _ I h) fun us s1 came => by
    obtain ⟨vs, H1, I1, r1, a, xs, one_, sq, q⟩ := came
    subst one_
    obtain ⟨u, ue, r⟩ := r1.one
    subst ue
    cases r
    obtain ⟨ws, _, isT, _⟩ := I1.tuple sq
    have low : a < s1.heap.objs.size := let ⟨_, at_a, _⟩ := isT; Heap.lt_size at_a
    refine call_enumT isT fun h1 en ti kept => wpAny_pyIter_enum en ?_
    have young : ∀ b ∈ [s1.heap.objs.size + 1, s1.heap.objs.size], FpOk X pins H1 b := fun b hb => of_two (C := fun b => FpOk X pins H1 b) hb (I1.fpOk (Nat.le_succ _) (I1.hok.fresh (Nat.le_succ _))) (I1.fpOk (Nat.le_refl _) (I1.hok.fresh (Nat.le_refl _)))
    exact ⟨s1.heap.objs.size + 1, [s1.heap.objs.size + 1, s1.heap.objs.size], _, _, H1, rfl, I1.kept (t' := s1.toks) kept, turn_enumT a (s1.heap.objs.size + 1) s1.heap.objs.size (Nat.ne_of_lt low) (Nat.ne_of_gt (Nat.lt_succ_of_lt low)), ⟨⟨.none, en⟩, ti, Nat.succ_ne_self _⟩, young, q⟩) plain rfl))
theorem walk_enumT {K : PySem.W.Frag} {a : Addr} {xs : List V} : Walk (ItT K a) xs.length (fun H => SqT K H a xs) (YPair (fun i => some (.int (i : Nat))) (fun i => xs[i]?)) where
  goes := fun i _ lt sq => ⟨xs, xs[i], sq, List.getElem?_eq_getElem lt⟩
  stops := fun _ sq => ⟨xs, sq, Nat.le_refl _⟩
  yields := fun i _ _ _ _ sq ⟨T, x, y1, y2, y3, y4⟩ => ⟨T, .int (i : Nat), x, y1, y2, y3, rfl, y4 xs sq⟩
/-! ### t == (), whatever the tuple holds -/
def rEqT0 (K : PySem.W.Frag) : R2 := fun x y H Q => ∃ a b xs, x = .ref a ∧ y = .ref b ∧ SqT K H a xs ∧ SqT K H b [] ∧ Q (.bl (decide (xs.length = 0))) H
theorem eqT0 {X : Cx} {K : PySem.W.Frag} (hu : X.A.units < cLine) (hK : X.K = K := by rfl) : OpR X (compareOp .Eq) (rEqT0 K) := by
  cases hK
  intro pins s σ H x y v u Q I rx ry h
  obtain ⟨a, b, xs, rfl, rfl, ha, hb, q⟩ := h
  cases rx
  cases ry
  obtain ⟨us, r1, p1, _⟩ := I.tuple ha
  obtain ⟨ws, r2, p2, _⟩ := I.tuple hb
  cases r2
  show wpAny (model X.prog X.w) X.A (richCompare .Eq (.ref a) (.ref b)) _ _ s
  refine SeqAt.RcAt.tuples (e := fun _ => true) p1 p2 hu (fun j h1 h2 => by simp at h2) X.prog X.w _ _ ?_
  have e : ((List.range (min us.toArray.size ([] : List Value).toArray.size)).all (fun _ => true) && us.toArray.size == ([] : List Value).toArray.size) = decide (xs.length = 0) := by
    rw [r1.length]
    simp
    cases us <;> simp
  rw [e]
  exact ⟨.bl _, H, I, rfl, q⟩
theorem ev_eqT0 {K : PySem.W.Frag} {σ : L2.St} {H : Hp} {ta tb : TE} {ds : List PyData} (ha : EvD K ta σ H (.tuple ds)) (hb : EvD K tb σ H (.tuple [])) : EvD K (tOp (rEqT0 K) ta tb) σ H (.bool (decide (ds.length = 0))) :=
  ev_op2 ha hb fun v w H1 e1 hv hw Q q => by
    cases hv with
    | tup h1 h2 =>
      cases hw with
      | tup h3 h4 =>
        cases h4
        refine ⟨_, _, _, rfl, rfl, h1, h3, ?_⟩
        rw [h2.length]
        exact q _ H1 (Same.refl _) (.bl _)
end K7

set_option Elab.async false
set_option linter.all false
set_option maxRecDepth 100000
set_option maxHeartbeats 4000000
namespace K7
open PySem PySem.Spec PyProof.Rows L2
/-! ### what own classes add: len, str, isinstance, ==, properties -/
section
variable {X : Cx} {CX : CXT} {k : Nat} {f C : Addr} {fd : FuncData} {ps : List Str} {sp : Sp} {E : XK}
/-- a def that raises nothing here, called from within a built-in -/
theorem run_in {A : Around} {pins : List (Addr × Obj)} {σ : L2.St} {H : Hp} {s : Shared} {Q : VK} {E' : Value → Shared → Prop} {us : List Value} {vs : List V} (F : FnOk X.prog X.w X.K X.mg X.base CX k f fd ps sp) (hr : Room k A) (hf : A.frames = X.A.frames) (hb : Binds X.K fd ps [])
    (hx : Passes CX X.nox E) (I : Inv X pins σ H s) (r : Vals vs us) (h : sp vs H Q E) : wpAny (model X.prog X.w) A (call (.ref f) us) (EP X pins σ Q) E' s := by
  have n : us.length = ps.length := r.length.symm.trans (F.len _ _ _ _ h)
  have old := I.env0
  have here : Env0 X.prog X.w X.K X.mg X.base A X.stack s H := ⟨hf.trans old.frames, old.mod, old.bs, old.bsz, old.funs, old.frf, old.hok, old.bare⟩
  have b := List.append_nil us ▸ hb s us I.kIn ((List.append_nil us).symm ▸ n)
  refine wpAny_call (codeAny_mono (F.run A X.stack s H ⟨us, []⟩ us vs Q E hr here b r h) fun r s' res => ?_)
  match r, res with
  | .ok (.ret u), res => exact I.after res
  | .ok .next, res => exact res.elim
  | .ok .brk, res => exact res.elim
  | .ok .cont, res => exact res.elim
  | .error er, res => exact (hx pins σ H s er s' (I.wish _) res).elim
theorem room_in2 {A : Around} (r : Room (k + 1) A) : Room k A.in1.in1 :=
  ⟨r.hd, by have := r.dp; show A.depth + 3 * k + 5 < _; omega, by have := r.un; show A.units + 1 + 1 + 16 * k + 200 < _; omega⟩
/-- len(x) of an own instance -/
def rLenO (C : Addr) (sp : Sp) (E : XK) : List V → Hp → VK → Prop := fun xs H Q => ∃ a dx fs, xs = [.ref a] ∧ H a = some (.ins C dx fs) ∧ sp [.ref a] H (fun v H2 => ∃ n : Int, v = .int n ∧ (0 ≤ n ∧ n < 2 ^ 63) ∧ Q (.int n) H2) E
theorem cr_lenO (M : Mt X.prog X.w X.K X.mg X.base CX k C "__len__" ["self"] sp) (hr : Room (k + 1) X.A) (hx : Passes CX X.nox E) : CallR X (.builtin "len") (rLenO C sp E) := by
  obtain ⟨f, fd, F, m, b⟩ := M.ex
  intro pins s σ H xs us Q I r ⟨a, dx, fs, ex, at_a, q⟩
  subst ex
  cases Vals.ref1 r
  obtain ⟨od, J, _⟩ := (ins_get I.hok at_a).choose_spec.1.look
  obtain ⟨mm, hF⟩ := I.fr
  refine PySem.W.len_K hF I.ok.mod.kin J m.at_ m.fn (wpAny_mono (run_in F hr.in1 rfl b hx I r q) (fun u s' hq => ?_) fun _ _ z => z)
  obtain ⟨v, H', I', rv, n, rfl, hn, q'⟩ := hq
  obtain ⟨tk, rfl⟩ := rv
  exact ⟨hn, ⟨.int n, H', I'.tok _, ⟨_, rfl⟩, q'⟩⟩
/-- str(x) of an own instance -/
def rStrO (C : Addr) (sp : Sp) (E : XK) : List V → Hp → VK → Prop := fun xs H Q => ∃ a dx fs, xs = [.ref a] ∧ H a = some (.ins C dx fs) ∧ sp [.ref a] H (fun v H2 => ∃ z, v = .str z ∧ Q v H2) E
theorem cr_strO (M : Mt X.prog X.w X.K X.mg X.base CX k C "__str__" ["self"] sp) (hr : Room (k + 1) X.A) (hx : Passes CX X.nox E) : CallR X (.type "str") (rStrO C sp E) := by
  obtain ⟨f, fd, F, m, b⟩ := M.ex
  intro pins s σ H xs us Q I r ⟨a, dx, fs, ex, at_a, q⟩
  subst ex
  cases Vals.ref1 r
  obtain ⟨od, J, _⟩ := (ins_get I.hok at_a).choose_spec.1.look
  refine PySem.W.kso_call ?_ I.kIn J m.at_ m.fn (wpAny_mono (run_in F (room_in2 hr) rfl b hx I r q) (fun u s' hq => ?_) fun _ _ z => z)
  · have := hr.un
    show X.A.units + 1 + 1 < _
    omega
  · obtain ⟨v, H', I', rv, z, rfl, q'⟩ := hq
    obtain ⟨tk, rfl⟩ := rv
    exact ⟨.str z, H', I', ⟨tk, rfl⟩, q'⟩
theorem insB_ok {K : PySem.W.Frag} {x : Str} (h : insB K x = true) (c : Cls K (He.ga K x)) : C8.InsC K (He.ga K x) := by
  obtain ⟨h1, h⟩ := He.ba h
  obtain ⟨h2, h⟩ := He.ba h
  obtain ⟨h3, h⟩ := He.ba h
  obtain ⟨h4, h5⟩ := He.ba h
  exact ⟨c, He.eqO_ok h1, He.eqO_ok h2, of_decide_eq_true h3, of_decide_eq_true h4, of_decide_eq_true h5⟩
def rIsC (C : Addr) : List V → Hp → VK → Prop := fun xs H Q => ∃ a dx fs, xs = [.ref a, .ref C] ∧ H a = some (.ins C dx fs) ∧ Q (.bl true) H
theorem cr_isC {K : PySem.W.Frag} (c : C8.InsC K C) (hK : X.K = K := by rfl) : CallR X (.builtin "isinstance") (rIsC C) := by
  cases hK
  exact C8.call_isC c
end
/-! ### evaluation -/
section
variable {K : PySem.W.Frag} {σ : L2.St} {H H' : Hp} {ta tb : TE} {ts : TA} {ds es : List PyData} {l l' : Str} {C : Addr} {E : XK} {d : PyData} {r : PyData}
theorem ev_fldW {f : Str} (c : Cls K C) (n : NoAttr K C f) (ha : EvD K ta σ H (LD C ds l)) (hf : f = "words" := by rfl) : EvD K (tFld K ta f) σ H (.tuple ds) := fun H1 e1 Q q => ha H1 e1 _ fun v H2 e2 hv => by
  subst hf
  cases hv with
  | lots h1 h2 h3 => exact ⟨_, _, _, _, _, rfl, h1, c, n, rfl, q _ H2 e2 (.tup h2 h3)⟩
theorem ev_fldL {f : Str} (c : Cls K C) (n : NoAttr K C f) (ha : EvD K ta σ H (LD C ds l)) (hf : f = "letters" := by rfl) : EvD K (tFld K ta f) σ H (.str l) := fun H1 e1 Q q => ha H1 e1 _ fun v H2 e2 hv => by
  subst hf
  cases hv with
  | lots h1 h2 h3 => exact ⟨_, _, _, _, _, rfl, h1, c, n, rfl, q _ H2 e2 (.str _)⟩
/-- a property whose getter lays, and gives data -/
theorem ev_prop {P : List PyData → PyData → Prop} (ha : EvD K ta σ H (LD C ds l)) (hP : P [LD C ds l] r) : EvD K (tProp C (spD K P) [] E ta) σ H r := fun H1 e1 Q q => ha H1 e1 _ fun v H2 e2 hv => by
  cases hv with
  | lots h1 h2 h3 => exact ⟨_, _, _, rfl, h1, ⟨_, r, .cons (.lots h1 h2 h3) .nil, hP, fun v H3 e3 hv => q v H3 (e2.trans e3) hv⟩⟩
theorem ev_getW (ha : EvD K ta σ H (LD C ds l)) : EvD K (tProp C (getSp C "words") [] E ta) σ H (.tuple ds) := fun H1 e1 Q q => ha H1 e1 _ fun v H2 e2 hv => by
  cases hv with
  | lots h1 h2 h3 => exact ⟨_, _, _, rfl, h1, _, _, _, _, rfl, h1, rfl, q _ H2 e2 (.tup h2 h3)⟩
theorem ev_getL (ha : EvD K ta σ H (LD C ds l)) : EvD K (tProp C (getSp C "letters") [] E ta) σ H (.str l) := fun H1 e1 Q q => ha H1 e1 _ fun v H2 e2 hv => by
  cases hv with
  | lots h1 h2 h3 => exact ⟨_, _, _, rfl, h1, _, _, _, _, rfl, h1, rfl, q _ H2 e2 (.str _)⟩
/-- the promise of a method that lays, and gives data -/
theorem ev_meth0 {P : List PyData → PyData → Prop} {m : Str} (hl : (m == ("words" : Str)) = false ∧ (m == ("letters" : Str)) = false := by decide) (ha : EvD K ta σ H (LD C ds l)) (hP : P [LD C ds l] r) : EvD K (tMeth C m (spD K P) [] E ta tNil) σ H r := fun H1 e1 Q q => ha H1 e1 _ fun v H2 e2 hv => by
  cases hv with
  | lots h1 h2 h3 =>
    refine ⟨_, _, _, rfl, h1, ?_, ⟨_, r, .cons (.lots h1 h2 h3) .nil, hP, fun v H3 e3 hv => q v H3 (e2.trans e3) hv⟩⟩
    simp only [List.lookup, hl.1, hl.2]
theorem ev_meth {P : List PyData → PyData → Prop} {m : Str} {gs : List PyData} (hl : (m == ("words" : Str)) = false ∧ (m == ("letters" : Str)) = false := by decide) (ha : EvD K ta σ H (LD C ds l)) (hs : EvA K ts σ H gs) (hP : P (LD C ds l :: gs) r) : EvD K (tMeth C m (spD K P) [] E ta ts) σ H r := fun H1 e1 Q q => ha H1 e1 _ fun v H2 e2 hv => by
  cases hv with
  | lots h1 h2 h3 =>
    refine ⟨_, _, _, rfl, h1, ?_, hs H2 (e1.trans e2) _ fun vs H3 e3 hvs => ⟨_, r, .cons ((Rp.lots h1 h2 h3).mono e3) (by rw [List.append_nil]; exact hvs), hP, fun v H4 e4 hv => q v H4 ((e2.trans e3).trans e4) hv⟩⟩
    simp only [List.lookup, hl.1, hl.2]
theorem ev_lenO {P : List PyData → PyData → Prop} {n : Nat} (hn : n < 2 ^ 63) (ha : EvD K ta σ H (LD C ds l)) (hP : P [LD C ds l] (.int n)) : EvD K (tCB (rLenO C (spD K P) E) (tCons ta tNil)) σ H (.int n) := ev_cb1 ha fun v H1 e1 hv Q q => by
  cases hv with
  | lots h1 h2 h3 =>
    refine ⟨_, _, _, rfl, h1, ⟨_, _, .cons (.lots h1 h2 h3) .nil, hP, fun v H2 e2 hv => ?_⟩⟩
    cases hv
    exact ⟨n, rfl, ⟨by omega, by omega⟩, q _ H2 e2 (.int _)⟩
theorem ev_strO {P : List PyData → PyData → Prop} {z : Str} (ha : EvD K ta σ H (LD C ds l)) (hP : P [LD C ds l] (.str z)) : EvD K (tCB (rStrO C (spD K P) E) (tCons ta tNil)) σ H (.str z) := ev_cb1 ha fun v H1 e1 hv Q q => by
  cases hv with
  | lots h1 h2 h3 =>
    refine ⟨_, _, _, rfl, h1, ⟨_, _, .cons (.lots h1 h2 h3) .nil, hP, fun v H2 e2 hv => ?_⟩⟩
    cases hv
    exact ⟨z, rfl, q _ H2 e2 (.str _)⟩
theorem ev_isC (ha : EvD K ta σ H (LD C ds l)) : EvD K (tCB (rIsC C) (tCons ta (tCons (tC (.ref C)) tNil))) σ H (.bool true) := fun H1 e1 Q q =>
  ha H1 e1 _ fun v H2 e2 hv => by
    cases hv with
    | lots h1 h2 h3 => exact ⟨_, _, _, rfl, h1, q _ H2 e2 (.bl _)⟩
/-- a new instance of Lots -/
def spInit (C : Addr) (K : PySem.W.Frag) (P : List PyData → Str → Prop) : Sp := fun vs H Q _ => ∃ a dx v ds l, vs = [.ref a, v] ∧ H a = some (.ins C dx []) ∧ Rp K (cut H a) v (.tuple ds) ∧ P ds l ∧
  ∀ H' t, Same (cut H a) H' → v = .ref t → H' a = some (.ins C dx [("words", v), ("letters", .str l)]) → Q .non H'
theorem ev_make {P : List PyData → Str → Prop} (hs : EvA K ts σ H [.tuple ds]) (hP : P ds l) : EvD K (tMake C (spInit C K P) [] E ts) σ H (LD C ds l) := fun H1 e1 Q q =>
  hs H1 e1 _ fun vs H2 e2 hvs x dx hx hd ne => by
    cases hvs with
    | cons h1 h2 =>
      cases h2
      have s1 : Same H2 (upd H2 dx (.own x)) := same_new hd
      have s2 : Same H2 (cut (upd (upd H2 dx (.own x)) x (.ins C dx [])) x) := cut_of (s1.trans (fun b o e => by rw [upd_ne (fun z => by rw [z, upd_ne (fun z => ne z.symm), hx] at e; cases e)]; exact e)) hx
      refine ⟨x, dx, _, ds, l, rfl, upd_same, h1.mono s2, hP, fun H' t k ht hh => ⟨rfl, ?_⟩⟩
      have hv := h1.mono (s2.trans k)
      subst ht
      cases hv with
      | tup h3 h4 => exact q _ H' (e2.trans (s2.trans k)) (.lots hh h3 h4)
end
end K7

set_option Elab.async false
set_option linter.all false
set_option maxRecDepth 100000
set_option maxHeartbeats 4000000
namespace K7
open PySem PySem.Spec PyProof.Rows L2
/-! ### getters of properties, classes that are called -/
structure Gt (P : Program) (w : World) (K : PySem.W.Frag) (mg : Str → Option Value) (base : Heap) (CX : CXT) (k : Nat) (C : Addr) (f : Str) (sp : Sp) : Prop where
  ex : ∃ p g fd, PropOf K C f p g ∧ FnOk P w K mg base CX k g fd ["self"] sp ∧ Binds K fd ["self"] []
structure Ini (P : Program) (w : World) (K : PySem.W.Frag) (mg : Str → Option Value) (base : Heap) (CX : CXT) (k : Nat) (x : Str) (C : Addr) (ps : List Str) (sp : Sp) : Prop where
  ex : ∃ f fd, Mk K C f ∧ FnOk P w K mg base CX k f fd ps sp ∧ mg x = some (.ref C) ∧ Binds K fd ps []
section
variable {X : Cx} {CX : CXT} {k : Nat} {C : Addr} {ps : List Str} {sp : Sp} {E : XK} {x m f : Str} {p pos apos : Pos} {e o : Expr} {es : List Expr} {ta : TE} {t : TA}
theorem pe_gt (G : Gt X.prog X.w X.K X.mg X.base CX k C f sp) (c : Cls X.K C) (hr : Room (k + 1) X.A) (hx : Passes CX X.nox E) (he : PE X e ta) (hab : attributeBase e f X.env (eval e X.env) = eval e X.env := by rfl) :
    PE X (.Attribute e f pos) (tProp C sp [] E ta) := by
  obtain ⟨p, g, fd, a, F, b⟩ := G.ex
  exact pe_prop he c a F hr b .nil hx hab
theorem pe_ini (G : Ini X.prog X.w X.K X.mg X.base CX k x C ps sp) (hr : Room (k + 1) X.A) (hg : Gl X x) (hx : Passes CX X E) (ha : PA X (e :: es) t)
    (hdb : (x == ("__debug__" : Str)) = false := by decide) (he : starEach (e :: es) X.env = (false, eval e X.env) :: starEach es X.env := by rfl) (hpl : (backTo pos (starEach es X.env)).any (·.1) = false := by rfl) :
    PE X (.Call (.Name x p) (e :: es) [] pos) (tMake C sp [] E t) := by
  obtain ⟨f, fd, a, b, c, d⟩ := G.ex
  exact pe_make a b hr hg c d .nil hx ha hdb he hpl
theorem fldU {K : PySem.W.Frag} (he : PE X e ta) (hK : X.K = K := by rfl) (hb : attributeBase e f X.env (eval e X.env) = eval e X.env := by rfl) : PE X (.Attribute e f pos) (tFld K ta f) := by
  cases hK
  exact pe_fld he hb
theorem sFldU {K : PySem.W.Frag} {value : Expr} {tv : TE} {pos' : Pos} (ha : PE X o ta) (hv : PE X value tv) (hK : X.K = K := by rfl) (hs : swapsWith value (some (.Attribute o f pos')) pos.line X.env = pure false := by rfl) : PS X (.Assign [.Attribute o f pos'] value pos) (sFld K ta tv f) := by
  cases hK
  exact ps_fld ha hv hs
end
theorem gt_mk {P : Program} {w : World} {K : PySem.W.Frag} {mg : Str → Option Value} {base : Heap} {CX : CXT} {m qual : Str} {st : Stmt} {N : List Str} {k : Nat} {sp : Sp} {a p C : Addr} {f : Str}
    (hp : PropOf K C f p a) (F : ∃ fd, FunD K m qual (defArgs st) (defBody st) (defScope st) [] [] a fd) (S : FnScope N ["self"] (defScope st)) (len : ∀ vs H Q E, sp vs H Q E → vs.length = 1)
    (hb : ∀ (kV doc pm : Value) (an : Option Addr) (cdv ct : Value) (us : List Value), us.length = (["self"] : List Str).length → bindArgs (PySem.W.fnOf m qual (defArgs st) (defBody st) (defScope st) .none kV doc pm an cdv ct) ⟨us, []⟩ = pure ((["self"] : List Str).zip us))
    (hbody : ∀ (cdv : Value) (A : Around) (outer : List Env) (s : Shared) (H : Hp) (vs : List V) (Q : VK) (E : XK), Room k (A.deeper (envOfC qual (defScope st) s.heap.objs.size a cdv)) → sp vs H Q E →
      ∃ t, PSs (cxOf CX P w K mg base N qual (defScope st) a cdv A outer s H E) (defBody st) t ∧ t { nx := fun _ H' => Q .non H', rt := Q } (start N vs) H) : Gt P w K mg base CX (k + 1) C f sp := by
  obtain ⟨fd, F⟩ := F
  exact ⟨p, a, fd, hp, F.ok S len hbody, F.bindsN hb⟩
theorem ini_mk {P : Program} {w : World} {K : PySem.W.Frag} {mg : Str → Option Value} {base : Heap} {CX : CXT} {qual x : Str} {st : Stmt} {N ps : List Str} {k : Nat} {sp : Sp} {a C : Addr}
    (F : ∃ fd, FunD K "__init__" qual (defArgs st) (defBody st) (defScope st) [] [] a fd) (hM : Mk K C a) (hm : mg x = some (.ref C)) (S : FnScope N ps (defScope st)) (len : ∀ vs H Q E, sp vs H Q E → vs.length = ps.length)
    (hb : ∀ (kV doc pm : Value) (an : Option Addr) (cdv ct : Value) (us : List Value), us.length = ps.length → bindArgs (PySem.W.fnOf "__init__" qual (defArgs st) (defBody st) (defScope st) .none kV doc pm an cdv ct) ⟨us, []⟩ = pure (ps.zip us))
    (hbody : ∀ (cdv : Value) (A : Around) (outer : List Env) (s : Shared) (H : Hp) (vs : List V) (Q : VK) (E : XK), Room k (A.deeper (envOfC qual (defScope st) s.heap.objs.size a cdv)) → sp vs H Q E →
      ∃ t, PSs (cxOf CX P w K mg base N qual (defScope st) a cdv A outer s H E) (defBody st) t ∧ t { nx := fun _ H' => Q .non H', rt := Q } (start N vs) H) : Ini P w K mg base CX (k + 1) x C ps sp := by
  obtain ⟨fd, F⟩ := F
  exact ⟨a, fd, hM, F.ok S len hbody, hm, F.bindsN hb⟩
theorem RpAll.one {K : PySem.W.Frag} {H : Hp} {vs : List V} {d : PyData} (h : RpAll K H vs [d]) : ∃ v, vs = [v] ∧ Rp K H v d := by
  cases h with
  | cons h1 h2 => cases h2; exact ⟨_, rfl, h1⟩
theorem RpAll.two {K : PySem.W.Frag} {H : Hp} {vs : List V} {d e : PyData} (h : RpAll K H vs [d, e]) : ∃ v w, vs = [v, w] ∧ Rp K H v d ∧ Rp K H w e := by
  cases h with
  | cons h1 h2 =>
    obtain ⟨w, rfl, h3⟩ := h2.one
    exact ⟨_, w, rfl, h1, h3⟩
theorem RpAll.three {K : PySem.W.Frag} {H : Hp} {vs : List V} {d e f : PyData} (h : RpAll K H vs [d, e, f]) : ∃ v w u, vs = [v, w, u] ∧ Rp K H v d ∧ Rp K H w e ∧ Rp K H u f := by
  cases h with
  | cons h1 h2 =>
    obtain ⟨w, u, rfl, h3, h4⟩ := h2.two
    exact ⟨_, w, u, rfl, h1, h3, h4⟩
/-! ### loops -/
section
variable {K : PySem.W.Frag} {σ : L2.St} {H H' : Hp} {ta tb te : TE} {c : TT} {t u w : TS} {d e f r : PyData} {b : Bool} {P : L2.St → Hp → Prop} {wi : TI} {ds : List PyData} {g : TG}
theorem es_next : EvS tNext σ H (fun σ' _ => σ' = σ) := fun H1 e1 D q => q σ H1 (Same.refl _) rfl
theorem es_skip : EvS tNext σ H (fun _ _ => True) := fun H1 e1 D q => q σ H1 (Same.refl _) trivial
theorem es_if (hc : EvT c σ H b) (h1 : b = true → EvS t σ H P) (h2 : b = false → EvS u σ H P) : EvS (tIfS c t u) σ H P := fun H1 e1 D q => hc H1 e1 _ fun H2 e2 => by
  cases b with
  | true => exact iteT (h1 rfl H2 (e1.trans e2) D fun σ' H3 e3 p => q σ' H3 (e2.trans e3) p)
  | false => exact iteF (h2 rfl H2 (e1.trans e2) D fun σ' H3 e3 p => q σ' H3 (e2.trans e3) p)
theorem es_seq {P2 : L2.St → Hp → Prop} (ht : EvS t σ H P) (hu : ∀ σ' H', Same H H' → P σ' H' → EvS u σ' H' P2) : EvS (tSeq t u) σ H P2 := fun H1 e1 D q =>
  ht H1 e1 _ fun σ' H2 e2 p => hu σ' H2 (e1.trans e2) p H2 (Same.refl _) D fun σ2 H3 e3 p2 => q σ2 H3 (e2.trans e3) p2
theorem es_drop (h : EvD K te σ H d) : EvS (tDrop te) σ H (fun σ' _ => σ' = σ) := fun H1 e1 D q => h H1 e1 _ fun v H2 e2 hv => q σ H2 e2 rfl
theorem es_imp {P2 : L2.St → Hp → Prop} (h : EvS t σ H P) (k : ∀ σ' H', P σ' H' → P2 σ' H') : EvS t σ H P2 := fun H1 e1 D q => h H1 e1 D fun σ' H2 e2 p => q σ' H2 e2 (k σ' H2 p)
/-- a loop that lays and stores -/
theorem es_for (hI : EvI K wi σ H ds) (I : Nat → L2.St → Hp → Prop) (h0 : ∀ H', Same H H' → I 0 σ H')
    (hs : ∀ i d v σ' H', ds[i]? = some d → Same H H' → I i σ' H' → Rp K H' v d → ∀ Q : L2.St → Hp → Prop, (∀ σ2 H2, Same H' H2 → EvS t σ2 H2 (I (i + 1)) → Q σ2 H2) → g v σ' H' Q)
    (hm : ∀ i σ' H1 H2, Same H1 H2 → I i σ' H1 → I i σ' H2) : EvS (tFor wi g t) σ H (I ds.length) := by
  intro H1 e1 D q
  refine hI H1 e1 _ fun J H2 e2 W => ?_
  obtain ⟨G, Y, w, g0, gs, gy⟩ := W.ex
  refine ⟨fun i m σ' H' => m = ds.length - i ∧ i ≤ ds.length ∧ Same H2 H' ∧ I i σ' H', ⟨_, rfl, Nat.zero_le _, Same.refl _, h0 H2 (e1.trans e2)⟩, ?_⟩
  rintro i m σ' H' ⟨rfl, hi, e3, p⟩
  rcases Nat.lt_or_eq_of_le hi with hlt | rfl
  · refine .inr ⟨w.goes i H' hlt (gs _ _ e3 g0), fun σ2 H3 => Same H2 H3 ∧ I (i + 1) σ2 H3, fun σ2 H3 ⟨a, p2⟩ => ⟨_, by omega, rfl, hlt, a, p2⟩, fun x H3 y => ?_⟩
    obtain ⟨e4, d, hd, hx⟩ := gy i H' x H3 e3 hlt (w.yields i H' x H3 hlt (gs _ _ e3 g0) y)
    refine hs i d x σ' H3 hd ((e1.trans e2).trans (e3.trans e4)) (hm _ _ _ _ e4 p) hx _ fun σ2 H4 e5 hb => ?_
    exact hb H4 (Same.refl _) _ fun σ3 H5 e6 p3 => ⟨(e3.trans e4).trans (e5.trans e6), p3⟩
  · exact .inl ⟨w.stops H' (gs _ _ e3 g0), q σ' H' (e2.trans e3) p⟩
theorem es_forN {k : Nat} (hI : EvI K wi σ H ds) (I : Nat → L2.St → Hp → Prop) (h0 : ∀ H', Same H H' → I 0 σ H')
    (hs : ∀ i d v σ' H', ds[i]? = some d → Same H H' → I i σ' H' → Rp K H' v d → EvS t (σ'.set k (some v)) H' (I (i + 1)))
    (hm : ∀ i σ' H1 H2, Same H1 H2 → I i σ' H1 → I i σ' H2) : EvS (tFor wi (gName k) t) σ H (I ds.length) :=
  es_for hI I h0 (fun i d v σ' H' hd e p hv Q q => q _ H' (Same.refl _) (hs i d v σ' H' hd e p hv)) hm
/-- a loop that does nothing but look -/
theorem es_look {k : Nat} (hI : EvI K wi σ H ds) (hs : ∀ (i : Nat) (d : PyData) (v : V) (σ' : L2.St) (H' : Hp), ds[i]? = some d → Same H H' → (∀ j, j ≠ k → σ'[j]? = σ[j]?) → (σ'.set k (some v))[k]? = some (some v) → Rp K H' v d → EvS t (σ'.set k (some v)) H' (fun σ2 _ => σ2 = σ'.set k (some v)))
    (hk : k < σ.length) : EvS (tFor wi (gName k) t) σ H (fun σ' _ => (∀ j, j ≠ k → σ'[j]? = σ[j]?) ∧ σ'.length = σ.length) :=
  es_forN hI (fun _ σ' _ => (∀ j, j ≠ k → σ'[j]? = σ[j]?) ∧ σ'.length = σ.length) (fun _ _ => ⟨fun _ _ => rfl, rfl⟩) (fun i d v σ' H' hd e p hv =>
    es_imp (hs i d v σ' H' hd e p.1 (by rw [List.getElem?_set_self (by rw [p.2]; exact hk)]) hv) fun σ2 _ z => by
      subst z
      exact ⟨fun j hj => by rw [List.getElem?_set_ne (Ne.symm hj)]; exact p.1 j hj, by rw [List.length_set]; exact p.2⟩) fun _ _ _ _ _ p => p
theorem eb_es {P : L2.St → Hp → Prop} (ht : EvS t σ H P) (hu : ∀ σ' H', Same H H' → P σ' H' → EvB K u σ' H' r) : EvB K (tSeq t u) σ H r := eb_seq ht hu
/-- from what the body stores, None: the promise's reading -/
theorem spD_bodyN {P : List PyData → PyData → Prop} {N : List Str} {t : TS} (h : ∀ vs H ds r, RpAll K H vs ds → P ds r → r = .none ∧ ∃ P2, EvS t (start N vs) H P2) (vs : List V) (H : Hp) (Q : VK) (E : XK) (hs : spD K P vs H Q E) :
    t { nx := fun _ H' => Q .non H', rt := Q } (start N vs) H := by
  obtain ⟨ds, r, hv, hP, q⟩ := hs
  obtain ⟨rfl, P2, k⟩ := h vs H ds r hv hP
  exact k H (Same.refl H) _ fun σ' H2 e2 _ => q .non H2 e2 .non
end
/-! ### texts, joined -/
theorem cods_app (a b : Str) : cods (a ++ b) = cods a ++ cods b := TL.tl_append a b
theorem cods_join0 : ∀ ws : List Str, cods (Txt.join ("" : Str) ws) = ws.flatMap cods
  | ws => by
    have h : ∀ ws : List Str, TL.joinL [] (ws.map cods) = ws.flatMap cods := fun ws => by
      induction ws with
      | nil => rfl
      | cons w r ih =>
        cases r with
        | nil => simp [TL.joinL]
        | cons z r =>
          rw [List.flatMap_cons, ← ih]
          rfl
    have e := TL.tl_join ("" : Str) ws
    rw [← TL.join_eq] at e
    exact e.trans (h ws)
theorem join_ones (l : List Nat) : Txt.join ("" : Str) (l.map one) = mkS l := by
  apply cods_inj
  rw [cods_join0, cods_mk]
  induction l with
  | nil => rfl
  | cons c l ih => rw [List.map_cons, List.flatMap_cons, ih]; rfl
theorem flat_ones (l : List Nat) : (l.map one).flatMap cods = l := by
  induction l with
  | nil => rfl
  | cons c l ih => rw [List.map_cons, List.flatMap_cons, ih]; rfl
theorem len_join0 (ws : List Str) : (Txt.join ("" : Str) ws).length = (ws.flatMap cods).length := by rw [len_cods, cods_join0]
/-- the lots that are met here: few, of few things -/
structure Gw (ws : List Str) : Prop where
  le : ws.length ≤ 6
  lot : ∀ w ∈ ws, Lot w
  few : ∃ Ls : List Nat, Ls.length ≤ 4 ∧ ∀ w ∈ ws, ∀ c ∈ cods w, c ∈ Ls
def thg (ws : List Str) : Str := mkS (lets (ws.flatMap cods))
theorem cods_thg (ws : List Str) : cods (thg ws) = lets (ws.flatMap cods) := cods_mk _
section
variable {ws : List Str}
theorem Gw.four (g : Gw ws) {w : Str} (hw : w ∈ ws) : (cods w).length ≤ 4 := by
  obtain ⟨Ls, h1, h2⟩ := g.few
  exact Nat.le_trans (nodup_len _ _ (up_nodup (g.lot w hw).up) (h2 w hw)) h1
theorem Gw.things (g : Gw ws) : (lets (ws.flatMap cods)).length ≤ 4 := by
  obtain ⟨Ls, h1, h2⟩ := g.few
  refine Nat.le_trans (nodup_len _ _ (up_nodup (lets_up _)) fun c hc => ?_) h1
  obtain ⟨w, hw, hc⟩ := List.mem_flatMap.mp (mem_lets.mp hc).2
  exact h2 w hw c hc
theorem Gw.az (g : Gw ws) : ∀ c ∈ ws.flatMap cods, az c := fun c hc => by
  obtain ⟨w, hw, hc⟩ := List.mem_flatMap.mp hc
  exact (g.lot w hw).az c hc
theorem flat_len : ∀ ws : List Str, (∀ w ∈ ws, (cods w).length ≤ 4) → (ws.flatMap cods).length ≤ 4 * ws.length
  | [], _ => Nat.zero_le _
  | w :: r, h => by
    rw [List.flatMap_cons, List.length_append, List.length_cons]
    have h1 := h w List.mem_cons_self
    have h2 := flat_len r fun w hw => h w (List.mem_cons_of_mem _ hw)
    omega
theorem Gw.tot (g : Gw ws) : (ws.flatMap cods).length ≤ 24 := by
  have h := flat_len ws fun w hw => g.four hw
  have := g.le
  omega
theorem sum_lens : ∀ ws : List Str, (ws.map (·.length)).sum = (ws.flatMap cods).length
  | [] => rfl
  | w :: r => by rw [List.map_cons, List.sum_cons, List.flatMap_cons, List.length_append, sum_lens r, len_cods]
theorem Gw.sub (g : Gw ws) {vs : List Str} (hl : vs.length ≤ 6) (h : ∀ w ∈ vs, w ∈ ws) : Gw vs := by
  obtain ⟨Ls, h1, h2⟩ := g.few
  exact ⟨hl, fun w hw => g.lot w (h w hw), Ls, h1, fun w hw => h2 w (h w hw)⟩
theorem thg_len (ws : List Str) : (thg ws).length = (lets (ws.flatMap cods)).length := by rw [len_cods, cods_thg]
end
end K7

set_option Elab.async false
set_option linter.all false
set_option maxRecDepth 100000
set_option maxHeartbeats 4000000
namespace K7
open PySem PySem.Spec PyProof.Rows L2
/-! ### statements that change what they found -/
def Tr (t : TS) (σ : L2.St) (H : Hp) (P : L2.St → Hp → Prop) (R : VK) : Prop := ∀ D : Ends, (∀ σ' H', P σ' H' → D.nx σ' H') → (∀ v H', R v H' → D.rt v H') → t D σ H
/-- tuples stay -/
def isTp : HO → Bool
  | .tup _ => true
  | .frz _ _ => true
  | _ => false
def KeepT (A B : Hp) : Prop := ∀ b o, isTp o = true → A b = some o → B b = some o
theorem KeepT.refl (A : Hp) : KeepT A A := fun _ _ _ h => h
theorem KeepT.trans {A B C : Hp} (h : KeepT A B) (k : KeepT B C) : KeepT A C := fun b o t e => k b o t (h b o t e)
theorem KeepT.of {A B : Hp} (h : Same A B) : KeepT A B := fun b o _ e => h b o e
theorem KeepT.upd {A B : Hp} {a : Addr} {o u : HO} (h : KeepT A B) (e : A a = some u) (n : isTp u = false) : KeepT A (L2.upd B a o) := fun b w t q => by
  rw [upd_ne (fun z => by rw [z, e] at q; cases q; rw [n] at t; cases t)]
  exact h b w t q
theorem KeepT.tup {K : PySem.W.Frag} {A B : Hp} {a : Addr} {xs : List V} (h : KeepT A B) (q : SqT K A a xs) : SqT K B a xs := by
  rcases q with (z | ⟨o, z⟩) | z
  · exact .inl (.inl (h _ _ rfl z))
  · exact .inl (.inr ⟨o, h _ _ rfl z⟩)
  · exact .inr z
/-- a walk over flat data: of a tuple, of numbers -/
structure WalksT (K : PySem.W.Frag) (J : It) (H : Hp) (ds : List PyData) : Prop where
  ex : ∃ (G : Hp → Prop) (Y : Nat → Hp → V → Hp → Prop), Walk J ds.length G Y ∧ G H ∧ (∀ H1 H2, KeepT H1 H2 → G H1 → G H2) ∧ ∀ i H1 x H2, i < ds.length → Y i H1 x H2 → H2 = H1 ∧ ∃ d, ds[i]? = some d ∧ ∀ H', Rp K H' x d
def EvIT (K : PySem.W.Frag) (wi : TI) (σ : L2.St) (H : Hp) (ds : List PyData) : Prop := ∀ H1, Same H H1 → ∀ R : It → Hp → Prop, (∀ J H2, Same H1 H2 → WalksT K J H2 ds → R J H2) → wi σ H1 R
section
variable {K : PySem.W.Frag} {σ : L2.St} {H Hb : Hp} {ta tb te : TE} {c : TT} {t u w : TS} {d e f r : PyData} {b : Bool} {P P2 : L2.St → Hp → Prop} {R : VK} {wi : TI} {ds : List PyData} {g : TG} {i j : Int}
theorem tr_next : Tr tNext σ H (fun σ' H' => σ' = σ ∧ H' = H) R := fun D q _ => q σ H ⟨rfl, rfl⟩
theorem tr_imp {R2 : VK} (h : Tr t σ H P R) (k : ∀ σ' H', P σ' H' → P2 σ' H') (k2 : ∀ v H', R v H' → R2 v H') : Tr t σ H P2 R2 := fun D q q2 => h D (fun σ' H' p => q σ' H' (k σ' H' p)) fun v H' p => q2 v H' (k2 v H' p)
theorem tr_seq (ht : Tr t σ H P R) (hu : ∀ σ' H', P σ' H' → Tr u σ' H' P2 R) : Tr (tSeq t u) σ H P2 R := fun D q q2 => ht { D with nx := u D } (fun σ' H' p => hu σ' H' p D q q2) q2
theorem tr_if (hb : Same Hb H) (hc : EvT c σ Hb b) (h1 : b = true → ∀ H', Same H H' → Tr t σ H' P R) (h2 : b = false → ∀ H', Same H H' → Tr u σ H' P R) : Tr (tIfS c t u) σ H P R := fun D q q2 => hc H hb _ fun H2 e2 => by
  cases b with
  | true => exact iteT (h1 rfl H2 e2 D q q2)
  | false => exact iteF (h2 rfl H2 e2 D q q2)
theorem tr_ret (hb : Same Hb H) (h : EvD K te σ Hb d) (k : ∀ v H', Same H H' → Rp K H' v d → R v H') : Tr (tRet te) σ H P R := fun D _ q2 => h H hb _ fun v H' e hv => q2 v H' (k v H' e hv)
theorem tr_set {k : Nat} (hb : Same Hb H) (h : EvD K te σ Hb d) : Tr (tAsg te (gName k)) σ H (fun σ' H' => Same H H' ∧ ∃ v, Rp K H' v d ∧ σ' = σ.set k (some v)) R := fun D q _ => h H hb _ fun v H' e hv => q _ _ ⟨e, v, hv, rfl⟩
/-- name = e, whatever e says of its value -/
theorem tr_setN {k : Nat} {C : V → Hp → Prop} (h : ∀ Q : VK, (∀ v H', Same H H' → C v H' → Q v H') → te σ H Q) : Tr (tAsg te (gName k)) σ H (fun σ' H' => Same H H' ∧ ∃ v, C v H' ∧ σ' = σ.set k (some v)) R := fun D q _ => h _ fun v H' e hv => q _ _ ⟨e, v, hv, rfl⟩
theorem tr_es (hb : Same Hb H) (h : EvS t σ Hb P) : Tr t σ H (fun σ' H' => Same H H' ∧ P σ' H') R := fun D q _ => h H hb D fun σ' H' e p => q σ' H' ⟨e, p⟩
/-- xs.append(e) -/
def tApp (K : PySem.W.Frag) (to te : TE) : TS := tDrop (tBM K "list" rAppend to (tCons te tNil))
theorem tr_app {p : Nat} {l : Addr} {xs : List V} (hb : Same Hb H) (hp : σ[p]? = some (some (.ref l))) (hl : H l = some (.lst xs)) (hz : xs.length < 100000) (h : EvD K te σ Hb d) :
    Tr (tApp K (tVar p) te) σ H (fun σ' H' => σ' = σ ∧ ∃ y H2, Same H H2 ∧ Rp K H2 y d ∧ H' = upd H2 l (.lst (xs ++ [y]))) R := fun D q _ =>
  ⟨.ref l, hp, .inl ⟨rfl, xs, SqL.of hl⟩, h H hb _ fun y H2 e2 hy => ⟨l, xs, y, rfl, rfl, e2 _ _ hl, by rw [sizeLine_eq]; omega, q _ _ ⟨rfl, y, H2, e2, hy, rfl⟩⟩⟩
/-- a new empty list -/
theorem tr_new {k : Nat} : Tr (tAsg (tLst tNil) (gName k)) σ H (fun σ' H' => ∃ l, H l = none ∧ σ' = σ.set k (some (.ref l)) ∧ H' = upd H l (.lst [])) R := fun D q _ =>
  ⟨by decide +kernel, fun l hl => q _ _ ⟨l, hl, rfl, rfl⟩⟩
/-- a new empty dict -/
theorem tr_newD {k : Nat} : Tr (tAsg tDNewK (gName k)) σ H (fun σ' H' => ∃ d, H d = none ∧ σ' = σ.set k (some (.ref d)) ∧ H' = upd H d (.dK [])) R := fun D q _ => fun d hd => q _ _ ⟨d, hd, rfl, rfl⟩
theorem ei_tupT (hd : ∀ d ∈ ds, scD d = true) (h : EvD K te σ H (.tuple ds)) : EvIT K (iTup K te) σ H ds := fun H1 e1 R q => h H1 e1 _ fun v H2 e2 hv => by
  cases hv with
  | tup hs hr =>
    refine ⟨_, rfl, ⟨_, hs⟩, q _ H2 e2 ⟨_, _, by rw [← hr.length]; exact walk_tup, hs, fun _ _ e z => e.tup z, fun k H3 x H4 hk y => ?_⟩⟩
    obtain ⟨rfl, hx⟩ := y
    obtain ⟨d, h1, h2⟩ := hr.got hx
    exact ⟨rfl, d, h1, fun H' => h2.sc (hd d (List.mem_of_getElem? h1)) H'⟩
theorem ei_rngT {J : Int} {n : Nat} (H2 : Hp) : WalksT K (Itr J n) H2 (upto J n) := by
  refine ⟨_, _, by rw [show (upto J n).length = n by simp [upto]]; exact walk_range, trivial, fun _ _ _ _ => trivial, fun k H3 x H4 hk y => ?_⟩
  obtain ⟨rfl, rfl⟩ := y
  have hk' : k < n := by simpa [upto] using hk
  exact ⟨rfl, .int (J + k), by simp [upto, hk'], fun _ => .int _⟩
theorem ei_rangeT1 (h0 : -(2 ^ 62) ≤ i) (h1 : i < 2 ^ 62) (h : EvD K te σ H (.int i)) : EvIT K (iRng1 (tCons te tNil)) σ H (upto 0 i.toNat) := fun H1 e1 R q => h H1 e1 _ fun v H2 e2 hv => by
  cases hv
  exact ⟨i, rfl, h0, h1, q _ H2 e2 (ei_rngT H2)⟩
theorem ei_rangeT2 (hb : -(2 ^ 62) ≤ i ∧ i < 2 ^ 62 ∧ -(2 ^ 62) ≤ j ∧ j < 2 ^ 62) (h : EvD K ta σ H (.int i)) (h' : EvD K tb σ H (.int j)) : EvIT K (iRng2 (tCons ta (tCons tb tNil))) σ H (upto i (j - i).toNat) := fun H1 e1 R q => h H1 e1 _ fun v H2 e2 hv => h' H2 (e1.trans e2) _ fun w H3 e3 hw => by
  cases hv; cases hw
  exact ⟨i, j, rfl, hb, q _ H3 (e2.trans e3) (ei_rngT H3)⟩
/-- a loop that may change what is no tuple -/
theorem tr_for {k : Nat} (hb : Same Hb H) (hI : EvIT K wi σ Hb ds) (I : Nat → L2.St → Hp → Prop) (h0 : ∀ H', Same H H' → I 0 σ H')
    (hs : ∀ (i : Nat) (d : PyData) (v : V) (σ' : L2.St) (H' : Hp), ds[i]? = some d → I i σ' H' → (∀ H'', Rp K H'' v d) → Tr t (σ'.set k (some v)) H' (fun σ2 H2 => KeepT H' H2 ∧ I (i + 1) σ2 H2) R) : Tr (tFor wi (gName k) t) σ H (I ds.length) R := by
  intro D q q2
  refine hI H hb _ fun J H2 e2 W => ?_
  obtain ⟨G, Y, w, g0, gs, gy⟩ := W.ex
  refine ⟨fun i m σ' H' => m = ds.length - i ∧ i ≤ ds.length ∧ KeepT H2 H' ∧ I i σ' H', ⟨_, rfl, Nat.zero_le _, KeepT.refl _, h0 H2 e2⟩, ?_⟩
  rintro i m σ' H' ⟨rfl, hi, e3, p⟩
  rcases Nat.lt_or_eq_of_le hi with hlt | rfl
  · refine .inr ⟨w.goes i H' hlt (gs _ _ e3 g0), fun σ2 H3 => KeepT H2 H3 ∧ I (i + 1) σ2 H3, fun σ2 H3 ⟨a, p2⟩ => ⟨_, by omega, rfl, hlt, a, p2⟩, fun x H3 y => ?_⟩
    obtain ⟨rfl, d, hd, hx⟩ := gy i H' x H3 hlt (w.yields i H' x H3 hlt (gs _ _ e3 g0) y)
    exact hs i d x σ' H3 hd p hx _ (fun σ3 H5 p3 => ⟨e3.trans p3.1, p3.2⟩) q2
  · exact .inl ⟨w.stops H' (gs _ _ e3 g0), q σ' H' p⟩
/-- a body that hands something back on every way -/
theorem tr_run (h : Tr t σ H (fun _ _ => False) R) {Q : VK} {nx : L2.St → Hp → Prop} (k : ∀ v H', R v H' → Q v H') : t { nx := nx, rt := Q } σ H := h _ (fun _ _ z => z.elim) k
end
/-! ### text.index(sign) -/
theorem occ_one {z : Str} {c : Nat} (h : c ∈ cods z) : ∃ i rest, Builtin.Str.occurrences z (one c) 0 z.length 1 = i :: rest ∧ (cods z)[i]? = some c := by
  have e := StrLaws.found_one z c
  have h' : c ∈ z.cps.toList := h
  rw [decide_eq_true h', Bool.not_eq_true'] at e
  have e2 : (Builtin.Str.occurrences z (one c) 0 z.length 1).isEmpty = false := e
  obtain ⟨f, hf⟩ := StrLaws.occ_chain z (one c) 1
  cases q : Builtin.Str.occurrences z (one c) 0 z.length 1 with
  | nil => rw [q] at e2; cases e2
  | cons i r =>
    rw [q] at hf
    exact ⟨i, r, rfl, (StrLaws.subAt_one z c i).mp hf.2.1⟩
def sidx (z : Str) (c : Nat) : Nat := (Builtin.Str.occurrences z (one c) 0 z.length 1).headD 0
theorem sidx_at {z : Str} {c : Nat} (h : c ∈ cods z) : (cods z)[sidx z c]? = some c := by
  obtain ⟨i, r, e, h2⟩ := occ_one h
  unfold sidx
  rw [e]
  exact h2
theorem sidx_lt {z : Str} {c : Nat} (h : c ∈ cods z) : sidx z c < (cods z).length := (List.getElem?_eq_some_iff.mp (sidx_at h)).1
abbrev rSix : V → List V → Hp → VK → Prop := fun x xs H Q => ∃ a b i rest, x = .str a ∧ xs = [.str b] ∧ Builtin.Str.occurrences a b 0 a.length 1 = i :: rest ∧ Q (.int (i : Nat)) H
section
variable {X : Cx} {K : PySem.W.Frag} {o e : Expr} {to te : TE} {apos cpos : Pos}
theorem appU (ho : PE X o to) (he : PE X e te) (hK : X.K = K := by rfl) (hbase : attributeBase o "append" X.env (eval o X.env) = eval o X.env := by rfl)
    (hfew : ((backTo cpos (starEach [e] X.env)).all (fun x => !x.1) && (backToKw cpos (keywordEach [] X.env)).all (fun x => x.1.isSome) && decide ([e].length + ([] : List Keyword).length + (if ([] : List Keyword).isEmpty then 0 else 1) < 30)) = true := by rfl)
    (hline : (apos.endLine == cpos.line) = true := by rfl) (hs : starEach [e] X.env = (false, eval e X.env) :: starEach [] X.env := by rfl) (hsw : swapsWith (.Call (.Attribute o "append" apos) [e] [] cpos) none cpos.line X.env = pure false := by rfl) :
    PS X (.Expr (.Call (.Attribute o "append" apos) [e] [] cpos) cpos) (tApp K to te) := by
  cases hK
  exact ps_expr (pe_bm PySem.F.plainAttrs_list PySem.F.slot_list_append PySem.F.type_list_append mt_append ho (pa_cons he pa_nil hs) hbase hfew hline hs rfl) hsw
theorem sixU (ho : PE X o to) (he : PE X e te) (hs : starEach [e] X.env = [(false, eval e X.env)] := by rfl) (hbase : attributeBase o "index" X.env (eval o X.env) = eval o X.env := by rfl) (hline : (apos.endLine == cpos.line) = true := by rfl) :
    PE X (.Call (.Attribute o "index" apos) [e] [] cpos) (tM1 rSix to te) := pe_m1 PySem.F.slot_str_index PySem.F.type_str_index mt_sindex ho he hs hbase hline
end
theorem ev_six {K : PySem.W.Frag} {σ : L2.St} {H : Hp} {ta tb : TE} {z : Str} {c : Nat} (h : c ∈ cods z) (ha : EvD K ta σ H (.str z)) (hb : EvD K tb σ H (.str (one c))) : EvD K (tM1 rSix ta tb) σ H (.int (sidx z c : Nat)) := fun H1 e1 Q q =>
  ha H1 e1 _ fun v H2 e2 hv => by
    cases hv
    refine ⟨⟨z, rfl⟩, hb H2 (e1.trans e2) _ fun w H3 e3 hw => ?_⟩
    cases hw
    obtain ⟨i, r, e, h2⟩ := occ_one h
    have es : sidx z c = i := by unfold sidx; rw [e]; rfl
    exact ⟨z, one c, i, r, rfl, rfl, e, q _ H3 (e2.trans e3) (by rw [es]; exact .int _)⟩
/-! ### a dict that is only read from now on -/
def tFrz (te : TE) : TE := fun σ H Q => te σ H fun x H1 => ∃ d u, x = .ref d ∧ H1 d = some u ∧ Mut (some u) ∧ ∀ od, Q x (upd H1 d (.frz od u))
theorem pe_frz {X : Cx} {e : Expr} {te : TE} (he : PE X e te) : PE X e (tFrz te) := by
  refine ⟨fun pins s σ H Q I h => thn (he.run pins s σ H _ I h) fun v s1 ⟨x, H1, I1, r, d, u, ex, hd, mu, q⟩ => ?_⟩
  obtain ⟨od, I2⟩ := I1.lock hd mu
  exact ⟨x, _, I2, r, q od⟩
section
variable {K : PySem.W.Frag} {σ : L2.St} {H : Hp} {td : TE} {tb : TS} {P : L2.St → Hp → Prop} {R : VK} {k l : Nat}
/-- for k, v in d.items(), d new -/
theorem tr_items {C : Addr → List (Key × V) → Hp → Prop} (hd : ∀ Q : VK, (∀ d kvs H2, Same H H2 → H2 d = some (.dK kvs) → C d kvs H2 → Q (.ref d) H2) → td σ H Q)
    (hs : ∀ d kvs H2, Same H H2 → H2 d = some (.dK kvs) → C d kvs H2 → ∀ od, ∃ I : Nat → L2.St → Hp → Prop, I 0 σ (upd H2 d (.frz od (.dK kvs))) ∧
      (∀ (i : Nat) (kv : Key × V) (T : Addr) (σ' : L2.St) (H' : Hp), kvs[i]? = some kv → I i σ' H' → H' T = none → Tr tb ((σ'.set k (some (kV kv.1))).set l (some kv.2)) (upd H' T (.tup [kV kv.1, kv.2])) (fun σ2 H3 => KeepT (upd H' T (.tup [kV kv.1, kv.2])) H3 ∧ I (i + 1) σ2 H3) R) ∧
      ∀ σ' H', I kvs.length σ' H' → P σ' H') :
    Tr (tFor (iItems (tFrz td)) (gTup K 2 (gCons (gName k) (gCons (gName l) gNil))) tb) σ H P R := by
  intro D q q2
  refine hd _ fun d kvs H2 e2 hdk hc => ⟨d, _, rfl, hdk, trivial, fun od => ⟨d, od, kvs, rfl, upd_same, ?_⟩⟩
  obtain ⟨I, i0, is, ie⟩ := hs d kvs H2 e2 hdk hc od
  have w := walk_items (d := d) (o := od) (kvs := kvs)
  refine ⟨fun i m σ' H' => m = kvs.length - i ∧ i ≤ kvs.length ∧ H' d = some (.frz od (.dK kvs)) ∧ I i σ' H', ⟨_, rfl, Nat.zero_le _, upd_same, i0⟩, ?_⟩
  rintro i m σ' H' ⟨rfl, hi, e3, p⟩
  rcases Nat.lt_or_eq_of_le hi with hlt | rfl
  · refine .inr ⟨w.goes i H' hlt e3, fun σ2 H3 => H3 d = some (.frz od (.dK kvs)) ∧ I (i + 1) σ2 H3, fun σ2 H3 ⟨a, p2⟩ => ⟨_, by omega, rfl, hlt, a, p2⟩, fun x H3 y => ?_⟩
    obtain ⟨T, x1, x2, rfl, hT, rfl, h1, h2⟩ := w.yields i H' x H3 hlt e3 y
    have hkv : kvs[i]? = some kvs[i] := List.getElem?_eq_getElem hlt
    dsimp only at h1 h2
    rw [hkv] at h1 h2
    cases h1
    cases h2
    refine ⟨T, _, rfl, SqT.of upd_same, rfl, _, _, rfl, _, _, rfl, rfl, is i kvs[i] T σ' H' hkv p hT _ (fun σ3 H5 p3 => ⟨p3.1 _ _ rfl ?_, p3.2⟩) q2⟩
    rw [upd_ne (ne_of_none e3 hT)]
    exact e3
  · exact .inl ⟨w.stops H' e3, q σ' H' (ie σ' H' p)⟩
end
end K7

set_option Elab.async false
set_option linter.all false
set_option maxRecDepth 100000
set_option maxHeartbeats 4000000
namespace K7
open PySem PySem.Spec PyProof.Rows L2
section
variable {P : Program} {w : World} {K : PySem.W.Frag} {mg : Str → Option Value} {base : Heap}

theorem bt_isinstance : bootBuiltins "isinstance" = some (.builtin "isinstance") := by decide +kernel
theorem bt_all : bootBuiltins "all" = some (.builtin "all") := by decide +kernel
theorem bt_any : bootBuiltins "any" = some (.builtin "any") := by decide +kernel
theorem bt_len : bootBuiltins "len" = some (.builtin "len") := by decide +kernel
theorem bt_sorted : bootBuiltins "sorted" = some (.builtin "sorted") := by decide +kernel
theorem bt_sum : bootBuiltins "sum" = some (.builtin "sum") := by decide +kernel
theorem bt_max : bootBuiltins "max" = some (.builtin "max") := by decide +kernel
theorem bt_min : bootBuiltins "min" = some (.builtin "min") := by decide +kernel
theorem bt_abs : bootBuiltins "abs" = some (.builtin "abs") := by decide +kernel
theorem bt_divmod : bootBuiltins "divmod" = some (.builtin "divmod") := by decide +kernel
theorem bt_repr : bootBuiltins "repr" = some (.builtin "repr") := by decide +kernel
theorem bt_int : bootBuiltins "int" = some (.type "int") := by decide +kernel
theorem bt_str : bootBuiltins "str" = some (.type "str") := by decide +kernel
theorem bt_bool : bootBuiltins "bool" = some (.type "bool") := by decide +kernel
theorem bt_tuple : bootBuiltins "tuple" = some (.type "tuple") := by decide +kernel
theorem bt_list : bootBuiltins "list" = some (.type "list") := by decide +kernel
theorem bt_set : bootBuiltins "set" = some (.type "set") := by decide +kernel
theorem bt_ValueError : bootBuiltins "ValueError" = some (.type "ValueError") := by decide +kernel
theorem bt_LookupError : bootBuiltins "LookupError" = some (.type "LookupError") := by decide +kernel
theorem bt_ArithmeticError : bootBuiltins "ArithmeticError" = some (.type "ArithmeticError") := by decide +kernel

def isIntD : PyData → Bool
  | .int _ => true
  | _ => false
/-- whether data is an integer from one to another -/
def withinD (d : PyData) (lo hi : Int) : Bool := match d with
  | .int i => decide (lo ≤ i) && decide (i ≤ hi)
  | _ => false
def PIsInt : List PyData → PyData → Prop := fun ds r => ∃ d, ds = [d] ∧ noDict d = true ∧ r = .bool (isIntD d)
def PWithin : List PyData → PyData → Prop := fun ds r => ∃ d lo hi, ds = [d, .int lo, .int hi] ∧ noDict d = true ∧ r = .bool (withinD d lo hi)
/-- a lot is told to be one -/
def PLot : List PyData → PyData → Prop := fun ds r => ∃ z, ds = [.str z] ∧ Lot z ∧ r = .bool true
theorem len1 {Pp : List PyData → PyData → Prop} {n : Nat} (hl : ∀ ds r, Pp ds r → ds.length = n) {vs : List V} {H : Hp} {Q : VK} {E : XK} (h : spD K Pp vs H Q E) : vs.length = n := by
  obtain ⟨ds, r, hv, hP, _⟩ := h
  rw [hv.length]
  exact hl ds r hP

theorem ok_is_integer (W : Wr P w K mg base)  : Fn P w K mg base CX0 1 "is_integer" ["value"] (spD K PIsInt) := by
  refine fn_mk W.d_is_integer W.g_is_integer sc_is_integer (fun vs H Q E h => ?_) (fun _ _ _ _ _ _ us hl => match us, hl with | [_], _ => rfl) (fun cdv A outer s H vs Q E hr h => ?_)
  · exact len1 (fun ds r ⟨d, e, _⟩ => by rw [e]; rfl) h
  · refine ⟨_, PSs.nox (pss_one (ps_ret (pe_and (pe_callB (isiU (K := K)) rfl W.n_isinstance bt_isinstance (pa_cons (pv 0) (pa_cons (pe_bltn (v := .ty "int") rfl W.n_int bt_int rfl) pa_nil))) (pe_one (pe_not (pe_callB (isiU (K := K)) rfl W.n_isinstance bt_isinstance (pa_cons (pv 0) (pa_cons (pe_bltn (v := .ty "bool") rfl W.n_bool bt_bool rfl) pa_nil)))))))), ?_⟩
    refine spD_body (fun vs H ds r hv hP => ?_) vs H Q E h
    obtain ⟨d, rfl, hn, rfl⟩ := hP
    cases hv with
    | cons h1 h2 =>
      cases h2
      refine eb_ret ?_
      cases d with
      | dict _ => simp [noDict] at hn
      | none => exact (ev_and (b := false) (c := false) (ev_isi rfl (kit_ty (by decide +kernel)) (ev_var rfl h1)) (fun z => by cases z)).as (by simp [isIntD])
      | bool b => exact (ev_and (b := true) (c := false) (ev_isi rfl (kit_ty (by decide +kernel)) (ev_var rfl h1)) (fun _ => ev_not (b := true) (ev_isi rfl (kit_ty (by decide +kernel)) (ev_var rfl h1)))).as (by simp [isIntD])
      | int i => exact (ev_and (b := true) (c := true) (ev_isi rfl (kit_ty (by decide +kernel)) (ev_var rfl h1)) (fun _ => ev_not (b := false) (ev_isi rfl (kit_ty (by decide +kernel)) (ev_var rfl h1)))).as (by simp [isIntD])
      | str x => exact (ev_and (b := false) (c := false) (ev_isi rfl (kit_ty (by decide +kernel)) (ev_var rfl h1)) (fun z => by cases z)).as (by simp [isIntD])
      | list x => exact (ev_and (b := false) (c := false) (ev_isi rfl (kit_ty (by decide +kernel)) (ev_var rfl h1)) (fun z => by cases z)).as (by simp [isIntD])
      | tuple x => exact (ev_and (b := false) (c := false) (ev_isi rfl (kit_ty (by decide +kernel)) (ev_var rfl h1)) (fun z => by cases z)).as (by simp [isIntD])

theorem ok_is_within (W : Wr P w K mg base) (F_is_integer : Fn P w K mg base CX0 1 "is_integer" ["value"] (spD K PIsInt)) : Fn P w K mg base CX0 2 "is_within" ["value", "least", "most"] (spD K PWithin) := by
  refine fn_mk W.d_is_within W.g_is_within sc_is_within (fun vs H Q E h => ?_) (fun _ _ _ _ _ _ us hl => match us, hl with | [_, _, _], _ => rfl) (fun cdv A outer s H vs Q E hr h => ?_)
  · exact len1 (fun ds r ⟨d, lo, hi, e, _⟩ => by rw [e]; rfl) h
  · refine ⟨_, PSs.nox (pss_one (ps_ret (pe_and (pe_fn F_is_integer (hr.mono (by decide)) rfl pass0 (pa_cons (pv 0) pa_nil)) (pe_one (pe_chain op_le op_le (pv 1) (pv 0) (pv 2)))))), ?_⟩
    refine spD_body (fun vs H ds r hv hP => ?_) vs H Q E h
    obtain ⟨d, lo, hi, rfl, hn, rfl⟩ := hP
    cases hv with
    | cons h1 h2 =>
      cases h2 with
      | cons h3 h4 =>
        cases h4 with
        | cons h5 h6 =>
          cases h6
          cases h3; cases h5
          refine eb_ret ?_
          have hI := ev_call (E := fun _ _ _ => False) (P := PIsInt) (ea_cons (ev_var (σ := start N_is_within [_, .int lo, .int hi]) (i := 0) rfl h1) ea_nil) ⟨d, rfl, hn, rfl⟩
          cases d with
          | int i =>
            refine (ev_and (b := true) (c := decide (lo ≤ i) && decide (i ≤ hi)) hI fun _ => ?_).as (by simp [withinD])
            cases h1
            exact ev_chainI (p := fun i j => decide (i ≤ j)) (q := fun i j => decide (i ≤ j)) (ev_var rfl (.int lo)) (ev_var rfl (.int i)) (ev_var rfl (.int hi))
          | dict _ => simp [noDict] at hn
          | none => exact (ev_and (b := false) (c := false) hI (fun z => by cases z)).as (by simp [withinD])
          | bool b => exact (ev_and (b := false) (c := false) hI (fun z => by cases z)).as (by simp [withinD])
          | str x => exact (ev_and (b := false) (c := false) hI (fun z => by cases z)).as (by simp [withinD])
          | list x => exact (ev_and (b := false) (c := false) hI (fun z => by cases z)).as (by simp [withinD])
          | tuple x => exact (ev_and (b := false) (c := false) hI (fun z => by cases z)).as (by simp [withinD])

theorem ok_is_rising (W : Wr P w K mg base)  : Fn P w K mg base CX0 1 "is_rising" ["value"] (spD K PLot) := by
  refine fn_mk W.d_is_rising W.g_is_rising sc_is_rising (fun vs H Q E h => ?_) (fun _ _ _ _ _ _ us hl => match us, hl with | [_], _ => rfl) (fun cdv A outer s H vs Q E hr h => ?_)
  · exact len1 (fun ds r ⟨z, e, _⟩ => by rw [e]; rfl) h
  · refine ⟨_, PSs.nox (pss_cons (ps_if (PW.pt (pw_or (pt_not (pt_val (pe_callB (isiU (K := K)) rfl W.n_isinstance bt_isinstance (pa_cons (pv 0) (pa_cons (pe_bltn (v := .ty "str") rfl W.n_str bt_str rfl) pa_nil))))) (pw_or (pt_cmpR (eqU (K := K) hr.units) (pv 0) pe_str (nomark _)) (pw_or1 (pt_not (pt_val (pe_callB (allU (K := K) rfl) rfl W.n_all bt_all (pa_cons (pe_lc (own := [("letter", 1)]) rfl sc_is_rising.nd (pi_str (pv 0)) (blkOk_by (own := [("letter", 1)]) (N := N_is_rising) (sc := (defScope s_is_rising)) (by decide +kernel)) (fun _ _ _ _ _ => (nameU (i := 1) sc_is_rising.nd)) (fun _ _ _ _ _ => pts_nil) (fun _ _ _ _ _ => (pe_cmpR (inU (K := K)) (pv 1) (pe_gs rfl W.z_LETTERS) (by rfl)))) pa_nil)))))))) (pss_one (ps_ret pe_bl)) pss_nil)
  (pss_one (ps_ret (pe_callB (allU (K := K) rfl) rfl W.n_all bt_all (pa_cons (pe_lc (own := [("k", 2)]) rfl sc_is_rising.nd (pi_range1 rfl W.n_range (pa_cons (pe_op op_sub (pe_callB (lenU (K := K)) rfl W.n_len bt_len (pa_cons (pv 0) pa_nil)) pe_int) pa_nil)) (blkOk_by (own := [("k", 2)]) (N := N_is_rising) (sc := (defScope s_is_rising)) (by decide +kernel)) (fun _ _ _ _ _ => (nameU (i := 2) sc_is_rising.nd)) (fun _ _ _ _ _ => pts_nil) (fun _ _ _ _ _ => (pe_cmpR op_ltU (pe_ix (ixU (K := K)) (pv 0) (pv 2) (fun _ _ => rfl)) (pe_ix (ixU (K := K)) (pv 0) (pe_op (addU (K := K)) (pv 2) pe_int) (fun _ _ => rfl)) (nomark _)))) pa_nil))))), ?_⟩
    refine spD_body (fun vs H ds r hv hP => ?_) vs H Q E h
    obtain ⟨z, rfl, hz, rfl⟩ := hP
    have hl8 := hz.size
    have hl0 := hz.pos
    cases hv with
    | cons h1 h2 =>
      cases h2; cases h1
      have hv0 : ∀ {σ : L2.St} {H : Hp}, σ[0]? = some (some (.str z)) → EvD K (tVar 0) σ H (.str z) := fun e => ev_var e (.str z)
      refine eb_ifS (b := false) ?_ (fun z => by cases z) fun _ => ?_
      · refine (et_or (b := false) (c := false) ((et_not (b := true) (et_val (ev_isi rfl (kit_ty (by decide +kernel)) (hv0 rfl)))).as rfl) fun _ => ?_).as rfl
        refine (et_or (b := false) (c := false) ((et_test (ev_eqS (hv0 rfl) ev_str)).as (decide_eq_false hz.notEmpty)) fun _ => ?_).as rfl
        refine (et_not (b := true) (et_val (ev_allT (ev_lc (ei_str (hv0 rfl)) (by rw [signs_len]; omega) (fun _ _ => rfl) fun d v H1 hd e1 hv => ?_)))).as rfl
        obtain ⟨c, hc, rfl⟩ := mem_signs hd
        exact (ev_inS (ev_var rfl hv) ev_str).as (by rw [decide_eq_true (az_letters.mpr (hz.az c hc))])
      · refine eb_next (eb_ret (ev_allT (ev_lc (ei_range1 (i := (z.length : Int) - 1) (by omega) (by omega) (ev_subI (ev_lenS (sz (by omega)) (hv0 rfl)) ev_int)) (by rw [upto_len]; omega) (fun _ _ => rfl) fun d v H1 hd e1 hv => ?_)))
        obtain ⟨k, hk, rfl⟩ := mem_upto hd
        cases hv
        have e0 : (cods z).length = z.length := (len_cods z).symm
        have k1 : k < (cods z).length := by omega
        have k2 : k + 1 < (cods z).length := by omega
        have g1 : (cods z)[k]? = some (cods z)[k] := by simp [k1]
        have g2 : (cods z)[k + 1]? = some (cods z)[k + 1] := by simp [k2]
        refine (ev_ltS (ev_ixS (n := (cods z)[k]) (sz (by omega)) ?_ (hv0 rfl) (ev_var rfl (.int _))) (ev_ixS (n := (cods z)[k + 1]) (sz (by omega)) ?_ (hv0 rfl) (ev_addI (ev_var rfl (.int _)) ev_int))).as ?_
        · rw [show (0 : Int) + (k : Nat) = ((k : Nat) : Int) by omega]; exact atI_nat g1
        · rw [show (0 : Int) + (k : Nat) + 1 = ((k + 1 : Nat) : Int) by omega]; exact atI_nat g2
        · rw [lt_one, decide_eq_true (pw_get hz.up g1 g2 (by omega))]

theorem ok_is_lot (W : Wr P w K mg base) (F_is_rising : Fn P w K mg base CX0 1 "is_rising" ["value"] (spD K PLot)) : Fn P w K mg base CX0 2 "is_lot" ["value"] (spD K PLot) := by
  refine fn_mk W.d_is_lot W.g_is_lot sc_is_lot (fun vs H Q E h => ?_) (fun _ _ _ _ _ _ us hl => match us, hl with | [_], _ => rfl) (fun cdv A outer s H vs Q E hr h => ?_)
  · exact len1 (fun ds r ⟨z, e, _⟩ => by rw [e]; rfl) h
  · refine ⟨_, PSs.nox (pss_one (ps_ret (pe_and (pe_fn F_is_rising (hr.mono (by decide)) rfl pass0 (pa_cons (pv 0) pa_nil)) (pe_one (pe_cmpR op_le (pe_callB (lenU (K := K)) rfl W.n_len bt_len (pa_cons (pv 0) pa_nil)) (pe_gi rfl W.i_MOST_THINGS) (nomark _)))))), ?_⟩
    refine spD_body (fun vs H ds r hv hP => ?_) vs H Q E h
    obtain ⟨z, rfl, hz, rfl⟩ := hP
    have hl8 := hz.size
    cases hv with
    | cons h1 h2 =>
      cases h2; cases h1
      refine eb_ret ((ev_and (b := true) (c := true) (ev_call (ea_cons (ev_var rfl (.str z)) ea_nil) ⟨z, rfl, hz, rfl⟩) fun _ => ?_).as rfl)
      exact (ev_leI (ev_lenS (sz (by omega)) (ev_var rfl (.str z))) ev_int).as (by rw [decide_eq_true (by omega)])

end
end K7

set_option Elab.async false
set_option linter.all false
set_option maxRecDepth 100000
set_option maxHeartbeats 4000000
namespace K7
open PySem PySem.Spec PyProof.Rows L2
section
variable {P : Program} {w : World} {K : PySem.W.Frag} {mg : Str → Option Value} {base : Heap}

/-- the texts as data -/
abbrev tws (ws : List Str) : PyData := .tuple (ws.map .str)
abbrev LDw (K : PySem.W.Frag) (ws : List Str) : PyData := LD (He.ga K "Lots") (ws.map .str) (thg ws)
def PThings : List PyData → PyData → Prop := fun ds r => ∃ ws, ds = [tws ws] ∧ Gw ws ∧ r = .str (thg ws)
def PCkWords : List PyData → PyData → Prop := fun ds r => ∃ ws, ds = [tws ws] ∧ Gw ws ∧ ws ≠ [] ∧ r = .none
def PWords (C : Addr) : List PyData → PyData → Prop := fun ds r => ∃ es l, ds = [LD C es l] ∧ r = .tuple es
def PLetters (C : Addr) : List PyData → PyData → Prop := fun ds r => ∃ es l, ds = [LD C es l] ∧ r = .str l
def PInit : List PyData → Str → Prop := fun ds l => ∃ ws, ds = ws.map .str ∧ Gw ws ∧ ws ≠ [] ∧ l = thg ws
def PLen (C : Addr) : List PyData → PyData → Prop := fun ds r => ∃ es l, ds = [LD C es l] ∧ r = .int es.length
def PStr (C : Addr) : List PyData → PyData → Prop := fun ds r => ∃ ws l, ds = [LD C (ws.map .str) l] ∧ Gw ws ∧ r = .str (Txt.join (" " : Str) ws)
def PCkLots (C : Addr) : List PyData → PyData → Prop := fun ds r => ∃ es l, ds = [LD C es l] ∧ r = .none
def PCkLot : List PyData → PyData → Prop := fun ds r => ∃ z, ds = [.str z] ∧ Lot z ∧ r = .none
def PCkMany : List PyData → PyData → Prop := fun ds r => ∃ ws, ds = [tws ws] ∧ Gw ws ∧ r = .none
def PCkIndex (C : Addr) : List PyData → PyData → Prop := fun ds r => ∃ es l, ∃ i : Int, ds = [LD C es l, .int i] ∧ es.length < 1000 ∧ 0 ≤ i ∧ i < es.length ∧ r = .none
def PCkIndexes (C : Addr) : List PyData → PyData → Prop := fun ds r => ∃ es l, ∃ i : Int, ds = [LD C es l, .tuple [.int i]] ∧ es.length < 1000 ∧ 0 ≤ i ∧ i < es.length ∧ r = .none
def PAdded (K : PySem.W.Frag) : List PyData → PyData → Prop := fun ds r => ∃ ws z, ds = [LDw K ws, .str z] ∧ Gw (ws ++ [z]) ∧ r = LDw K (ws ++ [z])
theorem tws_len (ws : List Str) : ((ws.map PyData.str).length : Int) = (ws.length : Int) := by rw [List.length_map]
theorem tws_at {ws : List Str} {i : Nat} {z : Str} (h : ws[i]? = some z) : L2.atI (ws.map PyData.str) (i : Int) = some (.str z) := atI_nat (by rw [List.getElem?_map, h]; rfl)
theorem cutD_take (ds : List PyData) {k : Nat} (h : k ≤ ds.length) : cutD ds none (some (k : Int)) = ds.take k := by
  unfold cutD
  have e : HT.sIx ds.length ds.length (some (k : Int)) = k := by
    unfold HT.sIx
    simp only [show ¬ ((k : Int) < 0) by omega, if_false, Int.toNat_natCast]
    omega
  have e0 : HT.sIx ds.length 0 none = 0 := rfl
  rw [e, e0]
  simp
theorem cutD_drop (ds : List PyData) {k : Nat} (h : k ≤ ds.length) : cutD ds (some (k : Int)) none = ds.drop k := by
  unfold cutD
  have e : HT.sIx ds.length 0 (some (k : Int)) = k := by
    unfold HT.sIx
    simp only [show ¬ ((k : Int) < 0) by omega, if_false, Int.toNat_natCast]
    omega
  have e0 : HT.sIx ds.length ds.length none = ds.length := rfl
  rw [e, e0]
  rw [List.take_of_length_le (by simp)]

theorem ok_things_in (W : Wr P w K mg base)  : Fn P w K mg base CX0 1 "things_in" ["words"] (spD K PThings) := by
  refine fn_mk W.d_things_in W.g_things_in sc_things_in (fun vs H Q E h => ?_) (fun _ _ _ _ _ _ us hl => match us, hl with | [_], _ => rfl) (fun cdv A outer s H vs Q E hr h => ?_)
  · exact len1 (fun ds r ⟨z, e, _⟩ => by rw [e]; rfl) h
  · refine ⟨_, PSs.nox (pss_one (ps_ret (joinU (K := K) pe_str (pe_SS rfl rfl W.n_sorted rfl W.n_set (joinU (K := K) pe_str (pv 0)))))), ?_⟩
    refine spD_body (fun vs H ds r hv hP => ?_) vs H Q E h
    obtain ⟨ws, rfl, g, rfl⟩ := hP
    have htot := g.tot
    cases hv with
    | cons h1 h2 =>
      cases h2
      refine eb_ret ?_
      have hj := ev_joinT (K := K) (ys := ws) (a := "") (by rw [sum_lens, show ("" : Str).length = 0 from rfl]; omega) ev_str (ev_var (σ := start N_things_in [_]) (i := 0) rfl h1)
      have hs := ev_SS (by rw [len_join0]; omega) (by rw [cods_join0]; exact g.az) hj
      rw [cods_join0] at hs
      have ht := g.things
      refine (ev_joinL (ys := (lets (ws.flatMap cods)).map one) (by rw [sum_lens, flat_ones, show ("" : Str).length = 0 from rfl]; omega) ev_str (hs.as (by rw [List.map_map]; rfl))).as ?_
      rw [join_ones]
      rfl

theorem ok_check_words (W : Wr P w K mg base) (F_is_lot : Fn P w K mg base CX0 2 "is_lot" ["value"] (spD K PLot)) (F_things_in : Fn P w K mg base CX0 1 "things_in" ["words"] (spD K PThings)) : Fn P w K mg base CX0 3 "check_words" ["words"] (spD K PCkWords) := by
  refine fn_mk W.d_check_words W.g_check_words sc_check_words (fun vs H Q E h => ?_) (fun _ _ _ _ _ _ us hl => match us, hl with | [_], _ => rfl) (fun cdv A outer s H vs Q E hr h => ?_)
  · exact len1 (fun ds r ⟨z, e, _⟩ => by rw [e]; rfl) h
  · refine ⟨_, PSs.nox (pss_cons (ps_if (PW.pt (pw_or (pt_not (pt_val (pe_callB (isiU (K := K)) rfl W.n_isinstance bt_isinstance (pa_cons (pv 0) (pa_cons (pe_bltn (v := .ty "tuple") rfl W.n_tuple bt_tuple rfl) pa_nil))))) (pw_or1 (pt_cmpR (eqU (K := K) hr.units) (pv 0) (pe_tup pa_nil) (nomark _))))) (pss_one ps_never) pss_nil)
  (pss_one (ps_for PassesOwn.never rfl (pi_range1 rfl W.n_range (pa_cons (pe_callB (lenU (K := K)) rfl W.n_len bt_len (pa_cons (pv 0) pa_nil)) pa_nil)) (nameU (i := 1) sc_check_words.nd) (pss_one (ps_if (PW.pt (pw_or (pt_cmpR (eqU (K := K) hr.units) (pv 1) (pe_gi rfl W.i_MOST_LOTS) (nomark _)) (pw_or (pt_not (pt_val (pe_fn F_is_lot (hr.mono (by decide)) rfl pass0 (pa_cons (pe_ix (ixU (K := K)) (pv 0) (pv 1) (fun _ _ => rfl)) pa_nil)))) (pw_or1 (pt_cmpR op_gt (pe_callB (lenU (K := K)) rfl W.n_len bt_len (pa_cons (pe_fn F_things_in (hr.mono (by decide)) rfl pass0 (pa_cons (pe_slice (slU (K := K)) (pv 0) po_none (po_some (pe_op (addU (K := K)) (pv 1) pe_int))) pa_nil)) pa_nil)) (pe_gi rfl W.i_MOST_THINGS) (nomark _)))))) (pss_one ps_never) pss_nil))))), ?_⟩
    refine spD_bodyN (fun vs H ds r hv hP => ?_) vs H Q E h
    obtain ⟨ws, rfl, g, hne, rfl⟩ := hP
    have hle := g.le
    refine ⟨rfl, fun _ _ => True, ?_⟩
    cases hv with
    | cons h1 h2 =>
      cases h2
      refine es_seq (P := fun σ' _ => σ' = start N_check_words [_]) (es_if (b := false) ?_ (fun z => by cases z) fun _ => es_next) fun σ' H' e' z => ?_
      · refine (et_or (b := false) (c := false) ((et_not (b := true) (et_val (ev_isi rfl (kit_ty (by decide +kernel)) (ev_var rfl h1)))).as rfl) fun _ => ?_).as rfl
        refine (et_test (ev_eqG ?_ rfl (ev_var rfl h1) (ev_tup (ds := []) (by decide +kernel) ea_nil))).as ?_
        · exact shaped_tws fun w hw c hc => by have := ((g.lot w hw).az c hc).2; omega
        · cases ws with
          | nil => exact absurd rfl hne
          | cons x r => rfl
      · subst z
        refine es_imp (es_look (ei_range1 (i := ws.length) (by omega) (by omega) ((ev_lenT (ev_var rfl (h1.mono e'))).as (by rw [List.length_map]))) (fun i d v σ' H2 hd e2 hσ hk hv => ?_) (Nat.lt_of_sub_pos (by exact Nat.one_pos))) fun _ _ _ => trivial
        obtain ⟨k, hk', rfl⟩ := mem_upto (List.mem_of_getElem? hd)
        cases hv
        have hkl : k < ws.length := by omega
        have hget : ws[k]? = some ws[k] := by simp [hkl]
        have hw : EvD K (tVar 0) (σ'.set 1 (some (.int (0 + (k : Nat))))) H2 (tws ws) := ev_var (by rw [List.getElem?_set_ne (by decide), hσ 0 (by decide)]; rfl) ((h1.mono e').mono e2)
        have hi : EvD K (tVar 1) (σ'.set 1 (some (.int (0 + (k : Nat))))) H2 (.int (k : Nat)) := ev_var (by rw [hk, Int.zero_add]) (.int _)
        refine es_if (b := false) ?_ (fun z => by cases z) fun _ => es_next
        refine (et_or (b := false) (c := false) ((et_test (ev_eqI hi ev_int)).as (decide_eq_false (by omega))) fun _ => ?_).as rfl
        refine (et_or (b := false) (c := false) ((et_not (b := true) (et_val (ev_call (P := PLot) (ea_cons (ev_ixT (tws_at hget) hw hi) ea_nil) ⟨ws[k], rfl, g.lot _ (List.getElem_mem hkl), rfl⟩))).as rfl) fun _ => ?_).as rfl
        have g2 : Gw (ws.take (k + 1)) := g.sub (by rw [List.length_take]; omega) fun w hw => List.mem_of_mem_take hw
        have hth := g2.things
        refine (et_test (ev_gtI (ev_lenS (sz (by rw [thg_len]; omega)) (ev_call (P := PThings) (ea_cons ((ev_slT hw eo_none (eo_some ((ev_addI hi ev_int).as (e := .int ((k + 1 : Nat) : Int)) (by congr 1)))).as (e := tws (ws.take (k + 1))) ?_) ea_nil) ⟨_, rfl, g2, rfl⟩)) ev_int)).as (decide_eq_false (by rw [thg_len]; omega))
        rw [cutD_take _ (by rw [List.length_map]; omega), ← List.map_take]

theorem ok_Lots_lots (W : Wr P w K mg base)  : Gt P w K mg base CX0 1 (He.ga K "Lots") "lots" (spD K (PWords (He.ga K "Lots"))) := by
  refine gt_mk (W.getter 0 rfl).1 (W.getter 0 rfl).2 sc_Lots_lots (fun vs H Q E h => ?_) (fun _ _ _ _ _ _ us hl => match us, hl with | [_], _ => rfl) (fun cdv A outer s H vs Q E hr h => ?_)
  · exact len1 (fun ds r ⟨z, l, e, _⟩ => by rw [e]; rfl) h
  · refine ⟨_, PSs.nox (pss_one (ps_ret (fldU (K := K) (pv 0)))), ?_⟩
    refine spD_body (fun vs H ds r hv hP => ?_) vs H Q E h
    obtain ⟨es, l, rfl, rfl⟩ := hP
    cases hv with
    | cons h1 h2 =>
      cases h2
      exact eb_ret (ev_fldW (f := "words") W.cl_Lots W.na_Lots_words (ev_var rfl h1))

theorem ok_Lots_things (W : Wr P w K mg base)  : Gt P w K mg base CX0 1 (He.ga K "Lots") "things" (spD K (PLetters (He.ga K "Lots"))) := by
  refine gt_mk (W.getter 1 rfl).1 (W.getter 1 rfl).2 sc_Lots_things (fun vs H Q E h => ?_) (fun _ _ _ _ _ _ us hl => match us, hl with | [_], _ => rfl) (fun cdv A outer s H vs Q E hr h => ?_)
  · exact len1 (fun ds r ⟨z, l, e, _⟩ => by rw [e]; rfl) h
  · refine ⟨_, PSs.nox (pss_one (ps_ret (fldU (K := K) (pv 0)))), ?_⟩
    refine spD_body (fun vs H ds r hv hP => ?_) vs H Q E h
    obtain ⟨es, l, rfl, rfl⟩ := hP
    cases hv with
    | cons h1 h2 =>
      cases h2
      exact eb_ret (ev_fldL (f := "letters") W.cl_Lots W.na_Lots_letters (ev_var rfl h1))

theorem ok_Lots___init__ (W : Wr P w K mg base) (F_check_words : Fn P w K mg base CX0 3 "check_words" ["words"] (spD K PCkWords)) (F_things_in : Fn P w K mg base CX0 1 "things_in" ["words"] (spD K PThings)) : Ini P w K mg base CX0 4 "Lots" (He.ga K "Lots") ["self", "lots"] (spInit (He.ga K "Lots") K PInit) := by
  refine ini_mk W.d_Lots___init__ W.mk_Lots W.g_Lots sc_Lots___init__ (fun vs H Q E h => ?_) (fun _ _ _ _ _ _ us hl => match us, hl with | [_, _], _ => rfl) (fun cdv A outer s H vs Q E hr h => ?_)
  · obtain ⟨a, dx, v, ds, l, e, _⟩ := h
    rw [e]
    rfl
  · refine ⟨_, PSs.nox (pss_cons (ps_expr (pe_fn F_check_words (hr.mono (by decide)) rfl pass0 (pa_cons (pv 1) pa_nil)))
  (pss_cons (sFldU (K := K) (pv 0) (pv 1))
  (pss_one (sFldU (K := K) (pv 0) (pe_fn F_things_in (hr.mono (by decide)) rfl pass0 (pa_cons (pv 1) pa_nil)))))), ?_⟩
    obtain ⟨a, dx, v, ds, l, rfl, ha, hv, ⟨ws, rfl, g, hne, rfl⟩, q⟩ := h
    have hv1 : Rp K H v (tws ws) := hv.mono (cut_same a)
    have hc : EvD K (tVar 1) (start N_Lots___init__ [.ref a, v]) (cut H a) (tws ws) := ev_var rfl hv
    refine (ev_call (E := fun _ _ _ => False) (P := PCkWords) (ea_cons hc ea_nil) ⟨ws, rfl, g, hne, rfl⟩) H (cut_same a) _ fun _ H1 e1 _ => ?_
    have ha1 : H1 a = some (.ins (He.ga K "Lots") dx []) := e1 _ _ ha
    have hv2 : Rp K (cut H a) v (tws ws) := hv
    obtain ⟨t, rfl⟩ : ∃ t, v = .ref t := by cases hv with | tup _ _ => exact ⟨_, rfl⟩
    refine ⟨.ref t, rfl, .ref a, rfl, a, _, dx, [], rfl, ha1, W.cl_Lots, W.na_Lots_words, by show (0 : Nat) < 1000; decide, ?_⟩
    have e2 : Same (cut H a) (upd H1 a (.ins (He.ga K "Lots") dx (putF "words" (V.ref t) []))) := cut_upd.mpr ((cut_same a).trans e1)
    have hd : EvD K (tCall (spD K PThings) [] (fun _ _ _ => False) (tCons (tVar 1) tNil)) (start N_Lots___init__ [.ref a, .ref t]) (cut H a) (.str (thg ws)) := ev_call (ea_cons hc ea_nil) ⟨ws, rfl, g, rfl⟩
    refine hd _ e2 _ fun u H2 e3 hu => ?_
    cases hu
    have ha2 := e3 _ _ upd_same
    refine ⟨.ref a, rfl, a, _, dx, _, rfl, ha2, W.cl_Lots, W.na_Lots_letters, by show (1 : Nat) < 1000; decide, ?_⟩
    exact q _ t (cut_upd.mpr (e2.trans e3)) rfl (by rw [upd_same]; rfl)

theorem ok_Lots___len__ (W : Wr P w K mg base)  : Mt P w K mg base CX0 1 (He.ga K "Lots") "__len__" ["self"] (spD K (PLen (He.ga K "Lots"))) := by
  refine mt_mk W.d_Lots___len__ W.m_Lots___len__ sc_Lots___len__ (fun vs H Q E h => ?_) (fun _ _ _ _ _ _ us hl => match us, hl with | [_], _ => rfl) (fun cdv A outer s H vs Q E hr h => ?_)
  · exact len1 (fun ds r ⟨z, l, e, _⟩ => by rw [e]; rfl) h
  · refine ⟨_, PSs.nox (pss_one (ps_ret (pe_callB (lenU (K := K)) rfl W.n_len bt_len (pa_cons (fldU (K := K) (pv 0)) pa_nil)))), ?_⟩
    refine spD_body (fun vs H ds r hv hP => ?_) vs H Q E h
    obtain ⟨es, l, rfl, rfl⟩ := hP
    cases hv with
    | cons h1 h2 =>
      cases h2
      exact eb_ret (ev_lenT (ev_fldW W.cl_Lots W.na_Lots_words (ev_var rfl h1)))

theorem ok_Lots___str__ (W : Wr P w K mg base)  : Mt P w K mg base CX0 1 (He.ga K "Lots") "__str__" ["self"] (spD K (PStr (He.ga K "Lots"))) := by
  refine mt_mk W.d_Lots___str__ W.m_Lots___str__ sc_Lots___str__ (fun vs H Q E h => ?_) (fun _ _ _ _ _ _ us hl => match us, hl with | [_], _ => rfl) (fun cdv A outer s H vs Q E hr h => ?_)
  · exact len1 (fun ds r ⟨z, l, e, _⟩ => by rw [e]; rfl) h
  · refine ⟨_, PSs.nox (pss_one (ps_ret (joinU (K := K) pe_str (fldU (K := K) (pv 0))))), ?_⟩
    refine spD_body (fun vs H ds r hv hP => ?_) vs H Q E h
    obtain ⟨ws, l, rfl, g, rfl⟩ := hP
    have := g.le
    have := g.tot
    cases hv with
    | cons h1 h2 =>
      cases h2
      exact eb_ret (ev_joinT (by rw [sum_lens, show (" " : Str).length = 1 from rfl]; omega) ev_str (ev_fldW W.cl_Lots W.na_Lots_words (ev_var rfl h1)))

theorem ok_check_lots (W : Wr P w K mg base)  : Fn P w K mg base CX0 1 "check_lots" ["value"] (spD K (PCkLots (He.ga K "Lots"))) := by
  refine fn_mk W.d_check_lots W.g_check_lots sc_check_lots (fun vs H Q E h => ?_) (fun _ _ _ _ _ _ us hl => match us, hl with | [_], _ => rfl) (fun cdv A outer s H vs Q E hr h => ?_)
  · exact len1 (fun ds r ⟨z, l, e, _⟩ => by rw [e]; rfl) h
  · refine ⟨_, PSs.nox (pss_one (ps_if (pt_not (pt_val (pe_callB (cr_isC (K := K) (insB_ok (W.ex 2) W.cl_Lots)) rfl W.n_isinstance bt_isinstance (pa_cons (pv 0) (pa_cons (pe_glob (v := .ref (He.ga K "Lots")) rfl W.g_Lots rfl) pa_nil))))) (pss_one ps_never) pss_nil)), ?_⟩
    refine spD_bodyN (fun vs H ds r hv hP => ?_) vs H Q E h
    obtain ⟨es, l, rfl, rfl⟩ := hP
    refine ⟨rfl, fun _ _ => True, ?_⟩
    cases hv with
    | cons h1 h2 =>
      cases h2
      exact es_if (b := false) ((et_not (b := true) (et_val (ev_isC (ev_var rfl h1)))).as rfl) (fun z => by cases z) fun _ => es_skip

theorem ok_check_lot (W : Wr P w K mg base) (F_is_lot : Fn P w K mg base CX0 2 "is_lot" ["value"] (spD K PLot)) : Fn P w K mg base CX0 3 "check_lot" ["value"] (spD K PCkLot) := by
  refine fn_mk W.d_check_lot W.g_check_lot sc_check_lot (fun vs H Q E h => ?_) (fun _ _ _ _ _ _ us hl => match us, hl with | [_], _ => rfl) (fun cdv A outer s H vs Q E hr h => ?_)
  · exact len1 (fun ds r ⟨z, e, _⟩ => by rw [e]; rfl) h
  · refine ⟨_, PSs.nox (pss_one (ps_if (pt_not (pt_val (pe_fn F_is_lot (hr.mono (by decide)) rfl pass0 (pa_cons (pv 0) pa_nil)))) (pss_one ps_never) pss_nil)), ?_⟩
    refine spD_bodyN (fun vs H ds r hv hP => ?_) vs H Q E h
    obtain ⟨z, rfl, hz, rfl⟩ := hP
    refine ⟨rfl, fun _ _ => True, ?_⟩
    cases hv with
    | cons h1 h2 =>
      cases h2
      exact es_if (b := false) ((et_not (b := true) (et_val (ev_call (P := PLot) (ea_cons (ev_var rfl h1) ea_nil) ⟨z, rfl, hz, rfl⟩))).as rfl) (fun z => by cases z) fun _ => es_skip

theorem ok_check_many (W : Wr P w K mg base) (F_things_in : Fn P w K mg base CX0 1 "things_in" ["words"] (spD K PThings)) : Fn P w K mg base CX0 2 "check_many" ["words"] (spD K PCkMany) := by
  refine fn_mk W.d_check_many W.g_check_many sc_check_many (fun vs H Q E h => ?_) (fun _ _ _ _ _ _ us hl => match us, hl with | [_], _ => rfl) (fun cdv A outer s H vs Q E hr h => ?_)
  · exact len1 (fun ds r ⟨z, e, _⟩ => by rw [e]; rfl) h
  · refine ⟨_, PSs.nox (pss_one (ps_if (pt_cmpR op_gt (pe_callB (lenU (K := K)) rfl W.n_len bt_len (pa_cons (pe_fn F_things_in (hr.mono (by decide)) rfl pass0 (pa_cons (pv 0) pa_nil)) pa_nil)) (pe_gi rfl W.i_MOST_THINGS) (nomark _)) (pss_one ps_never) pss_nil)), ?_⟩
    refine spD_bodyN (fun vs H ds r hv hP => ?_) vs H Q E h
    obtain ⟨ws, rfl, g, rfl⟩ := hP
    have := g.things
    refine ⟨rfl, fun _ _ => True, ?_⟩
    cases hv with
    | cons h1 h2 =>
      cases h2
      exact es_if (b := false) ((et_test (ev_gtI (ev_lenS (sz (by rw [thg_len]; omega)) (ev_call (P := PThings) (ea_cons (ev_var rfl h1) ea_nil) ⟨_, rfl, g, rfl⟩)) ev_int)).as (decide_eq_false (by rw [thg_len]; omega))) (fun z => by cases z) fun _ => es_skip

theorem ok_check_index (W : Wr P w K mg base) (F_is_within : Fn P w K mg base CX0 2 "is_within" ["value", "least", "most"] (spD K PWithin)) (M_Lots___len__ : Mt P w K mg base CX0 1 (He.ga K "Lots") "__len__" ["self"] (spD K (PLen (He.ga K "Lots")))) : Fn P w K mg base CX0 3 "check_index" ["lots", "index"] (spD K (PCkIndex (He.ga K "Lots"))) := by
  refine fn_mk W.d_check_index W.g_check_index sc_check_index (fun vs H Q E h => ?_) (fun _ _ _ _ _ _ us hl => match us, hl with | [_, _], _ => rfl) (fun cdv A outer s H vs Q E hr h => ?_)
  · exact len1 (fun ds r ⟨z, l, i, e, _⟩ => by rw [e]; rfl) h
  · refine ⟨_, PSs.nox (pss_one (ps_if (pt_not (pt_val (pe_fn F_is_within (hr.mono (by decide)) rfl pass0 (pa_cons (pv 1) (pa_cons pe_int (pa_cons (pe_op op_sub (pe_callB (cr_lenO M_Lots___len__ (hr.mono (by decide)) pass0) rfl W.n_len bt_len (pa_cons (pv 0) pa_nil)) pe_int) pa_nil)))))) (pss_one ps_never) pss_nil)), ?_⟩
    refine spD_bodyN (fun vs H ds r hv hP => ?_) vs H Q E h
    obtain ⟨es, l, i, rfl, hz, h0, hi, rfl⟩ := hP
    refine ⟨rfl, fun _ _ => True, ?_⟩
    cases hv with
    | cons h1 h2 =>
      cases h2 with
      | cons h3 h4 =>
        cases h4
        refine es_if (b := false) ((et_not (b := true) (et_val (ev_call (P := PWithin) (ea_cons (ev_var rfl h3) (ea_cons ev_int (ea_cons (ev_subI (ev_lenO (by omega) (ev_var rfl h1) ⟨es, l, rfl, rfl⟩) ev_int) ea_nil))) ⟨.int i, 0, _, rfl, rfl, ?_⟩))).as rfl) (fun z => by cases z) fun _ => es_skip
        show PyData.bool true = .bool (decide ((0 : Int) ≤ i) && decide (i ≤ es.length - 1))
        rw [decide_eq_true h0, decide_eq_true (by omega)]
        rfl

theorem ok_check_indexes (W : Wr P w K mg base) (F_is_within : Fn P w K mg base CX0 2 "is_within" ["value", "least", "most"] (spD K PWithin)) (M_Lots___len__ : Mt P w K mg base CX0 1 (He.ga K "Lots") "__len__" ["self"] (spD K (PLen (He.ga K "Lots")))) : Fn P w K mg base CX0 3 "check_indexes" ["lots", "indexes"] (spD K (PCkIndexes (He.ga K "Lots"))) := by
  refine fn_mk W.d_check_indexes W.g_check_indexes sc_check_indexes (fun vs H Q E h => ?_) (fun _ _ _ _ _ _ us hl => match us, hl with | [_, _], _ => rfl) (fun cdv A outer s H vs Q E hr h => ?_)
  · exact len1 (fun ds r ⟨z, l, i, e, _⟩ => by rw [e]; rfl) h
  · refine ⟨_, PSs.nox (pss_cons (ps_if (pt_not (pt_val (pe_callB (isiU (K := K)) rfl W.n_isinstance bt_isinstance (pa_cons (pv 1) (pa_cons (pe_bltn (v := .ty "tuple") rfl W.n_tuple bt_tuple rfl) pa_nil))))) (pss_one ps_never) pss_nil)
  (pss_one (ps_for PassesOwn.never rfl (pi_range1 rfl W.n_range (pa_cons (pe_callB (lenU (K := K)) rfl W.n_len bt_len (pa_cons (pv 1) pa_nil)) pa_nil)) (nameU (i := 2) sc_check_indexes.nd) (pss_one (ps_if (PW.pt (pw_or (pt_not (pt_val (pe_fn F_is_within (hr.mono (by decide)) rfl pass0 (pa_cons (pe_ix (ixU (K := K)) (pv 1) (pv 2) (fun _ _ => rfl)) (pa_cons pe_int (pa_cons (pe_op op_sub (pe_callB (cr_lenO M_Lots___len__ (hr.mono (by decide)) pass0) rfl W.n_len bt_len (pa_cons (pv 0) pa_nil)) pe_int) pa_nil)))))) (pw_or1 (PW.pt (pw_and (pt_cmpR op_gt (pv 2) pe_int (nomark _)) (pw_and1 (pt_cmpR op_le (pe_ix (ixU (K := K)) (pv 1) (pv 2) (fun _ _ => rfl)) (pe_ix (ixU (K := K)) (pv 1) (pe_op op_sub (pv 2) pe_int) (fun _ _ => rfl)) (nomark _)))))))) (pss_one ps_never) pss_nil))))), ?_⟩
    refine spD_bodyN (fun vs H ds r hv hP => ?_) vs H Q E h
    obtain ⟨es, l, i, rfl, hz, h0, hi, rfl⟩ := hP
    refine ⟨rfl, fun _ _ => True, ?_⟩
    cases hv with
    | cons h1 h2 =>
      cases h2 with
      | cons h3 h4 =>
        cases h4
        refine es_seq (P := fun σ' _ => σ' = start N_check_indexes [_, _]) (es_if (b := false) ((et_not (b := true) (et_val (ev_isi rfl (kit_ty (by decide +kernel)) (ev_var rfl h3)))).as rfl) (fun z => by cases z) fun _ => es_next) fun σ' H' e' z => ?_
        subst z
        refine es_imp (es_look (ei_range1 (i := 1) (by decide) (by decide) (ev_lenT (ev_var rfl (h3.mono e')))) (fun k d v σ' H2 hd e2 hσ hk hv => ?_) (Nat.lt_of_sub_pos (by exact Nat.one_pos))) fun _ _ _ => trivial
        obtain ⟨k', hk', rfl⟩ := mem_upto (List.mem_of_getElem? hd)
        obtain rfl : k' = 0 := by
          have : k' < 1 := hk'
          omega
        cases hv
        have hL : EvD K (tVar 0) (σ'.set 2 (some (.int (0 + (0 : Nat))))) H2 (LD (He.ga K "Lots") es l) := ev_var (by rw [List.getElem?_set_ne (by decide), hσ 0 (by decide)]; rfl) ((h1.mono e').mono e2)
        have hX : EvD K (tVar 1) (σ'.set 2 (some (.int (0 + (0 : Nat))))) H2 (.tuple [.int i]) := ev_var (by rw [List.getElem?_set_ne (by decide), hσ 1 (by decide)]; rfl) ((h3.mono e').mono e2)
        have hk0 : EvD K (tVar 2) (σ'.set 2 (some (.int (0 + (0 : Nat))))) H2 (.int 0) := ev_var (by rw [hk]; rfl) (.int _)
        refine es_if (b := false) ?_ (fun z => by cases z) fun _ => es_next
        refine (et_or (b := false) (c := false) ((et_not (b := true) (et_val (ev_call (P := PWithin) (ea_cons (ev_ixT (d := .int i) rfl hX hk0) (ea_cons ev_int (ea_cons (ev_subI (ev_lenO (by omega) hL ⟨es, l, rfl, rfl⟩) ev_int) ea_nil))) ⟨.int i, 0, _, rfl, rfl, ?_⟩))).as rfl) fun _ => ?_).as rfl
        · show PyData.bool true = .bool (decide ((0 : Int) ≤ i) && decide (i ≤ es.length - 1))
          rw [decide_eq_true h0, decide_eq_true (by omega)]
          rfl
        · exact (et_and (b := false) (c := false) ((et_test (ev_gtI hk0 ev_int)).as rfl) fun z => by cases z).as rfl

theorem ok_Lots_added (W : Wr P w K mg base) (F_check_lot : Fn P w K mg base CX0 3 "check_lot" ["value"] (spD K PCkLot)) (F_check_many : Fn P w K mg base CX0 2 "check_many" ["words"] (spD K PCkMany)) (I_Lots : Ini P w K mg base CX0 4 "Lots" (He.ga K "Lots") ["self", "lots"] (spInit (He.ga K "Lots") K PInit)) : Mt P w K mg base CX0 6 (He.ga K "Lots") "added" ["self", "lot"] (spD K (PAdded K)) := by
  refine mt_mk W.d_Lots_added W.m_Lots_added sc_Lots_added (fun vs H Q E h => ?_) (fun _ _ _ _ _ _ us hl => match us, hl with | [_, _], _ => rfl) (fun cdv A outer s H vs Q E hr h => ?_)
  · exact len1 (fun ds r ⟨z, l, e, _⟩ => by rw [e]; rfl) h
  · refine ⟨_, PSs.nox (pss_cons (ps_expr (pe_fn F_check_lot (hr.mono (by decide)) rfl pass0 (pa_cons (pv 1) pa_nil)))
  (pss_cons (ps_if (pt_cmpR (eqU (K := K) hr.units) (pe_callB (lenU (K := K)) rfl W.n_len bt_len (pa_cons (fldU (K := K) (pv 0)) pa_nil)) (pe_gi rfl W.i_MOST_LOTS) (nomark _)) (pss_one ps_never) pss_nil)
  (pss_cons (ps_expr (pe_fn F_check_many (hr.mono (by decide)) rfl pass0 (pa_cons (pe_tup (starU (K := K) (fldU (K := K) (pv 0)) (pa_cons (pv 1) pa_nil))) pa_nil)))
  (pss_one (ps_ret (pe_ini I_Lots (hr.mono (by decide)) rfl pass0 (pa_cons (pe_tup (starU (K := K) (fldU (K := K) (pv 0)) (pa_cons (pv 1) pa_nil))) pa_nil))))))), ?_⟩
    refine spD_body (fun vs H ds r hv hP => ?_) vs H Q E h
    obtain ⟨ws, z, rfl, g, rfl⟩ := hP
    have hle := g.le
    rw [List.length_append] at hle
    have hle' : ws.length + 1 ≤ 6 := hle
    obtain ⟨v, w2, rfl, h1, h3⟩ := hv.two
    have hsf : ∀ {H' : Hp}, Same H H' → EvD K (tFld K (tVar 0) "words") (start N_Lots_added [v, w2]) H' (tws ws) := fun e => ev_fldW W.cl_Lots W.na_Lots_words (ev_var rfl (h1.mono e))
    have htup : ∀ {H' : Hp}, Same H H' → EvD K (tTup (StX.tStar K (tFld K (tVar 0) "words") (tCons (tVar 1) tNil))) (start N_Lots_added [v, w2]) H' (tws (ws ++ [z])) := fun e => (ev_tup (sz (by rw [List.length_append, List.length_map]; show ws.length + 1 ≤ _; omega)) (ea_starT (hsf e) (ea_cons (ev_var rfl (h3.mono e)) ea_nil))).as (by rw [tws, List.map_append]; rfl)
    refine eb_seq (es_drop (ev_call (P := PCkLot) (ea_cons (ev_var rfl h3) ea_nil) ⟨z, rfl, g.lot z (by simp), rfl⟩)) fun σ' H1 e1 hs => ?_
    subst hs
    refine eb_ifS (b := false) ((et_test (ev_eqI ((ev_lenT (hsf e1)).as (by rw [tws_len])) ev_int)).as (decide_eq_false (by omega))) (fun z => by cases z) fun _ => eb_next ?_
    refine eb_seq (es_drop (ev_call (P := PCkMany) (ea_cons (htup e1) ea_nil) ⟨_, rfl, g, rfl⟩)) fun σ' H2 e2 hs => ?_
    subst hs
    exact eb_ret (ev_make (P := PInit) (ea_cons (htup (e1.trans e2)) ea_nil) ⟨ws ++ [z], rfl, g, by simp, rfl⟩)

end
end K7

set_option Elab.async false
set_option linter.all false
set_option maxRecDepth 100000
set_option maxHeartbeats 4000000
namespace K7
open PySem PySem.Spec PyProof.Rows L2
section
variable {P : Program} {w : World} {K : PySem.W.Frag} {mg : Str → Option Value} {base : Heap}
def bitS (z : Str) (c : Nat) : Int := (1 : Int) * 2 ^ ((sidx z c : Nat) : Int).toNat
def mask (z w : Str) : Int := ((cods w).map (bitS z)).sum
def bitsW (ws : List Str) : List Int := ws.map (mask (thg ws))
def PBits (K : PySem.W.Frag) : List PyData → PyData → Prop := fun ds r => ∃ ws, ds = [LDw K ws] ∧ Gw ws ∧ r = .tuple ((bitsW ws).map .int)
theorem mem_thg {ws : List Str} (g : Gw ws) {w : Str} (hw : w ∈ ws) {c : Nat} (hc : c ∈ cods w) : c ∈ cods (thg ws) := by
  rw [cods_thg]
  exact mem_lets.mpr ⟨(g.lot w hw).az c hc, List.mem_flatMap.mpr ⟨w, hw, hc⟩⟩
theorem set_off {σ : L2.St} {k j : Nat} {v : Option V} (h : j ≠ k) : (σ.set k v)[j]? = σ[j]? := List.getElem?_set_ne (Ne.symm h)

theorem ok_bits_of (W : Wr P w K mg base) (G_Lots_lots : Gt P w K mg base CX0 1 (He.ga K "Lots") "lots" (spD K (PWords (He.ga K "Lots")))) (G_Lots_things : Gt P w K mg base CX0 1 (He.ga K "Lots") "things" (spD K (PLetters (He.ga K "Lots")))) : Fn P w K mg base CX0 3 "bits_of" ["lots"] (spD K (PBits K)) := by
  refine fn_mk W.d_bits_of W.g_bits_of sc_bits_of (fun vs H Q E h => ?_) (fun _ _ _ _ _ _ us hl => match us, hl with | [_], _ => rfl) (fun cdv A outer s H vs Q E hr h => ?_)
  · exact len1 (fun ds r ⟨z, e, _⟩ => by rw [e]; rfl) h
  · refine ⟨_, PSs.nox (pss_cons (setU (i := 1) sc_bits_of.nd (pe_lst pa_nil))
  (pss_cons (ps_for PassesOwn.never rfl (tplU (K := K) (pe_gt G_Lots_lots W.cl_Lots (hr.mono (by decide)) pass0 (pv 0))) (nameU (i := 2) sc_bits_of.nd) (pss_one (appU (K := K) (pv 1) (pe_callB (sumU (K := K) rfl) rfl W.n_sum bt_sum (pa_cons (pe_lc (own := [("letter", 3)]) rfl sc_bits_of.nd (pi_str (pv 2)) (blkOk_by (own := [("letter", 3)]) (N := N_bits_of) (sc := (defScope s_bits_of)) (by decide +kernel)) (fun _ _ _ _ _ => (nameU (i := 3) sc_bits_of.nd)) (fun _ _ _ _ _ => pts_nil) (fun _ _ _ _ _ => (pe_op op_shl pe_int (sixU (pe_gt G_Lots_things W.cl_Lots (hr.mono (by decide)) pass0 (pv 0)) (pv 3))))) pa_nil)))))
  (pss_one (ps_ret (pe_callTy (tupU (K := K)) rfl W.n_tuple bt_tuple (pa_cons (pv 1) pa_nil)))))), ?_⟩
    obtain ⟨ds, r, hv, ⟨ws, rfl, g, rfl⟩, q⟩ := h
    obtain ⟨v, rfl, h1⟩ := hv.one
    have hle := g.le
    refine tr_run (R := fun v' H' => Same H H' ∧ Rp K H' v' (.tuple ((bitsW ws).map .int))) (tr_seq tr_new fun σ1 H1 p1 => ?_) fun v' H' p => q v' H' p.1 p.2
    obtain ⟨l, hl, rfl, rfl⟩ := p1
    have s1 : Same H (upd H l (.lst [])) := same_new hl
    have hL : ∀ {σ' : L2.St}, σ'[0]? = some (some v) → EvD K (tVar 0) σ' H (LDw K ws) := fun e => ev_var e h1
    let I : Nat → L2.St → Hp → Prop := fun i σ' H' => σ'.length = 4 ∧ σ'[0]? = some (some v) ∧ σ'[1]? = some (some (.ref l)) ∧ Same H H' ∧ ∃ xs, H' l = some (.lst xs) ∧ RpAll K H' xs (((bitsW ws).take i).map .int)
    refine tr_seq (tr_for (I := I) s1 (ei_tupT (ds := ws.map .str) (fun d hd => ?_) (ev_prop (P := PWords (He.ga K "Lots")) (hL rfl) ⟨_, _, rfl, rfl⟩)) ?_ ?_) ?_
    · obtain ⟨w, _, rfl⟩ := List.mem_map.mp hd
      rfl
    · exact fun H' e => ⟨rfl, rfl, rfl, s1.trans e, [], e _ _ upd_same, .nil⟩
    · intro i d u σ' H' hd ⟨hl4, h0, hf, e, xs, hx, hr⟩ hu
      rw [List.getElem?_map] at hd
      obtain ⟨z, hz, rfl⟩ : ∃ z, ws[i]? = some z ∧ d = .str z := by
        cases q : ws[i]? with
        | none => rw [q] at hd; cases hd
        | some z => rw [q] at hd; exact ⟨z, rfl, (Option.some.inj hd).symm⟩
      have hzm : z ∈ ws := List.mem_of_getElem? hz
      have hlt : i < ws.length := (List.getElem?_eq_some_iff.mp hz).1
      have hu' : (σ'.set 2 (some u))[2]? = some (some u) := by rw [List.getElem?_set_self (by omega)]
      have hlen : xs.length < 100000 := by
        have := hr.length
        rw [List.length_map, List.length_take] at this
        omega
      refine tr_imp (tr_app (d := .int (mask (thg ws) z)) e (p := 1) (l := l) (by rw [set_off (by decide)]; exact hf) hx hlen ?_) (fun σ2 H2 ⟨e2, y, H3, s3, hy, e3⟩ => ?_) fun _ _ z => z
      · have hl := (g.lot z hzm).le
        refine (ev_sum (ns := (cods z).map (bitS (thg ws))) ((ev_lc (f := fun d => match d with | .str x => .int (bitS (thg ws) ((cods x).headD 0)) | _ => .none) (ei_str (z := z) (ev_var hu' (hu H))) (by rw [signs_len, len_cods]; omega) (fun d hd => ?_) fun d v' H2 hd e2 hv' => ?_).as ?_)).as rfl
        · obtain ⟨c, hc, rfl⟩ := mem_signs hd
          rfl
        · obtain ⟨c, hc, rfl⟩ := mem_signs hd
          have hc' := mem_thg g hzm hc
          have hs := sidx_lt hc'
          rw [cods_thg] at hs
          have ht := g.things
          have hv0 : ∀ {a b : Option V}, (((wipe (σ'.set 2 (some u)) [3]).set 3 a)[0]?) = some (some v) := by
            intro a b
            rw [set_off (by decide)]
            show ((σ'.set 2 (some u)).set 3 none)[0]? = _
            rw [set_off (by decide), set_off (by decide)]
            exact h0
          refine (ev_shlI (i := 1) ⟨by omega, by omega, by decide⟩ ev_int (ev_six (z := thg ws) hc' (ev_prop (P := PLetters (He.ga K "Lots")) (ev_var (hv0 (b := none)) (h1.mono e2)) ⟨_, _, rfl, rfl⟩) (ev_var ?_ hv'))).as rfl
          rw [List.getElem?_set_self]
          show 3 < ((σ'.set 2 (some u)).set 3 none).length
          rw [List.length_set, List.length_set]
          omega
        · unfold signs
          rw [List.map_map, List.map_map]
          rfl
      · subst e2 e3
        refine ⟨((KeepT.of s3).upd hx rfl), by rw [List.length_set]; exact hl4, by rw [set_off (by decide)]; exact h0, by rw [set_off (by decide)]; exact hf, ?_, _, upd_same, ?_⟩
        · exact same_mut (e.trans s3) hl
        · have et : (bitsW ws).take (i + 1) = (bitsW ws).take i ++ [mask (thg ws) z] := by
            unfold bitsW
            rw [List.take_add_one, List.getElem?_map, hz]
            rfl
          rw [et, List.map_append]
          refine RpAll.append (hr.sc (fun d hd => ?_) _) ?_
          · obtain ⟨n, _, rfl⟩ := List.mem_map.mp hd
            rfl
          · cases hy
            exact .cons (.int _) .nil
    · rintro σ' H' ⟨hl4, h0, hf, e, xs, hx, hr⟩
      have et : (bitsW ws).take (ws.map PyData.str).length = bitsW ws := by
        rw [List.length_map]
        unfold bitsW
        rw [List.take_of_length_le (by rw [List.length_map]; exact Nat.le_refl _)]
      rw [et] at hr
      exact tr_ret (Same.refl _) (ev_tupleL (ev_var hf (.lst hx hr))) fun v' H2 e2 hv => ⟨e.trans e2, hv⟩


/-! ### unions, choices by unions -/
def unis (ns : List Int) : List Int := ns.foldl (fun f l => f ++ f.map fun u => Builtin.bitOr u l) [0]
theorem unis_snoc (ns : List Int) (l : Int) : unis (ns ++ [l]) = unis ns ++ (unis ns).map fun u => Builtin.bitOr u l := by
  unfold unis
  rw [List.foldl_append]
  rfl
theorem len_foldU (ns : List Int) : ∀ f : List Int, (ns.foldl (fun f l => f ++ f.map fun u => Builtin.bitOr u l) f).length = f.length * 2 ^ ns.length := by
  induction ns with
  | nil => intro f; simp
  | cons l ns ih =>
    intro f
    rw [List.foldl_cons, ih, List.length_append, List.length_map, List.length_cons, Nat.pow_succ, ← Nat.two_mul, Nat.mul_comm 2, Nat.mul_assoc, Nat.mul_comm 2]
theorem unis_len (ns : List Int) : (unis ns).length = 2 ^ ns.length := by
  unfold unis
  rw [len_foldU]
  simp
theorem pow6 {n : Nat} (h : n ≤ 6) : 2 ^ n ≤ 64 := Nat.pow_le_pow_right (by decide) h
def PUnis : List PyData → PyData → Prop := fun ds r => ∃ ns : List Int, ds = [.tuple (ns.map .int)] ∧ ns.length ≤ 6 ∧ r = .list ((unis ns).map .int)

theorem ok_unions_by_choice (W : Wr P w K mg base)  : Fn P w K mg base CX0 1 "unions_by_choice" ["bits"] (spD K PUnis) := by
  refine fn_mk W.d_unions_by_choice W.g_unions_by_choice sc_unions_by_choice (fun vs H Q E h => ?_) (fun _ _ _ _ _ _ us hl => match us, hl with | [_], _ => rfl) (fun cdv A outer s H vs Q E hr h => ?_)
  · exact len1 (fun ds r ⟨z, e, _⟩ => by rw [e]; rfl) h
  · refine ⟨_, PSs.nox (pss_cons (setU (i := 1) sc_unions_by_choice.nd (pe_lst (pa_cons pe_int pa_nil)))
  (pss_cons (ps_for PassesOwn.never rfl (tplU (K := K) (pv 0)) (nameU (i := 2) sc_unions_by_choice.nd) (pss_one (setU (i := 1) sc_unions_by_choice.nd (pe_op (addU (K := K)) (pv 1) (pe_lc (own := [("union", 3)]) rfl sc_unions_by_choice.nd (lstU (K := K) (pv 1)) (blkOk_by (own := [("union", 3)]) (N := N_unions_by_choice) (sc := (defScope s_unions_by_choice)) (by decide +kernel)) (fun _ _ _ _ _ => (nameU (i := 3) sc_unions_by_choice.nd)) (fun _ _ _ _ _ => pts_nil) (fun _ _ _ _ _ => (pe_op op_or (pv 3) (pv 2))))))))
  (pss_one (ps_ret (pv 1))))), ?_⟩
    refine spD_body (fun vs H ds r hv hP => ?_) vs H Q E h
    obtain ⟨ns, rfl, h6, rfl⟩ := hP
    obtain ⟨v, rfl, h1⟩ := hv.one
    refine eb_set (d := .list (([0] : List Int).map .int)) (ev_lst (by decide +kernel) (ea_cons ev_int ea_nil)) fun v1 H1 e1 hv1 => ?_
    refine eb_seq (es_forN (ei_tup (ds := ns.map .int) (ev_var rfl (h1.mono e1))) (fun i σ' H' => σ'.length = 4 ∧ ∃ u, σ'[1]? = some (some u) ∧ Rp K H' u (.list ((unis (ns.take i)).map .int))) (fun H' e => ⟨rfl, v1, rfl, hv1.mono e⟩) ?_ fun i σ' H1 H2 e ⟨a, u, b, c⟩ => ⟨a, u, b, c.mono e⟩) fun σ' H' e ⟨hl, u, hu, hr⟩ => ?_
    · intro i d u σ' H' hd e ⟨hl, u1, hu1, hr⟩ hu
      rw [List.getElem?_map] at hd
      obtain ⟨n, hn, rfl⟩ : ∃ n, ns[i]? = some n ∧ d = .int n := by
        cases q : ns[i]? with
        | none => rw [q] at hd; cases hd
        | some z => rw [q] at hd; exact ⟨z, rfl, (Option.some.inj hd).symm⟩
      have et : ns.take (i + 1) = ns.take i ++ [n] := by rw [List.take_add_one, hn]; rfl
      have ln : (unis (ns.take i)).length ≤ 64 := by
        rw [unis_len]
        exact pow6 (by rw [List.length_take]; omega)
      have hF : ∀ {H''}, Same H' H'' → EvD K (tVar 1) (σ'.set 2 (some u)) H'' (.list ((unis (ns.take i)).map .int)) := fun e2 => ev_var (by rw [set_off (by decide)]; exact hu1) (hr.mono e2)
      refine es_imp (es_set (d := .list ((unis (ns.take (i + 1))).map .int)) ((ev_catL (sz (by simp only [List.length_map]; omega)) (hF (Same.refl _)) (ev_lc (f := fun d => match d with | .int x => .int (Builtin.bitOr x n) | _ => .none) (ei_list (hF (Same.refl _))) (by rw [List.length_map]; omega) (fun d hd => ?_) fun d v' H2 hd e2 hv' => ?_)).as ?_)) ?_
      · obtain ⟨x, _, rfl⟩ := List.mem_map.mp hd
        rfl
      · obtain ⟨x, _, rfl⟩ := List.mem_map.mp hd
        refine ev_orI (ev_var ?_ hv') (ev_var ?_ (hu.mono e2))
        · rw [List.getElem?_set_self]
          show 3 < ((σ'.set 2 (some u)).set 3 none).length
          rw [List.length_set, List.length_set]
          omega
        · rw [set_off (by decide)]
          show ((σ'.set 2 (some u)).set 3 none)[2]? = _
          rw [set_off (by decide), List.getElem?_set_self (by omega)]
      · rw [et, unis_snoc, List.map_append, List.map_map, List.map_map]
        rfl
      · rintro σ2 H2 ⟨v2, hv2, rfl⟩
        exact ⟨by rw [List.length_set, List.length_set]; exact hl, v2, by rw [List.getElem?_set_self (by rw [List.length_set]; omega)], hv2⟩
    · rw [List.length_map, List.take_of_length_le (Nat.le_refl _)] at hr
      exact eb_ret (ev_var hu hr)


/-- a dict of choices by unions, at d: each below N, the lists new to H0 -/
def DOk (N : Int) (M : Nat) (H0 H : Hp) (d : Addr) (kvs : List (Key × V)) : Prop := H d = some (.dK kvs) ∧ ∀ kv ∈ kvs, ∃ (n : Int) (cs : List Int) (p : Addr), kv.1 = Sum.inl n ∧ kv.2 = .ref p ∧ H0 p = none ∧ H p = some (.lst (cs.map V.int)) ∧ cs.length ≤ M ∧ ∀ c ∈ cs, 1 ≤ c ∧ c < N
theorem val_mem {kvs : List (Key × V)} {k : Key} {v : V} (h : valV kvs k = some v) : ∃ kv ∈ kvs, kv.2 = v := by
  unfold valV at h
  cases q : kvs.find? fun kv => decide (kv.1 = k) with
  | none => rw [q] at h; cases h
  | some kv =>
    rw [q] at h
    exact ⟨kv, List.mem_of_find?_eq_some q, Option.some.inj h⟩
theorem put_mem {kvs : List (Key × V)} {k : Key} {v : V} {kv : Key × V} (h : kv ∈ putK kvs k v) : kv ∈ kvs ∨ kv = (k, v) := by
  unfold putK at h
  split at h
  · obtain ⟨x, hx, e⟩ := List.mem_map.mp h
    split at e
    · rename_i z
      exact .inr (by rw [← e, ← z])
    · exact .inl (e ▸ hx)
  · rcases List.mem_append.mp h with z | z
    · exact .inl z
    · exact .inr (List.mem_singleton.mp z)
section
variable {N : Int} {M : Nat} {H0 H H' : Hp} {d : Addr} {kvs : List (Key × V)}
theorem DOk.get {k : Key} {v : V} (h : DOk N M H0 H d kvs) (e : valV kvs k = some v) : ∃ (cs : List Int) (p : Addr), v = .ref p ∧ H p = some (.lst (cs.map V.int)) ∧ cs.length ≤ M ∧ ∀ c ∈ cs, 1 ≤ c ∧ c < N := by
  obtain ⟨kv, hm, rfl⟩ := val_mem e
  obtain ⟨n, cs, p, _, a, _, r, l, b⟩ := h.2 kv hm
  exact ⟨cs, p, a, r, l, b⟩
theorem DOk.mono (h : DOk N M H0 H d kvs) (e : Same H H') : DOk N M H0 H' d kvs := ⟨e _ _ h.1, fun kv hm => let ⟨n, cs, p, a, z, y, r, l, b⟩ := h.2 kv hm; ⟨n, cs, p, a, z, y, e _ _ r, l, b⟩⟩
theorem DOk.put {n : Int} {p : Addr} {cs : List Int} (h : DOk N M H0 H d kvs) (z : H0 p = none) (r : H p = some (.lst (cs.map V.int))) (l : cs.length ≤ M + 1) (b : ∀ c ∈ cs, 1 ≤ c ∧ c < N) : DOk N (M + 1) H0 (upd H d (.dK (putK kvs (.inl n) (.ref p)))) d (putK kvs (.inl n) (.ref p)) := by
  have hne : ∀ {a : Addr} {xs : List V}, H a = some (.lst xs) → a ≠ d := fun e => ne_of e h.1 (by intro z; cases z)
  refine ⟨upd_same, fun kv hm => ?_⟩
  rcases put_mem hm with z' | rfl
  · obtain ⟨m, cs', p', a, z'', y, r', l', b'⟩ := h.2 kv z'
    exact ⟨m, cs', p', a, z'', y, by rw [upd_ne (hne r')]; exact r', Nat.le_succ_of_le l', b'⟩
  · exact ⟨n, cs, p, rfl, rfl, z, by rw [upd_ne (hne r)]; exact r, l, b⟩
end
def spCbu (K : PySem.W.Frag) : Sp := fun vs H Q _ => ∃ (v : V) (ns : List Int), vs = [v] ∧ Rp K H v (.tuple (ns.map .int)) ∧ ns.length ≤ 6 ∧ ∀ d kvs H', H d = none → Same H H' → DOk (2 ^ ns.length) 64 H H' d kvs → kvs.length ≤ 64 → Q (.ref d) H'

theorem ok_choices_by_union (W : Wr P w K mg base) (F_unions_by_choice : Fn P w K mg base CX0 1 "unions_by_choice" ["bits"] (spD K PUnis)) : Fn P w K mg base CX0 2 "choices_by_union" ["bits"] (spCbu K) := by
  refine fn_mk W.d_choices_by_union W.g_choices_by_union sc_choices_by_union (fun vs H Q E h => ?_) (fun _ _ _ _ _ _ us hl => match us, hl with | [_], _ => rfl) (fun cdv A outer s H vs Q E hr h => ?_)
  · obtain ⟨v, ns, rfl, _⟩ := h
    rfl
  · refine ⟨_, PSs.nox (pss_cons (setU (i := 1) sc_choices_by_union.nd pe_dnewK)
  (pss_cons (setU (i := 2) sc_choices_by_union.nd (pe_fn F_unions_by_choice (hr.mono (by decide)) rfl pass0 (pa_cons (pv 0) pa_nil)))
  (pss_cons (ps_for PassesOwn.never rfl (pi_range2 rfl W.n_range (pa_cons pe_int (pa_cons (pe_callB (lenU (K := K)) rfl W.n_len bt_len (pa_cons (pv 2) pa_nil)) pa_nil))) (nameU (i := 3) sc_choices_by_union.nd) (pss_one (ps_dput (hu_of hr) (pv 1) (pe_ix (ixU (K := K)) (pv 2) (pv 3) (fun _ _ => rfl)) (pe_lst (starU (K := K) (pe_dget2 (hu_of hr) (pv 1) (pe_ix (ixU (K := K)) (pv 2) (pv 3) (fun _ _ => rfl)) (pe_lst pa_nil) ⟨rfl, rfl, rfl, rfl⟩) (pa_cons (pv 3) pa_nil))) rfl)))
  (pss_one (ps_ret (pv 1)))))), ?_⟩
    obtain ⟨v, ns, rfl, h1, h6, q⟩ := h
    have hun := unis_len ns
    have h64 := pow6 h6
    refine tr_run (R := fun v' H' => ∃ d kvs, v' = .ref d ∧ H d = none ∧ Same H H' ∧ DOk (2 ^ ns.length) 64 H H' d kvs ∧ kvs.length ≤ 64) (tr_seq tr_newD fun σ1 H1 p1 => ?_) fun v' H' ⟨d, kvs, e, a, b, c, l⟩ => e ▸ q d kvs H' a b c l
    obtain ⟨d, hd, rfl, rfl⟩ := p1
    have s1 : Same H (upd H d (.dK [])) := same_new hd
    refine tr_seq (tr_set s1 (ev_call (P := PUnis) (ea_cons (ev_var rfl h1) ea_nil) ⟨ns, rfl, h6, rfl⟩)) fun σ2 H2 ⟨e2, u, hu, hs⟩ => ?_
    subst hs
    have hd2 : H2 d = some (.dK []) := e2 _ _ upd_same
    have sb : Same H (cut H2 d) := cut_of (s1.trans e2) hd
    have hub : Rp K (cut H2 d) u (.list ((unis ns).map .int)) := hu.cut fun o e => by rw [hd2] at e; cases e; rfl
    let I : Nat → L2.St → Hp → Prop := fun i σ' H' => σ'.length = 4 ∧ σ'[1]? = some (some (.ref d)) ∧ σ'[2]? = some (some u) ∧ Same (cut H2 d) H' ∧ ∃ kvs, DOk (2 ^ ns.length) i H H' d kvs ∧ kvs.length ≤ i
    refine tr_seq (tr_for (I := I) (cut_same d) (ei_rangeT2 (i := 1) (j := (2 ^ ns.length : Nat)) ⟨by omega, by omega, by omega, by omega⟩ ev_int ((ev_lenL (ev_var rfl hub)).as (by rw [List.length_map, hun]))) ?_ ?_) ?_
    · exact fun H' e => ⟨rfl, rfl, rfl, (cut_same d).trans e, [], ⟨e _ _ hd2, fun kv hm => by cases hm⟩, Nat.le_refl _⟩
    · rintro i dd w σ' H' hi ⟨hl4, hF, hU, e, kvs, hok, hlen⟩ hw
      have hi64 : i < 64 := by
        have := (List.getElem?_eq_some_iff.mp hi).1
        rw [upto_len] at this
        omega
      obtain ⟨k, hk, rfl⟩ := mem_upto (List.mem_of_getElem? hi)
      cases hw H
      have hk' : 1 + k < 2 ^ ns.length := by omega
      have hF' : (σ'.set 3 (some (.int (1 + (k : Nat)))))[1]? = some (some (.ref d)) := by rw [set_off (by decide)]; exact hF
      have hc' : (σ'.set 3 (some (.int (1 + (k : Nat)))))[3]? = some (some (.int (1 + (k : Nat)))) := by rw [List.getElem?_set_self (by omega)]
      have hat : (unis ns)[1 + k]? = some ((unis ns)[1 + k]'(by omega)) := List.getElem?_eq_getElem (by omega)
      have hkey : ∀ {H'' : Hp}, Same (cut H2 d) H'' → EvD K (tOp (rIx K) (tVar 2) (tVar 3)) (σ'.set 3 (some (.int (1 + (k : Nat))))) H'' (.int ((unis ns)[1 + k]'(by omega))) := fun e' =>
        ev_ixL (i := ((1 + k : Nat) : Int)) (atI_nat (by rw [List.getElem?_map, hat]; rfl)) (ev_var (by rw [set_off (by decide)]; exact hU) (hub.mono e')) (ev_var (by rw [hc']; congr 3) (.int _))
      intro D hq hr
      refine ⟨.ref d, hF', d, rfl, .inl ⟨kvs, .inl hok.1⟩, hkey e H' (Same.refl _) _ fun y H3 e3 hy => ?_⟩
      cases hy
      refine ⟨by decide +kernel, fun l hl => ⟨valV kvs (.inl ((unis ns)[1 + k]'(by omega))), DGet.k (k := .inl ((unis ns)[1 + k]'(by omega))) (same_new hl _ _ (e3 _ _ hok.1)), ?_⟩⟩
      have hok3 := hok.mono (e3.trans (same_new (o := .lst []) hl))
      have hstar : ∃ (p : Addr) (cs : List Int), (valV kvs (.inl ((unis ns)[1 + k]'(by omega)))).getD (.ref l) = V.ref p ∧ SqL K (upd H3 l (.lst [])) p (cs.map V.int) ∧ cs.length ≤ i ∧ ∀ c ∈ cs, 1 ≤ c ∧ c < (2 : Int) ^ ns.length := by
        cases hv : valV kvs (.inl ((unis ns)[1 + k]'(by omega))) with
        | none => exact ⟨l, [], rfl, SqL.of upd_same, Nat.zero_le _, fun c hc => by cases hc⟩
        | some z =>
          obtain ⟨cs, p, rfl, r, hl', b⟩ := hok3.get hv
          exact ⟨p, cs, rfl, SqL.of r, hl', b⟩
      obtain ⟨p, cs, e1, hsq, hcl, hcb⟩ := hstar
      refine ⟨p, _, e1, .inr hsq, _, hc', ?_⟩
      refine ⟨by rw [List.length_append, List.length_map, sizeLine_eq]; show cs.length + 1 ≤ _; omega, fun l2 hl2 => ⟨_, by exact hF', ?_⟩⟩
      have e4 : Same H' (upd (upd H3 l (.lst [])) l2 (.lst (cs.map V.int ++ [.int (1 + (k : Nat))]))) := (e3.trans (same_new hl)).trans (same_new hl2)
      refine hkey (e.trans e4) _ (Same.refl _) _ fun y H5 e5 hy => ?_
      cases hy
      have e15 : Same H' H5 := e4.trans e5
      refine ⟨d, _, rfl, DPut.k (k := .inl ((unis ns)[1 + k]'(by omega))) (v := .ref l2) (e15 _ _ hok.1) (by rw [sizeLine_eq]; omega), hq _ _ ⟨(KeepT.of e15).upd hok.1 rfl, by rw [List.length_set]; exact hl4, hF', by rw [set_off (by decide)]; exact hU, cut_upd.mpr (e.trans e15), _, (hok.mono e15).put (cs := cs ++ [(1 + (k : Nat) : Int)]) ?_ ?_ ?_ ?_, ?_⟩⟩
      · exact sb.free (e.free ((e3.trans (same_new (o := .lst []) hl)).free hl2))
      · rw [List.map_append]
        exact e5 _ _ upd_same
      · rw [List.length_append]
        show cs.length + 1 ≤ _
        omega
      · intro c hc
        rcases List.mem_append.mp hc with z | z
        · exact hcb c z
        · rw [List.mem_singleton.mp z]
          refine ⟨by omega, ?_⟩
          have : ((1 + k : Nat) : Int) < ((2 ^ ns.length : Nat) : Int) := by exact_mod_cast hk'
          have e : ((2 ^ ns.length : Nat) : Int) = (2 : Int) ^ ns.length := by push_cast; rfl
          rw [e] at this
          exact this
      · have := length_putK kvs (.inl ((unis ns)[1 + k]'(by omega))) (V.ref l2)
        omega
    · rintro σ' H' ⟨hl4, hF, hU, e, kvs, hok, hlen⟩
      intro D _ hr
      rw [upto_len] at hok hlen
      refine ⟨_, hF, hr _ _ ⟨d, kvs, rfl, hd, sb.trans e, ⟨hok.1, fun kv hm => ?_⟩, by omega⟩⟩
      obtain ⟨n, cs, p, a, b, c, e1, e2, e'⟩ := hok.2 kv hm
      exact ⟨n, cs, p, a, b, c, e1, by omega, e'⟩


def hasPart (cs : List Int) (c : Int) : Bool := cs.any fun o => !decide (o = c) && decide (Builtin.bitAnd o c = o)
def PHasPart : List PyData → PyData → Prop := fun ds r => ∃ (cs : List Int) (c : Int), ds = [.list (cs.map .int), .int c] ∧ cs.length ≤ 1000 ∧ r = .bool (hasPart cs c)
theorem mem_ints {ns : List Int} {d : PyData} (h : d ∈ ns.map PyData.int) : ∃ n ∈ ns, d = .int n := by
  obtain ⟨n, hn, e⟩ := List.mem_map.mp h
  exact ⟨n, hn, e.symm⟩

theorem ok_has_part (W : Wr P w K mg base)  : Fn P w K mg base CX0 1 "has_part" ["choices", "choice"] (spD K PHasPart) := by
  refine fn_mk W.d_has_part W.g_has_part sc_has_part (fun vs H Q E h => ?_) (fun _ _ _ _ _ _ us hl => match us, hl with | [_, _], _ => rfl) (fun cdv A outer s H vs Q E hr h => ?_)
  · exact len1 (fun ds r ⟨z, c, e, _⟩ => by rw [e]; rfl) h
  · refine ⟨_, PSs.nox (pss_one (ps_ret (pe_callB (anyU (K := K) rfl) rfl W.n_any bt_any (pa_cons (pe_lc (own := [("other", 2)]) rfl sc_has_part.nd (lstU (K := K) (pv 0)) (blkOk_by (own := [("other", 2)]) (N := N_has_part) (sc := (defScope s_has_part)) (by decide +kernel)) (fun _ _ _ _ _ => (nameU (i := 2) sc_has_part.nd)) (fun _ _ _ _ _ => pts_nil) (fun _ _ _ _ _ => (pe_and (pe_cmpR (neU (K := K) hr.units) (pv 2) (pv 1) (nomark _)) (pe_one (pe_cmpR (eqU (K := K) hr.units) (pe_op op_and (pv 2) (pv 1)) (pv 2) (nomark _)))))) pa_nil)))), ?_⟩
    refine spD_body (fun vs H ds r hv hP => ?_) vs H Q E h
    obtain ⟨cs, c, rfl, hl, rfl⟩ := hP
    obtain ⟨v, u, rfl, h1, h2⟩ := hv.two
    refine eb_ret ((ev_any (bs := cs.map fun o => !decide (o = c) && decide (Builtin.bitAnd o c = o)) ((ev_lc (f := fun d => match d with | .int o => .bool (!decide (o = c) && decide (Builtin.bitAnd o c = o)) | _ => .none) (ei_list (ev_var rfl h1)) (by rw [List.length_map]; omega) (fun d hd => ?_) fun d v' H2 hd e2 hv' => ?_).as ?_)).as ?_)
    · obtain ⟨n, _, rfl⟩ := mem_ints hd
      rfl
    · obtain ⟨n, _, rfl⟩ := mem_ints hd
      exact ev_and (ev_neI (ev_var rfl hv') (ev_var rfl (h2.mono e2))) fun _ => ev_eqI (ev_andI (ev_var rfl hv') (ev_var rfl (h2.mono e2))) (ev_var rfl hv')
    · rw [List.map_map, List.map_map]
      rfl
    · unfold hasPart
      rw [List.any_map]
      rfl


/-- a union and its choices -/
def grp (g : Int × List Int) : PyData := .tuple [.int g.1, .list (g.2.map .int)]
def GrpOk (N : Int) (g : Int × List Int) : Prop := g.2.length ≤ 64 ∧ ∀ c ∈ g.2, 1 ≤ c ∧ c < N
def spLeast (K : PySem.W.Frag) : Sp := fun vs H Q _ => ∃ (v : V) (ws : List Str), vs = [v] ∧ Rp K H v (LDw K ws) ∧ Gw ws ∧ ∀ (u : V) (gs : List (Int × List Int)) (H' : Hp), Same H H' → Rp K H' u (.list (gs.map grp)) → gs.length ≤ 64 → (∀ g ∈ gs, GrpOk (2 ^ ws.length) g) → Q u H'
theorem bitsW_len (ws : List Str) : (bitsW ws).length = ws.length := by unfold bitsW; rw [List.length_map]

theorem ok_least_by_union (W : Wr P w K mg base) (F_bits_of : Fn P w K mg base CX0 3 "bits_of" ["lots"] (spD K (PBits K))) (F_has_part : Fn P w K mg base CX0 1 "has_part" ["choices", "choice"] (spD K PHasPart)) (F_choices_by_union : Fn P w K mg base CX0 2 "choices_by_union" ["bits"] (spCbu K)) : Fn P w K mg base CX0 4 "least_by_union" ["lots"] (spLeast K) := by
  refine fn_mk W.d_least_by_union W.g_least_by_union sc_least_by_union (fun vs H Q E h => ?_) (fun _ _ _ _ _ _ us hl => match us, hl with | [_], _ => rfl) (fun cdv A outer s H vs Q E hr h => ?_)
  · obtain ⟨v, ws, rfl, _⟩ := h
    rfl
  · refine ⟨_, PSs.nox (pss_cons (setU (i := 1) sc_least_by_union.nd (pe_lst pa_nil))
  (pss_cons (ps_for PassesOwn.never rfl (pi_items (pe_frz (pe_fn F_choices_by_union (hr.mono (by decide)) rfl pass0 (pa_cons (pe_fn F_bits_of (hr.mono (by decide)) rfl pass0 (pa_cons (pv 0) pa_nil)) pa_nil)))) (gtupU (K := K) (n := 2) rfl (pgs_cons (nameU (i := 2) sc_least_by_union.nd) (pgs_cons (nameU (i := 3) sc_least_by_union.nd) pgs_nil))) (pss_one (appU (K := K) (pv 1) (pe_tup (pa_cons (pv 2) (pa_cons (pe_lc (own := [("choice", 4)]) rfl sc_least_by_union.nd (lstU (K := K) (pv 3)) (blkOk_by (own := [("choice", 4)]) (N := N_least_by_union) (sc := (defScope s_least_by_union)) (by decide +kernel)) (fun _ _ _ _ _ => (nameU (i := 4) sc_least_by_union.nd)) (fun _ _ _ _ _ => (pts_one (pt_not (pt_val (pe_fn F_has_part (hr.mono (by decide)) rfl pass0 (pa_cons (pv 3) (pa_cons (pv 4) pa_nil))))))) (fun _ _ _ _ _ => (pv 4))) pa_nil))))))
  (pss_one (ps_ret (pv 1))))), ?_⟩
    obtain ⟨v, ws, rfl, h1, g, q⟩ := h
    have hle := g.le
    refine tr_run (R := fun u H' => ∃ gs : List (Int × List Int), Same H H' ∧ Rp K H' u (.list (gs.map grp)) ∧ gs.length ≤ 64 ∧ ∀ g ∈ gs, GrpOk (2 ^ ws.length) g) (tr_seq tr_new fun σ1 H1 p1 => ?_) fun u H' ⟨gs, a, b, c, d⟩ => q u gs H' a b c d
    obtain ⟨l, hl, rfl, rfl⟩ := p1
    have s1 : Same H (upd H l (.lst [])) := same_new hl
    have hB : EvD K (tCall (spD K (PBits K)) [] (fun _ _ _ => False) (tCons (tVar 0) tNil)) ((start N_least_by_union [v]).set 1 (some (.ref l))) (upd H l (.lst [])) (.tuple ((bitsW ws).map .int)) := ev_call (ea_cons (ev_var rfl (h1.mono s1)) ea_nil) ⟨ws, rfl, g, rfl⟩
    refine tr_seq (P := fun σ' H' => σ'[1]? = some (some (.ref l)) ∧ Same H H' ∧ ∃ (xs : List V) (gs : List (Int × List Int)), H' l = some (.lst xs) ∧ RpAll K (cut H' l) xs (gs.map grp) ∧ gs.length ≤ 64 ∧ ∀ g ∈ gs, GrpOk (2 ^ ws.length) g) (tr_items (C := fun d kvs H2 => upd H l (.lst []) d = none ∧ DOk (2 ^ ws.length) 64 (upd H l (.lst [])) H2 d kvs ∧ kvs.length ≤ 64) ?_ ?_) ?_
    · intro Q2 q2
      refine hB _ (Same.refl _) _ fun b H2 e2 hb => ⟨b, bitsW ws, rfl, hb, by rw [bitsW_len]; exact hle, fun d kvs H3 hd e3 hok hlen => ?_⟩
      rw [bitsW_len] at hok
      exact q2 d kvs H3 (e2.trans e3) hok.1 ⟨e2.free hd, ⟨hok.1, fun kv hm => let ⟨n, cs, p, a, b', c, r⟩ := hok.2 kv hm; ⟨n, cs, p, a, b', e2.free c, r⟩⟩, hlen⟩
    · intro d kvs H2 e2 hdk ⟨hdn, hok, hlen⟩ od
      have hl2 : H2 l = some (.lst []) := e2 _ _ upd_same
      have hld : l ≠ d := ne_of hl2 hdk (by intro z; cases z)
      refine ⟨fun i σ' H' => σ'.length = 5 ∧ σ'[0]? = some (some v) ∧ σ'[1]? = some (some (.ref l)) ∧ Same H H' ∧ (∀ kv ∈ kvs, ∃ (n : Int) (cs : List Int) (p : Addr), kv.1 = Sum.inl n ∧ kv.2 = .ref p ∧ p ≠ l ∧ H' p = some (.lst (cs.map V.int)) ∧ cs.length ≤ 64 ∧ ∀ c ∈ cs, 1 ≤ c ∧ c < (2 : Int) ^ ws.length) ∧
        ∃ (xs : List V) (gs : List (Int × List Int)), H' l = some (.lst xs) ∧ RpAll K (cut H' l) xs (gs.map grp) ∧ gs.length ≤ i ∧ ∀ g ∈ gs, GrpOk (2 ^ ws.length) g, ⟨rfl, rfl, rfl, ?_, fun kv hm => ?_, [], [], ?_, .nil, Nat.le_refl _, fun g hg => by cases hg⟩, ?_, fun σ' H' ⟨_, _, a, b, _, xs, gs, c, e, f, z⟩ => ⟨a, b, xs, gs, c, e, by omega, z⟩⟩
      · exact same_mut (s1.trans e2) (s1.free hdn)
      · obtain ⟨n, cs, p, a, b, c, r⟩ := hok.2 kv hm
        refine ⟨n, cs, p, a, b, fun z => ?_, ?_, r.2⟩
        · rw [z, upd_same] at c
          cases c
        · rw [upd_ne (ne_of r.1 hdk (by intro z; cases z))]
          exact r.1
      · rw [upd_ne hld]
        exact hl2
      · rintro i kv T σ' H' hi ⟨h5, h0, hf, e, hkv, xs, gs, hx, hr, hgl, hg⟩ hT
        obtain ⟨n, cs, p, e1, e2', hpl, hp, hcl, hcb⟩ := hkv kv (List.mem_of_getElem? hi)
        obtain ⟨kn, kw⟩ := kv
        cases e1
        cases e2'
        have hpT : p ≠ T := ne_of_none hp hT
        have hlT : l ≠ T := ne_of_none hx hT
        have hT2 : Same H' (upd H' T (.tup [.int n, .ref p])) := same_new hT
        have hp2 := hT2 _ _ hp
        have hs0 : ((σ'.set 2 (some (.int n))).set 3 (some (.ref p)))[3]? = some (some (.ref p)) := by
          rw [List.getElem?_set_self (by rw [List.length_set]; omega)]
        have hC : ∀ {H'' : Hp}, Same (upd H' T (.tup [.int n, .ref p])) H'' → Rp K H'' (.ref p) (.list (cs.map .int)) := fun e' => .lst (e' _ _ hp2) (rpAll_ints cs)
        have hs4 : ∀ (a : Option V), ((wipe ((σ'.set 2 (some (.int n))).set 3 (some (.ref p))) [4]).set 4 a)[4]? = some a := fun a => by
          rw [List.getElem?_set_self]
          show 4 < (((σ'.set 2 (some (.int n))).set 3 (some (.ref p))).set 4 none).length
          simp only [List.length_set]
          omega
        have hs3 : ∀ (a : Option V), ((wipe ((σ'.set 2 (some (.int n))).set 3 (some (.ref p))) [4]).set 4 a)[3]? = some (some (.ref p)) := fun a => by
          rw [set_off (by decide)]
          show (((σ'.set 2 (some (.int n))).set 3 (some (.ref p))).set 4 none)[3]? = _
          rw [set_off (by decide)]
          exact hs0
        have hLc : ∀ {tt : TT}, (∀ (c : Int) (v' : V) (H3 : Hp), Same (upd H' T (.tup [.int n, .ref p])) H3 → Rp K H3 v' (.int c) → EvT tt ((wipe ((σ'.set 2 (some (.int n))).set 3 (some (.ref p))) [4]).set 4 (some v')) H3 (!hasPart cs c)) →
            EvNew K (tLc (iList K (tVar 3)) (gName 4) tt (tVar 4) [4]) ((σ'.set 2 (some (.int n))).set 3 (some (.ref p))) (upd H' T (.tup [.int n, .ref p])) (.list ((cs.filter fun c => !hasPart cs c).map .int)) := fun ht => by
          have h := ev_lcFN (k := 4) (σ := (σ'.set 2 (some (.int n))).set 3 (some (.ref p))) (b := fun d => match d with | .int c => !hasPart cs c | _ => false) (f := fun d => d) (te := tVar 4) (ei_list (ev_var hs0 (hC (Same.refl _)))) (by rw [List.length_map]; omega)
            (fun d hd _ => by obtain ⟨c, _, rfl⟩ := mem_ints hd; rfl) (fun d v' H3 hd e3 hv' => by obtain ⟨c, _, rfl⟩ := mem_ints hd; exact ht c v' H3 e3 hv') (fun d v' H3 hd e3 hv' _ => ev_var (hs4 _) hv')
          have hfl : (((cs.map PyData.int).filter fun d => match d with | .int c => !hasPart cs c | _ => false).map fun d => d) = (cs.filter fun c => !hasPart cs c).map .int := by
            rw [List.map_id', List.filter_map]
            rfl
          rw [hfl] at h
          exact h
        intro D qn qr
        refine ⟨.ref l, by rw [set_off (by decide), set_off (by decide)]; exact hf, .inl ⟨rfl, xs, SqL.of (hT2 _ _ hx)⟩, ?_⟩
        refine ⟨.int n, by rw [set_off (by decide), List.getElem?_set_self (by omega)] <;> rfl, hLc (fun c v' H3 e3 hv' => ?_) _ (Same.refl _) _ fun p2 H3 e3 hp2' hr2 => ⟨by show 2 ≤ sizeLine; rw [sizeLine_eq]; omega, fun p3 hp3 => ?_⟩⟩
        · exact (et_not (b := hasPart cs c) (et_val (ev_call (P := PHasPart) (ea_cons (ev_var (hs3 _) (hC e3)) (ea_cons (ev_var (hs4 _) hv') ea_nil)) ⟨cs, c, rfl, by omega, rfl⟩))).as rfl
        · have e13 : Same H' (upd H3 p3 (.tup [.int n, .ref p2])) := (hT2.trans e3).trans (same_new hp3)
          have hx3 := e13 _ _ hx
          have hl2 : p2 ≠ l := fun z => by rw [z, hT2 _ _ hx] at hp2'; cases hp2'
          have hl3 : p3 ≠ l := fun z => by rw [z, (hT2.trans e3) _ _ hx] at hp3; cases hp3
          have h23 : p2 ≠ p3 := fun z => by
            cases hr2 with
            | lst a b => rw [z, hp3] at a; cases a
          cases hr2 with
          | lst ha hb =>
            have := hb.ints
            subst this
            refine ⟨l, xs, .ref p3, rfl, rfl, hx3, by have := hr.length; rw [List.length_map] at this; have := (List.getElem?_eq_some_iff.mp hi).1; rw [sizeLine_eq]; omega, qn _ _ ⟨(KeepT.of ((e3).trans (same_new hp3))).upd (hT2 _ _ hx) rfl, by simp only [List.length_set]; exact h5, by rw [set_off (by decide), set_off (by decide)]; exact h0, by rw [set_off (by decide), set_off (by decide)]; exact hf, same_mut (e.trans e13) hl, fun kv hm => ?_, _, gs ++ [(n, cs.filter fun c => !hasPart cs c)], upd_same, ?_, ?_, fun g hg' => ?_⟩⟩
            · obtain ⟨n', cs', p', a1, a2, a3, a4, a5⟩ := hkv kv hm
              exact ⟨n', cs', p', a1, a2, a3, by rw [upd_ne a3]; exact e13 _ _ a4, a5⟩
            · rw [List.map_append]
              refine RpAll.append (hr.mono (cut_of (cut_upd.mpr ((cut_same l).trans e13)) cut_at)) (.cons (.tup (xs := [.int n, .ref p2]) (.inl (.inl ?_)) (.cons (.int _) (.cons (.lst (a := p2) ?_ (rpAll_ints _)) .nil))) .nil)
              · rw [cut_ne hl3, upd_ne hl3, upd_same]
              · rw [cut_ne hl2, upd_ne hl2, upd_ne h23]
                exact ha
            · rw [List.length_append]
              show gs.length + 1 ≤ _
              omega
            · rcases List.mem_append.mp hg' with z | z
              · exact hg g z
              · rw [List.mem_singleton.mp z]
                exact ⟨Nat.le_trans (List.length_filter_le _ _) hcl, fun c hc => hcb c (List.mem_filter.mp hc).1⟩
    · rintro σ' H' ⟨hf, e, xs, gs, hx, hr, hgl, hg⟩
      exact tr_ret (Same.refl _) (ev_var hf (.lst hx (hr.mono (cut_same l)))) fun u H2 e2 hu => ⟨gs, e.trans e2, hu, hgl, hg⟩


/-! ### choices of few lots, as bits -/
theorem bitAnd_nat (a b : Nat) : Builtin.bitAnd (a : Int) (b : Int) = ((a &&& b : Nat) : Int) := by
  unfold Builtin.bitAnd
  have h1 : decide ((0 : Int) ≤ (a : Int)) = true := decide_eq_true (by omega)
  have h2 : decide ((0 : Int) ≤ (b : Int)) = true := decide_eq_true (by omega)
  rw [h1, h2]
  simp
def pop (U : Nat) : Nat := (List.range 6).countP fun i => U.testBit i
def Ch (U : Nat) (c : Int) : Prop := ∃ a : Nat, c = (a : Int) ∧ a ≠ 0 ∧ a < 64 ∧ a &&& U = a
theorem pop_all : ∀ U < 64, ∀ c < 64, c ≠ 0 → c &&& U = c → pop (U ^^^ c) + 1 ≤ pop U ∧ U ^^^ c < 64 := by decide +kernel
theorem ch_rest {U : Nat} {c o : Int} (hc : Ch U c) (ho : Ch U o) (h : Builtin.bitAnd o c = 0) : Ch (U ^^^ c.toNat) o := by
  obtain ⟨a, rfl, a0, a64, aU⟩ := hc
  obtain ⟨b, rfl, b0, b64, bU⟩ := ho
  rw [bitAnd_nat] at h
  refine ⟨b, rfl, b0, b64, ?_⟩
  have h0 : b &&& a = 0 := by exact_mod_cast h
  rw [Int.toNat_natCast, Nat.and_xor_distrib_left, bU, h0, Nat.xor_zero]
theorem ch_pop {U : Nat} {c : Int} (hU : U < 64) (hc : Ch U c) : pop (U ^^^ c.toNat) + 1 ≤ pop U ∧ U ^^^ c.toNat < 64 := by
  obtain ⟨a, rfl, a0, a64, aU⟩ := hc
  exact pop_all U hU a a64 a0 aU
theorem ch_all : ∀ n ≤ 6, ∀ a < 64, a < 2 ^ n → a &&& (2 ^ n - 1) = a := by decide +kernel
theorem pop_pow : ∀ n ≤ 6, pop (2 ^ n - 1) = n := by decide +kernel
theorem ch_of {n : Nat} (hn : n ≤ 6) {c : Int} (h1 : 1 ≤ c) (h2 : c < (2 : Int) ^ n) : Ch (2 ^ n - 1) c := by
  have e : ((2 ^ n : Nat) : Int) = (2 : Int) ^ n := by push_cast; rfl
  have h64 := pow6 hn
  have hc : ((c.toNat : Nat) : Int) = c := Int.toNat_of_nonneg (by omega)
  have hlt : c.toNat < 2 ^ n := by
    rw [← e] at h2
    omega
  exact ⟨c.toNat, hc.symm, by omega, by omega, ch_all n hn _ (by omega) hlt⟩
/-- what packed hands back -/
def PackRes (m U : Nat) (r : PyData) : Prop := r = .none ∨ ∃ ls : List Int, r = .list (ls.map .int) ∧ ls.length = m ∧ m ≤ pop U
def spPacked (K : PySem.W.Frag) (M : Nat) : Sp := fun vs H Q _ => ∃ (v : V) (cs : List Int) (U m : Nat), vs = [v, .int m] ∧ m ≤ M ∧ Rp K H v (.list (cs.map .int)) ∧ cs.length ≤ 64 ∧ U < 64 ∧ (∀ c ∈ cs, Ch U c) ∧ ∀ u r H', Same H H' → Rp K H' u r → PackRes m U r → Q u H'
theorem cs_at {cs : List Int} {i : Nat} {c : Int} (h : cs[i]? = some c) : L2.atI (cs.map PyData.int) (i : Int) = some (.int c) := atI_nat (by rw [List.getElem?_map, h]; rfl)
theorem pop_le (U : Nat) : pop U ≤ 6 := by
  unfold pop
  exact Nat.le_trans List.countP_le_length (by decide)

theorem ok_packed0 (W : Wr P w K mg base)  : Fn P w K mg base CX0 (0 + 1) "packed" ["choices", "many"] (spPacked K 0) := by
  refine fn_mk W.d_packed W.g_packed sc_packed (fun vs H Q E h => ?_) (fun _ _ _ _ _ _ us hl => match us, hl with | [_, _], _ => rfl) (fun cdv A outer s H vs Q E hr h => ?_)
  · obtain ⟨v, cs, U, m, rfl, _⟩ := h
    rfl
  · refine ⟨_, PSs.nox (pss_cons (ps_if (pt_cmpR (eqU (K := K) hr.units) (pv 1) pe_int (nomark _)) (pss_one (ps_ret (pe_lst pa_nil))) pss_nil)
  (pss_cons (ps_if (pt_cmpR op_ltU (pe_callB (lenU (K := K)) rfl W.n_len bt_len (pa_cons (pv 0) pa_nil)) (pv 1) (nomark _)) (pss_one (ps_ret pe_non)) pss_nil)
  (pss_cons ps_never
  (pss_one (ps_ret pe_non))))), ?_⟩
    obtain ⟨v, cs, U, m, rfl, hm, h1, hl, hU, hcs, q⟩ := h
    obtain rfl : m = 0 := by omega
    exact eb_ifS (b := true) (r := .list []) ((et_test (ev_eqI (ev_var rfl (.int _)) ev_int)).as rfl) (fun _ => eb_retS (ev_lst (by decide +kernel) ea_nil)) (fun z => by cases z) H (Same.refl _) _ fun u H' e hu => q u _ H' e hu (.inr ⟨[], rfl, rfl, Nat.zero_le _⟩)

theorem ok_packedS (W : Wr P w K mg base) {M : Nat} (F_packed : Fn P w K mg base CX0 (M + 1) "packed" ["choices", "many"] (spPacked K M)) : Fn P w K mg base CX0 (M + 1 + 1) "packed" ["choices", "many"] (spPacked K (M + 1)) := by
  refine fn_mk W.d_packed W.g_packed sc_packed (fun vs H Q E h => ?_) (fun _ _ _ _ _ _ us hl => match us, hl with | [_, _], _ => rfl) (fun cdv A outer s H vs Q E hr h => ?_)
  · obtain ⟨v, cs, U, m, rfl, _⟩ := h
    rfl
  · refine ⟨_, PSs.nox (pss_cons (ps_if (pt_cmpR (eqU (K := K) hr.units) (pv 1) pe_int (nomark _)) (pss_one (ps_ret (pe_lst pa_nil))) pss_nil)
  (pss_cons (ps_if (pt_cmpR op_ltU (pe_callB (lenU (K := K)) rfl W.n_len bt_len (pa_cons (pv 0) pa_nil)) (pv 1) (nomark _)) (pss_one (ps_ret pe_non)) pss_nil)
  (pss_cons (ps_for PassesOwn.never rfl (pi_range1 rfl W.n_range (pa_cons (pe_callB (lenU (K := K)) rfl W.n_len bt_len (pa_cons (pv 0) pa_nil)) pa_nil)) (nameU (i := 2) sc_packed.nd) (pss_cons (ps_setLc (i := 3) (own := [("other", 4)]) rfl sc_packed.nd rfl rfl (sw_true rfl rfl rfl (by decide +kernel)) (lstU (K := K) (pe_slice (slU (K := K)) (pv 0) (po_some (pe_op (addU (K := K)) (pv 2) pe_int)) po_none)) (blkOk_by (own := [("other", 4)]) (N := N_packed) (sc := (defScope s_packed)) (by decide +kernel)) (fun _ _ _ _ _ => (nameU (i := 4) sc_packed.nd)) (fun _ _ _ _ _ => (pts_one (pt_cmpR (eqU (K := K) hr.units) (pe_op op_and (pv 4) (pe_ix (ixU (K := K)) (pv 0) (pv 2) (fun _ _ => rfl))) pe_int (nomark _)))) (fun _ _ _ _ _ => (pv 4)))
  (pss_cons (setU (i := 5) sc_packed.nd (pe_fn F_packed (hr.mono (Nat.le_refl _)) rfl pass0 (pa_cons (pv 3) (pa_cons (pe_op op_sub (pv 1) pe_int) pa_nil))))
  (pss_one (ps_if (pt_cmp (pc_notN (pv 5))) (pss_one (ps_ret (pe_lst (pa_cons (pe_ix (ixU (K := K)) (pv 0) (pv 2) (fun _ _ => rfl)) (starU (K := K) (pv 5) pa_nil))))) pss_nil)))))
  (pss_one (ps_ret pe_non))))), ?_⟩
    obtain ⟨v, cs, U, m, rfl, hm, h1, hl, hU, hcs, q⟩ := h
    have hv0 : ∀ {σ : L2.St} {H' : Hp}, σ[0]? = some (some v) → Same H H' → EvD K (tVar 0) σ H' (.list (cs.map .int)) := fun e e2 => ev_var e (h1.mono e2)
    refine tr_run (R := fun u H' => ∃ r, Same H H' ∧ Rp K H' u r ∧ PackRes m U r) (tr_seq (P := fun σ' H' => m ≠ 0 ∧ σ' = start N_packed [v, .int m] ∧ Same H H') (tr_if (b := decide ((m : Int) = 0)) (Same.refl _) (et_test (ev_eqI (ev_var rfl (.int _)) ev_int)) (fun hb H' e => ?_) fun hb H' e => ?_) fun σ1 H1 p1 => ?_) fun u H' ⟨r, a, b, c⟩ => q u r H' a b c
    · have hm0 : m = 0 := by have := of_decide_eq_true hb; omega
      exact tr_ret (Same.refl _) (ev_lst (ds := []) (by decide +kernel) ea_nil) fun u H2 e2 hu => ⟨_, e.trans e2, hu, .inr ⟨[], rfl, by rw [hm0]; rfl, by omega⟩⟩
    · exact tr_imp tr_next (fun σ' H2 ⟨a, b⟩ => by subst a b; exact ⟨fun z => (by rw [z] at hb; cases hb), rfl, e⟩) fun _ _ z => z
    obtain ⟨hm0, rfl, e1⟩ := p1
    refine tr_seq (P := fun σ' H' => σ' = start N_packed [v, .int m] ∧ Same H H') (tr_if (b := decide ((cs.length : Int) < m)) (Same.refl _) (et_test (ev_ltI ((ev_lenL (hv0 rfl e1)).as (by rw [List.length_map])) (ev_var rfl (.int _)))) (fun hb H' e => ?_) fun hb H' e => ?_) fun σ1 H1 p1 => ?_
    · exact tr_ret (Same.refl _) ev_non fun u H2 e2 hu => ⟨_, (e1.trans e).trans e2, hu, .inl rfl⟩
    · exact tr_imp tr_next (fun σ' H2 ⟨a, b⟩ => by subst a b; exact ⟨rfl, e1.trans e⟩) fun _ _ z => z
    obtain ⟨rfl, e1⟩ := p1
    let I : Nat → L2.St → Hp → Prop := fun i σ' H' => σ'.length = 6 ∧ σ'[0]? = some (some v) ∧ σ'[1]? = some (some (.int m)) ∧ Same H H'
    refine tr_seq (tr_for (I := I) (Same.refl _) (ei_rangeT1 (i := cs.length) (by omega) (by omega) ((ev_lenL (hv0 rfl e1)).as (by rw [List.length_map]))) (fun H' e => ⟨rfl, rfl, rfl, e1.trans e⟩) ?_) fun σ' H' ⟨_, _, _, e⟩ => tr_ret (Same.refl _) ev_non fun u H2 e2 hu => ⟨_, e.trans e2, hu, .inl rfl⟩
    rintro i d w σ' H' hi ⟨h6, h0, hmv, e⟩ hw
    obtain ⟨k, hk, rfl⟩ := mem_upto (List.mem_of_getElem? hi)
    cases hw H
    have hkl : k < cs.length := by omega
    obtain ⟨c, hc⟩ : ∃ c, cs[k]? = some c := ⟨cs[k], List.getElem?_eq_getElem hkl⟩
    have hcm : c ∈ cs := List.mem_of_getElem? hc
    have hCh := hcs c hcm
    have h2 : ∀ {σ2 : L2.St} {H2 : Hp}, σ2[2]? = some (some (.int (0 + (k : Nat)))) → EvD K (tVar 2) σ2 H2 (.int (k : Nat)) := fun e => ev_var (by rw [e, Int.zero_add]) (.int _)
    have s2 : (σ'.set 2 (some (.int (0 + (k : Nat)))))[2]? = some (some (.int (0 + (k : Nat)))) := List.getElem?_set_self (by omega)
    have s0 : (σ'.set 2 (some (.int (0 + (k : Nat)))))[0]? = some (some v) := by rw [set_off (by decide)]; exact h0
    have w4 : ∀ (a : Option V), ((wipe (σ'.set 2 (some (.int (0 + (k : Nat))))) [4]).set 4 a)[4]? = some a := fun a => by
      rw [List.getElem?_set_self]
      show 4 < ((σ'.set 2 (some (.int (0 + (k : Nat))))).set 4 none).length
      rw [List.length_set, List.length_set]
      omega
    have wj : ∀ (a : Option V) (j : Nat), j ≠ 4 → ((wipe (σ'.set 2 (some (.int (0 + (k : Nat))))) [4]).set 4 a)[j]? = (σ'.set 2 (some (.int (0 + (k : Nat)))))[j]? := fun a j hj => by
      rw [set_off hj]
      exact set_off hj
    have hsl : EvD K (tSl (rSlU K) (tVar 0) (tPart (tOp (rAddU K) (tVar 2) (tC (.int 1)))) tNoPart) (σ'.set 2 (some (.int (0 + (k : Nat))))) H' (.list ((cs.drop (k + 1)).map .int)) :=
      (ev_slL (hv0 s0 e) (eo_some ((ev_addI (h2 s2) ev_int).as (e := .int ((k + 1 : Nat) : Int)) (by congr 1))) eo_none).as (by rw [cutD_drop _ (by rw [List.length_map]; omega), List.map_drop])
    refine tr_seq (tr_set (d := .list (((cs.drop (k + 1)).filter fun o => decide (Builtin.bitAnd o c = 0)).map .int)) (Same.refl _) ((ev_lcF (b := fun d => match d with | .int o => decide (Builtin.bitAnd o c = 0) | _ => false) (f := fun d => d) (ei_list hsl) (by rw [List.length_map, List.length_drop]; omega) (fun d hd _ => by obtain ⟨n, _, rfl⟩ := mem_ints hd; rfl) (fun d v' H3 hd e3 hv' => ?_) (fun d v' H3 hd e3 hv' _ => ev_var (w4 _) hv')).as (by rw [List.map_id', List.filter_map]; rfl))) ?_
    · obtain ⟨o, _, rfl⟩ := mem_ints hd
      exact (et_test (ev_eqI (ev_andI (ev_var (w4 _) hv') (ev_ixL (cs_at hc) (hv0 (by rw [wj _ 0 (by decide)]; exact s0) (e.trans e3)) (h2 (by rw [wj _ 2 (by decide)]; exact s2)))) ev_int)).as rfl
    rintro σ2 H2 ⟨e2, vr, hvr, rfl⟩
    have hcall := tr_setN (R := fun u H' => ∃ r, Same H H' ∧ Rp K H' u r ∧ PackRes m U r) (σ := (σ'.set 2 (some (.int (0 + (k : Nat))))).set 3 (some vr)) (H := H2) (k := 5) (C := fun u H3 => ∃ r, Rp K H3 u r ∧ PackRes (m - 1) (U ^^^ c.toNat) r)
      (te := tCall (spPacked K M) [] (fun _ _ _ => False) (tCons (tVar 3) (tCons (tOp (rI0 fun i j => .int (i - j)) (tVar 1) (tC (.int 1))) tNil))) (fun Q2 q2 => ?_)
    · refine tr_seq hcall ?_
      rintro σ3 H3 ⟨e3, u, ⟨r, hr, hpr⟩, rfl⟩
      have e03 := (e.trans e2).trans e3
      have hu5 : ((((σ'.set 2 (some (.int (0 + (k : Nat))))).set 3 (some vr)).set 5 (some u)))[5]? = some (some u) := List.getElem?_set_self (by simp only [List.length_set]; omega)
      rcases hpr with rfl | ⟨ls, rfl, hll, hpop⟩
      · refine tr_if (b := false) (Same.refl _) ((et_test (ev_notN (ev_var hu5 hr))).as rfl) (fun z => by cases z) fun _ H4 e4 => tr_imp tr_next (fun σ' H2 ⟨a, b⟩ => ?_) fun _ _ z => z
        subst a b
        refine ⟨KeepT.of ((e2.trans e3).trans e4), by simp only [List.length_set]; exact h6, ?_, ?_, e03.trans e4⟩
        · rw [set_off (by decide), set_off (by decide), set_off (by decide)]; exact h0
        · rw [set_off (by decide), set_off (by decide), set_off (by decide)]; exact hmv
      · refine tr_if (b := true) (Same.refl _) ((et_test (ev_notN (ev_var hu5 hr))).as rfl) (fun _ H4 e4 => ?_) (fun z => by cases z)
        have hp := ch_pop hU hCh
        refine tr_ret (d := .list ((c :: ls).map .int)) (Same.refl _) ((ev_lst (sz (by rw [List.length_cons, List.length_append, List.length_map]; have := pop_le (U ^^^ c.toNat); show ls.length + 0 + 1 ≤ _; omega)) (ea_cons (ev_ixL (cs_at hc) (hv0 ?_ (e03.trans e4)) (h2 ?_)) (ea_starL (ev_var hu5 (hr.mono e4)) ea_nil))).as (by rw [List.append_nil]; rfl)) fun u H5 e5 hu => ⟨_, (e03.trans e4).trans e5, hu, .inr ⟨_, rfl, by rw [List.length_cons, hll]; omega, by omega⟩⟩
        · rw [set_off (by decide), set_off (by decide)]; exact s0
        · rw [set_off (by decide), set_off (by decide)]; exact s2
    · have hp := ch_pop hU hCh
      refine ⟨vr, List.getElem?_set_self (by rw [List.length_set]; omega), .int m, by rw [set_off (by decide), set_off (by decide)]; exact hmv, _, _, rfl, rfl, vr, _, U ^^^ c.toNat, m - 1, ?_, by omega, hvr, ?_, hp.2, fun o ho => ?_, fun u r H3 e3 hr hpr => q2 u H3 e3 ⟨r, hr, hpr⟩⟩
      · have : ((m : Int) - 1) = ((m - 1 : Nat) : Int) := by omega
        show [vr, V.int ((m : Int) - 1)] = [vr, V.int ((m - 1 : Nat) : Int)]
        rw [this]
      · exact Nat.le_trans (List.length_filter_le _ _) (by rw [List.length_drop]; omega)
      · obtain ⟨h1', h2'⟩ := List.mem_filter.mp ho
        exact ch_rest hCh (hcs o (List.mem_of_mem_drop h1')) (of_decide_eq_true h2')

theorem ok_packed (W : Wr P w K mg base) : ∀ M : Nat, Fn P w K mg base CX0 (M + 1) "packed" ["choices", "many"] (spPacked K M)
  | 0 => ok_packed0 W
  | M + 1 => ok_packedS W (ok_packed W M)

end
end K7

set_option Elab.async false
set_option linter.all false
set_option maxRecDepth 100000
set_option maxHeartbeats 4000000
namespace K7
open PySem PySem.Spec PyProof.Rows L2
section
variable {K : PySem.W.Frag} {σ : L2.St} {H : Hp} {te : TE} {wi : TI} {ds : List PyData}
theorem tb_of {Q : Bool → Hp → Prop} (h : te σ H fun x H1 => ∃ c, x = .bl c ∧ Q c H1) : tB te σ H Q := h
theorem tcb1 {rr : List V → Hp → VK → Prop} {ta : TE} {Q : VK} (h : ta σ H fun v H1 => rr [v] H1 Q) : tCB rr (tCons ta tNil) σ H Q := h
/-- a comprehension of flat elements that are known in part -/
theorem lc_rel {g : TG} {vs : List Nat} {C : V → Prop} (hI : EvI K wi σ H ds) (hz : ds.length ≤ 100000)
    (hg : ∀ d v H1, d ∈ ds → Same H H1 → Rp K H1 v d → ∀ Q : L2.St → Hp → Prop, (∀ σ2 H2, Same H1 H2 → wipe σ2 vs = wipe σ vs → (∀ Q2 : VK, (∀ y H4, Same H2 H4 → C y → Q2 y H4) → te σ2 H2 Q2) → Q σ2 H2) → g v (wipe σ vs) H1 Q) :
    ∀ H1, Same H H1 → ∀ Q : VK, (∀ p ys H2, Same H1 H2 → H1 p = none → H2 p = some (.lst ys) → (∀ y ∈ ys, C y) → ys.length = ds.length → Q (.ref p) H2) → tLc wi g tYes te vs σ H1 Q := by
  intro H1 e1 Q q
  refine hI H1 e1 _ fun J H2 e2 W => ?_
  obtain ⟨G, Y, w, g0, gs, gy⟩ := W.ex
  intro D hD
  have e12 := e1.trans e2
  refine lc_it w (Pv := fun k H' => Same H2 H' ∧ ∃ acc, H' D = some (.lst acc) ∧ (∀ y ∈ acc, C y) ∧ acc.length = k ∧ k ≤ ds.length) ⟨same_new hD, [], upd_same, fun y hy => by (cases hy), rfl, Nat.zero_le _⟩ (fun k H' _ p => gs _ _ p.1 g0) (fun k x H3 H4 hk p y => ?_) fun H' p => ?_
  · obtain ⟨e3, acc, hacc, hr, hlen, hle⟩ := p
    obtain ⟨e4, d, hd, hx⟩ := gy k H3 x H4 e3 hk y
    refine hg d x H4 (List.mem_of_getElem? hd) ((e12.trans e3).trans e4) hx _ fun σ2 H5 e5 hw ht => ⟨hw, ?_⟩
    simp only [tYes, if_true]
    refine ht _ fun y H6 e6 hy => ?_
    have eAll : Same H3 H6 := (e4.trans e5).trans e6
    refine ⟨acc, eAll _ _ hacc, by rw [sizeLine_eq]; omega, same_mut (e3.trans eAll) hD, _, upd_same, fun z hz' => ?_, by rw [List.length_append, hlen]; rfl, hk⟩
    rcases List.mem_append.mp hz' with h | h
    · exact hr z h
    · rw [List.mem_singleton.mp h]; exact hy
  · obtain ⟨e3, acc, hacc, hr, hlen, _⟩ := p
    exact q D acc H' (e2.trans e3) (e2.free hD) hacc hr hlen
end
section
variable {P : Program} {w : World} {K : PySem.W.Frag} {mg : Str → Option Value} {base : Heap}
def spMost (K : PySem.W.Frag) : Sp := fun vs H Q _ => ∃ (v : V) (ws : List Str), vs = [v] ∧ Rp K H v (LDw K ws) ∧ Gw ws ∧ ws ≠ [] ∧ ∀ (f : Nat) (H' : Hp), f ≤ 6 → Same H H' → Q (.int f) H'
theorem bools_of : ∀ ys : List V, (∀ y ∈ ys, ∃ b, y = .bl b) → ∃ bs : List Bool, ys = bs.map .bl
  | [], _ => ⟨[], rfl⟩
  | y :: ys, h => by
    obtain ⟨b, rfl⟩ := h y List.mem_cons_self
    obtain ⟨bs, rfl⟩ := bools_of ys fun z hz => h z (List.mem_cons_of_mem _ hz)
    exact ⟨b :: bs, rfl⟩

theorem ok_most_of (W : Wr P w K mg base) (F_least_by_union : Fn P w K mg base CX0 4 "least_by_union" ["lots"] (spLeast K)) (F_packed : Fn P w K mg base CX0 8 "packed" ["choices", "many"] (spPacked K 7)) : Fn P w K mg base CX0 9 "most_of" ["lots"] (spMost K) := by
  refine fn_mk W.d_most_of W.g_most_of sc_most_of (fun vs H Q E h => ?_) (fun _ _ _ _ _ _ us hl => match us, hl with | [_], _ => rfl) (fun cdv A outer s H vs Q E hr h => ?_)
  · obtain ⟨v, ws, rfl, _⟩ := h
    rfl
  · refine ⟨_, PSs.nox (pss_cons (ps_asg (pe_tup (pa_cons pe_int (pa_cons (pe_fn F_least_by_union (hr.mono (by decide)) rfl pass0 (pa_cons (pv 0) pa_nil)) pa_nil))) (gtupU (K := K) (n := 2) rfl (pgs_cons (nameU (i := 1) sc_most_of.nd) (pgs_cons (nameU (i := 2) sc_most_of.nd) pgs_nil))))
  (pss_cons (ps_while PassesOwn.never (pt_val (pe_callB (anyU (K := K) rfl) rfl W.n_any bt_any (pa_cons (pe_lc (own := [("union", 3), ("choices", 4)]) rfl sc_most_of.nd (lstU (K := K) (pv 2)) (blkOk_by (own := [("union", 3), ("choices", 4)]) (N := N_most_of) (sc := (defScope s_most_of)) (by decide +kernel)) (fun _ _ _ _ _ => (gtupU (K := K) (n := 2) rfl (pgs_cons (nameU (i := 3) sc_most_of.nd) (pgs_cons (nameU (i := 4) sc_most_of.nd) pgs_nil)))) (fun _ _ _ _ _ => pts_nil) (fun _ _ _ _ _ => (pe_cmp (pc_notN (pe_fn F_packed (hr.mono (by decide)) rfl pass0 (pa_cons (pv 4) (pa_cons (pe_op (addU (K := K)) (pv 1) pe_int) pa_nil))))))) pa_nil))) (pss_one (setU (i := 1) sc_most_of.nd (pe_op (addU (K := K)) (pv 1) pe_int))))
  (pss_one (ps_ret (pv 1))))), ?_⟩
    obtain ⟨v, ws, rfl, h1, g, hne, q⟩ := h
    have hle := g.le
    have hpos : 1 ≤ ws.length := List.length_pos_iff.mpr hne
    refine tr_run (R := fun u H' => ∃ f : Nat, u = .int f ∧ f ≤ 6 ∧ Same H H') (tr_seq (P := fun σ' H' => Same H H' ∧ ∃ (u : V) (gs : List (Int × List Int)), Rp K H' u (.list (gs.map grp)) ∧ gs.length ≤ 64 ∧ (∀ g ∈ gs, GrpOk (2 ^ ws.length) g) ∧ σ' = ((start N_most_of [v]).set 1 (some (.int 1))).set 2 (some u)) (fun D qn qr => ?_) fun σ1 H1 p1 => ?_) fun u H' ⟨f, a, b, c⟩ => a ▸ q f H' b c
    · refine ⟨v, rfl, v, ws, rfl, h1, g, fun u gs H' e hr hl hok => ⟨by show 2 ≤ sizeLine; rw [sizeLine_eq]; omega, fun t ht => ⟨t, _, rfl, SqT.of upd_same, rfl, _, _, rfl, _, _, rfl, rfl, qn _ _ ⟨e.trans (same_new ht), u, gs, hr.mono (same_new ht), hl, hok, rfl⟩⟩⟩⟩
    obtain ⟨e1, u, gs, hr, hgl, hok, rfl⟩ := p1
    refine tr_seq (P := fun σ' H' => Same H H' ∧ ∃ f : Nat, f ≤ 6 ∧ σ'[1]? = some (some (.int f))) (fun D qn qr => ?_) fun σ2 H2 ⟨e2, f, hf, hs⟩ => tr_ret (K := K) (Same.refl _) (ev_var hs (.int _)) fun u' H3 e3 hu => by
      cases hu
      exact ⟨f, rfl, hf, e2.trans e3⟩
    refine ⟨fun m σ' H' => ∃ f : Nat, m = 6 - f ∧ f ≤ 6 ∧ Same H1 H' ∧ σ'.length = 5 ∧ σ'[1]? = some (some (.int f)) ∧ σ'[2]? = some (some u), ⟨5, 1, rfl, by omega, Same.refl _, rfl, rfl, rfl⟩, ?_⟩
    rintro m σ' H' ⟨f, rfl, hf6, eH, hl5, hf, hu⟩
    have hgr : Rp K H' u (.list (gs.map grp)) := hr.mono eH
    have w1 : ∀ (a b : Option V) (j : Nat), j ≠ 3 → j ≠ 4 → (((wipe σ' [3, 4]).set 3 a).set 4 b)[j]? = σ'[j]? := fun a b j h3 h4 => by
      rw [set_off h4, set_off h3]
      simp [wipe, List.getElem?_set, Ne.symm h3, Ne.symm h4]
    have hlen : (wipe σ' [3, 4]).length = 5 := by
      simp [wipe, hl5]
    refine tb_of (tcb1 ?_)
    refine lc_rel (vs := [3, 4]) (C := fun y => ∃ b, y = .bl b ∧ (b = true → f + 1 ≤ ws.length)) (ei_list (ds := gs.map grp) (ev_var hu hgr)) (by rw [List.length_map]; omega) (fun d v' H3 hd e3 hv' Q2 q2 => ?_) H' (Same.refl _) _ fun p ys H3 e3 hp hys hall hlen' => ?_
    · obtain ⟨gx, hgx, rfl⟩ := List.mem_map.mp hd
      obtain ⟨hg64, hgN⟩ := hok gx hgx
      cases hv' with
      | tup hs hr2 =>
        obtain ⟨x, y, rfl, hx, hy⟩ := hr2.two
        refine ⟨_, _, rfl, hs, rfl, _, _, rfl, _, _, rfl, rfl, q2 _ H3 (Same.refl _) (wipe_set2 σ' 3 4 _ _) fun Q3 q3 => ?_⟩
        have hC : ∀ c ∈ gx.2, Ch (2 ^ ws.length - 1) c := fun c hc => ch_of hle (hgN c hc).1 (hgN c hc).2
        have hU : 2 ^ ws.length - 1 < 64 := by have := pow6 hle; have := Nat.two_pow_pos ws.length; omega
        have hf1 : ((f : Int) + 1) = ((f + 1 : Nat) : Int) := by omega
        refine ⟨y, List.getElem?_set_self (by rw [List.length_set]; exact hlen ▸ (by decide : 4 < 5)), .int f, (w1 _ _ 1 (by decide) (by decide)).trans hf, .inl ⟨_, _, rfl, rfl, y, gx.2, 2 ^ ws.length - 1, f + 1, ?_, by omega, hy, hg64, hU, hC, fun z r H4 e4 hz hpr => ?_⟩⟩
        · show [y, V.int ((f : Int) + 1)] = [y, V.int ((f + 1 : Nat) : Int)]
          rw [hf1]
        · have hpw := pop_pow ws.length hle
          rcases hpr with rfl | ⟨ls, rfl, _, hp⟩
          · cases hz
            exact q3 _ _ e4 ⟨false, rfl, fun z => by cases z⟩
          · cases hz
            exact q3 _ _ e4 ⟨true, rfl, fun _ => by rw [hpw] at hp; exact hp⟩
    · obtain ⟨bs, rfl⟩ := bools_of ys fun y hy => let ⟨b, h, _⟩ := hall y hy; ⟨b, h⟩
      refine ⟨p, bs, rfl, SqL.of hys, ?_⟩
      refine ⟨bs.any id, rfl, ?_⟩
      cases hb : bs.any id with
      | true =>
        obtain ⟨b, hbm, hbt⟩ := List.any_eq_true.mp hb
        obtain ⟨b', e', h'⟩ := hall (.bl b) (List.mem_map_of_mem hbm)
        cases e'
        have hfn := h' hbt
        refine iteT ⟨fun σ2 H4 => Same H1 H4 ∧ σ2 = σ'.set 1 (some (.int ((f + 1 : Nat) : Int))), fun σ2 H4 ⟨a, b⟩ => ?_, .int f, hf, .inl ⟨_, _, rfl, rfl, eH.trans e3, ?_⟩⟩
        · subst b
          exact ⟨6 - (f + 1), by omega, f + 1, rfl, by omega, a, by rw [List.length_set]; exact hl5, List.getElem?_set_self (by omega), by rw [set_off (by decide)]; exact hu⟩
        · show σ'.set 1 (some (V.int ((f : Int) + 1))) = _
          congr 3
      | false => exact iteF (qn _ _ ⟨(e1.trans eH).trans e3, f, hf6, hf⟩)

theorem ok_most_folds (W : Wr P w K mg base) (F_check_lots : Fn P w K mg base CX0 1 "check_lots" ["value"] (spD K (PCkLots (He.ga K "Lots")))) (F_most_of : Fn P w K mg base CX0 9 "most_of" ["lots"] (spMost K)) : Fn P w K mg base CX0 10 "most_folds" ["lots"] (spMost K) := by
  refine fn_mk W.d_most_folds W.g_most_folds sc_most_folds (fun vs H Q E h => ?_) (fun _ _ _ _ _ _ us hl => match us, hl with | [_], _ => rfl) (fun cdv A outer s H vs Q E hr h => ?_)
  · obtain ⟨v, ws, rfl, _⟩ := h
    rfl
  · refine ⟨_, PSs.nox (pss_cons (ps_expr (pe_fn F_check_lots (hr.mono (by decide)) rfl pass0 (pa_cons (pv 0) pa_nil)))
  (pss_one (ps_ret (pe_fn F_most_of (hr.mono (by decide)) rfl pass0 (pa_cons (pv 0) pa_nil))))), ?_⟩
    obtain ⟨v, ws, rfl, h1, g, hne, q⟩ := h
    have hc : EvD K (tCall (spD K (PCkLots (He.ga K "Lots"))) [] (fun _ _ _ => False) (tCons (tVar 0) tNil)) (start N_most_folds [v]) H .none := ev_call (ea_cons (ev_var rfl h1) ea_nil) ⟨_, _, rfl, rfl⟩
    exact hc H (Same.refl _) _ fun _ H1 e1 _ => ⟨v, rfl, v, ws, rfl, h1.mono e1, g, hne, fun f H' hf e => q f H' hf (e1.trans e)⟩


/-! ### the three wishes -/
inductive Wish where
  | few | folds
  | has (w : Str)
def Wish.data : Wish → PyData
  | .few => .tuple [.str "few", .int 5]
  | .folds => .tuple [.str "folds", .int 9]
  | .has w => .tuple [.str "has", .str w]
def Wish.ok : Wish → Prop
  | .has w => Lot w
  | _ => True
def keeps (ws : List Str) : Wish → Bool
  | .few => decide (ws.length ≤ 5)
  | .folds => true
  | .has w => decide (w ∈ ws)
theorem rp_alone (h : He.tupB K "ALONE" [.str "none", .str "twins", .str "free", .str "like"] = true) (H : Hp) : Rp K H (.ref (He.ga K "ALONE")) (.tuple ((["none", "twins", "free", "like"] : List Str).map .str)) :=
  .tup (He.tupB_ok h H) (rpAll_strs ["none", "twins", "free", "like"])
def PWish : List PyData → PyData → Prop := fun ds r => ∃ x : Wish, ds = [x.data] ∧ x.ok ∧ r = .bool true
def PCkWish : List PyData → PyData → Prop := fun ds r => ∃ x : Wish, ds = [x.data] ∧ x.ok ∧ r = .none
theorem Lot.lay {w : Str} (h : Lot w) : Shp 0 (.str w) := shp_str fun c hc => by have := (h.az c hc).2; omega
theorem shp2 {n : Nat} {a b : PyData} (ha : Shp n a) (hb : Shp n b) : Shp (n + 1) (.tuple [a, b]) := shp_tup fun d hd => by
  rcases List.mem_cons.mp hd with rfl | hd
  · exact ha
  · rcases List.mem_cons.mp hd with rfl | hd
    · exact hb
    · cases hd
theorem Wish.shp {x : Wish} (h : x.ok) : Shp 1 x.data := by
  cases x with
  | few => exact shp2 (shp_str (by decide)) (shp_int _)
  | folds => exact shp2 (shp_str (by decide)) (shp_int _)
  | has w => exact shp2 (shp_str (by decide)) (Lot.lay h)
/-- a wish's name, its value -/
def Wish.nm : Wish → Str
  | .few => "few" | .folds => "folds" | .has _ => "has"
def Wish.val : Wish → PyData
  | .few => .int 5 | .folds => .int 9 | .has w => .str w
theorem nm_ni (x : Wish) {l : List Str} (h : ∀ y ∈ (["few", "folds", "has"] : List Str), decide (y ∈ l) = false) : decide (x.nm ∈ l) = false := by
  cases x
  · exact h _ (by decide)
  · exact h _ (by decide)
  · exact h "has" (by decide)
theorem nm_ne (x : Wish) {z : Str} (h : ∀ y ∈ (["few", "folds", "has"] : List Str), decide (y = z) = false) : decide (x.nm = z) = false := by
  cases x
  · exact h _ (by decide)
  · exact h _ (by decide)
  · exact h "has" (by decide)
theorem Wish.data_eq (x : Wish) : x.data = .tuple [.str x.nm, x.val] := by cases x <;> rfl

theorem ok_is_wish (W : Wr P w K mg base) (F_is_lot : Fn P w K mg base CX0 2 "is_lot" ["value"] (spD K PLot)) (F_is_within : Fn P w K mg base CX0 2 "is_within" ["value", "least", "most"] (spD K PWithin)) : Fn P w K mg base CX0 3 "is_wish" ["value"] (spD K PWish) := by
  refine fn_mk W.d_is_wish W.g_is_wish sc_is_wish (fun vs H Q E h => ?_) (fun _ _ _ _ _ _ us hl => match us, hl with | [_], _ => rfl) (fun cdv A outer s H vs Q E hr h => ?_)
  · exact len1 (fun ds r ⟨z, e, _⟩ => by rw [e]; rfl) h
  · refine ⟨_, PSs.nox (pss_cons (ps_if (PW.pt (pw_or (pt_not (pt_val (pe_callB (isiU (K := K)) rfl W.n_isinstance bt_isinstance (pa_cons (pv 0) (pa_cons (pe_bltn (v := .ty "tuple") rfl W.n_tuple bt_tuple rfl) pa_nil))))) (pw_or (pt_cmpR (eqU (K := K) hr.units) (pv 0) (pe_tup pa_nil) (nomark _)) (pw_or1 (pt_not (pt_val (pe_callB (isiU (K := K)) rfl W.n_isinstance bt_isinstance (pa_cons (pe_ix (ixU (K := K)) (pv 0) pe_int (fun _ _ => rfl)) (pa_cons (pe_bltn (v := .ty "str") rfl W.n_str bt_str rfl) pa_nil))))))))) (pss_one (ps_ret pe_bl)) pss_nil)
  (pss_cons (ps_if (pt_cmpR (inU (K := K)) (pe_ix (ixU (K := K)) (pv 0) pe_int (fun _ _ => rfl)) (pe_glob (v := .ref (He.ga K "ALONE")) rfl W.g_ALONE rfl) (by rfl)) (pss_one (ps_ret (pe_cmpR (eqU (K := K) hr.units) (pe_callB (lenU (K := K)) rfl W.n_len bt_len (pa_cons (pv 0) pa_nil)) pe_int (nomark _)))) pss_nil)
  (pss_cons (ps_if (pt_cmpR (neU (K := K) hr.units) (pe_callB (lenU (K := K)) rfl W.n_len bt_len (pa_cons (pv 0) pa_nil)) pe_int (nomark _)) (pss_one (ps_ret pe_bl)) pss_nil)
  (pss_cons (ps_if (pt_cmpR (eqU (K := K) hr.units) (pe_ix (ixU (K := K)) (pv 0) pe_int (fun _ _ => rfl)) pe_str (nomark _)) (pss_one (ps_ret (pe_fn F_is_lot (hr.mono (by decide)) rfl pass0 (pa_cons (pe_ix (ixU (K := K)) (pv 0) pe_int (fun _ _ => rfl)) pa_nil)))) pss_nil)
  (pss_one (ps_ret (pe_and (pe_cmpR (inU (K := K)) (pe_ix (ixU (K := K)) (pv 0) pe_int (fun _ _ => rfl)) (pe_tup (pa_cons pe_str (pa_cons pe_str pa_nil))) (by rfl)) (pe_one (pe_fn F_is_within (hr.mono (by decide)) rfl pass0 (pa_cons (pe_ix (ixU (K := K)) (pv 0) pe_int (fun _ _ => rfl)) (pa_cons pe_int (pa_cons (pe_gi rfl W.i_MOST_LOTS) pa_nil)))))))))))), ?_⟩
    refine spD_body (fun vs H ds r hv hP => ?_) vs H Q E h
    obtain ⟨x, rfl, hx, rfl⟩ := hP
    obtain ⟨v, rfl, h1⟩ := hv.one
    have hsh := Wish.shp hx
    rw [x.data_eq] at h1 hsh
    have hV : ∀ {σ : L2.St} {H' : Hp}, σ[0]? = some (some v) → Same H H' → EvD K (tVar 0) σ H' (.tuple [.str x.nm, x.val]) := fun e e2 => ev_var e (h1.mono e2)
    have h0 : ∀ {H' : Hp}, Same H H' → EvD K (tOp (rIx K) (tVar 0) (tC (.int 0))) (start N_is_wish [v]) H' (.str x.nm) := fun e => ev_ixT rfl (hV rfl e) ev_int
    have h1' : ∀ {H' : Hp}, Same H H' → EvD K (tOp (rIx K) (tVar 0) (tC (.int 1))) (start N_is_wish [v]) H' x.val := fun e => ev_ixT rfl (hV rfl e) ev_int
    refine eb_ifS (b := false) ?_ (fun z => by cases z) fun _ => eb_next ?_
    · refine (et_or (b := false) (c := false) ((et_not (b := true) (et_val (ev_isi rfl (kit_ty (by decide +kernel)) (hV rfl (Same.refl _))))).as rfl) fun _ => ?_).as rfl
      refine (et_or (b := false) (c := false) ((et_test (ev_eqG (hsh.ok (by decide)) rfl (hV rfl (Same.refl _)) (ev_tup (ds := []) (by decide +kernel) ea_nil))).as rfl) fun _ => ?_).as rfl
      exact (et_not (b := true) (et_val (ev_isi rfl (kit_ty (by decide +kernel)) (h0 (Same.refl _))))).as rfl
    refine eb_ifS (b := false) ((et_test (ev_inT (ws := ["none", "twins", "free", "like"]) (h0 (Same.refl _)) (ev_c (rp_alone (W.ex 1) _)))).as ?_) (fun z => by cases z) fun _ => eb_next ?_
    · exact nm_ni x (by decide)
    refine eb_ifS (b := false) ((et_test (ev_neI (ev_lenT (hV rfl (Same.refl _))) ev_int)).as rfl) (fun z => by cases z) fun _ => eb_next ?_
    cases x with
    | has w => exact eb_ifS (b := true) ((et_test (ev_eqS (h0 (Same.refl _)) ev_str)).as rfl) (fun _ => eb_retS (ev_call (P := PLot) (ea_cons (h1' (Same.refl _)) ea_nil) ⟨w, rfl, hx, rfl⟩)) (fun z => by cases z)
    | few =>
      refine eb_ifS (b := false) ((et_test (ev_eqS (h0 (Same.refl _)) ev_str)).as (by decide)) (fun z => by cases z) fun _ => eb_next (eb_ret ((ev_and (b := true) (c := true) ((ev_inT (ws := ["folds", "few"]) (h0 (Same.refl _)) (ev_tup (by decide +kernel) (ea_cons ev_str (ea_cons ev_str ea_nil)))).as (congrArg PyData.bool (by decide))) fun _ => ?_).as rfl))
      exact ev_call (P := PWithin) (ea_cons (h1' (Same.refl _)) (ea_cons ev_int (ea_cons ev_int ea_nil))) ⟨_, _, _, rfl, rfl, rfl⟩
    | folds =>
      refine eb_ifS (b := false) ((et_test (ev_eqS (h0 (Same.refl _)) ev_str)).as (by decide)) (fun z => by cases z) fun _ => eb_next (eb_ret ((ev_and (b := true) (c := true) ((ev_inT (ws := ["folds", "few"]) (h0 (Same.refl _)) (ev_tup (by decide +kernel) (ea_cons ev_str (ea_cons ev_str ea_nil)))).as (congrArg PyData.bool (by decide))) fun _ => ?_).as rfl))
      exact ev_call (P := PWithin) (ea_cons (h1' (Same.refl _)) (ea_cons ev_int (ea_cons ev_int ea_nil))) ⟨_, _, _, rfl, rfl, rfl⟩

theorem ok_check_wish (W : Wr P w K mg base) (F_is_wish : Fn P w K mg base CX0 3 "is_wish" ["value"] (spD K PWish)) : Fn P w K mg base CX0 4 "check_wish" ["value"] (spD K PCkWish) := by
  refine fn_mk W.d_check_wish W.g_check_wish sc_check_wish (fun vs H Q E h => ?_) (fun _ _ _ _ _ _ us hl => match us, hl with | [_], _ => rfl) (fun cdv A outer s H vs Q E hr h => ?_)
  · exact len1 (fun ds r ⟨z, e, _⟩ => by rw [e]; rfl) h
  · refine ⟨_, PSs.nox (pss_one (ps_if (pt_not (pt_val (pe_fn F_is_wish (hr.mono (by decide)) rfl pass0 (pa_cons (pv 0) pa_nil)))) (pss_one ps_never) pss_nil)), ?_⟩
    refine spD_bodyN (fun vs H ds r hv hP => ?_) vs H Q E h
    obtain ⟨x, rfl, hx, rfl⟩ := hP
    obtain ⟨v, rfl, h1⟩ := hv.one
    exact ⟨rfl, fun _ _ => True, es_if (b := false) ((et_not (b := true) (et_val (ev_call (P := PWish) (ea_cons (ev_var rfl h1) ea_nil) ⟨x, rfl, hx, rfl⟩))).as rfl) (fun z => by cases z) fun _ => es_skip⟩


def spKept (K : PySem.W.Frag) : Sp := fun vs H Q _ => ∃ (v u : V) (ws : List Str) (x : Wish), vs = [v, u] ∧ Rp K H v (LDw K ws) ∧ Rp K H u x.data ∧ Gw ws ∧ ws ≠ [] ∧ x.ok ∧ ∀ H', Same H H' → Q (.bl (keeps ws x)) H'

theorem ok_is_kept (W : Wr P w K mg base) (F_most_folds : Fn P w K mg base CX0 10 "most_folds" ["lots"] (spMost K)) (G_Lots_lots : Gt P w K mg base CX0 1 (He.ga K "Lots") "lots" (spD K (PWords (He.ga K "Lots")))) (M_Lots___len__ : Mt P w K mg base CX0 1 (He.ga K "Lots") "__len__" ["self"] (spD K (PLen (He.ga K "Lots")))) : Fn P w K mg base CX0 11 "is_kept" ["lots", "wish"] (spKept K) := by
  refine fn_mk W.d_is_kept W.g_is_kept sc_is_kept (fun vs H Q E h => ?_) (fun _ _ _ _ _ _ us hl => match us, hl with | [_, _], _ => rfl) (fun cdv A outer s H vs Q E hr h => ?_)
  · obtain ⟨v, u, ws, x, rfl, _⟩ := h
    rfl
  · refine ⟨_, PSs.nox (pss_cons (ps_if (pt_cmpR (inU (K := K)) (pe_ix (ixU (K := K)) (pv 1) pe_int (fun _ _ => rfl)) (pe_tup (pa_cons pe_str (pa_cons pe_str pa_nil))) (by rfl)) (pss_one ps_never) pss_nil)
  (pss_cons (ps_if (pt_cmpR (eqU (K := K) hr.units) (pe_ix (ixU (K := K)) (pv 1) pe_int (fun _ _ => rfl)) pe_str (nomark _)) (pss_one ps_never) pss_nil)
  (pss_cons (ps_if (pt_cmpR (eqU (K := K) hr.units) (pe_ix (ixU (K := K)) (pv 1) pe_int (fun _ _ => rfl)) pe_str (nomark _)) (pss_one ps_never) pss_nil)
  (pss_cons (ps_if (pt_cmpR (eqU (K := K) hr.units) (pe_ix (ixU (K := K)) (pv 1) pe_int (fun _ _ => rfl)) pe_str (nomark _)) (pss_one (ps_ret (pe_cmpR op_le (pe_fn F_most_folds (hr.mono (by decide)) rfl pass0 (pa_cons (pv 0) pa_nil)) (pe_callB (call_max2 rfl) rfl W.n_max bt_max (pa_cons pe_int (pa_cons (pe_ix (ixU (K := K)) (pv 1) pe_int (fun _ _ => rfl)) pa_nil))) (nomark _)))) pss_nil)
  (pss_one (ps_ret (pe_ifExp (pt_cmpR (eqU (K := K) hr.units) (pe_ix (ixU (K := K)) (pv 1) pe_int (fun _ _ => rfl)) pe_str (nomark _)) (pe_cmpR (inU (K := K)) (pe_ix (ixU (K := K)) (pv 1) pe_int (fun _ _ => rfl)) (pe_gt G_Lots_lots W.cl_Lots (hr.mono (by decide)) pass0 (pv 0)) (by rfl)) (pe_cmpR op_le (pe_callB (cr_lenO M_Lots___len__ (hr.mono (by decide)) pass0) rfl W.n_len bt_len (pa_cons (pv 0) pa_nil)) (pe_ix (ixU (K := K)) (pv 1) pe_int (fun _ _ => rfl)) (nomark _))))))))), ?_⟩
    obtain ⟨v, u, ws, x, rfl, h1, h2, g, hne, hx, q⟩ := h
    have hle := g.le
    rw [x.data_eq] at h2
    have hL : ∀ {H' : Hp}, Same H H' → EvD K (tVar 0) (start N_is_kept [v, u]) H' (LDw K ws) := fun e => ev_var rfl (h1.mono e)
    have h0 : ∀ {H' : Hp}, Same H H' → EvD K (tOp (rIx K) (tVar 1) (tC (.int 0))) (start N_is_kept [v, u]) H' (.str x.nm) := fun e => ev_ixT rfl (ev_var rfl (h2.mono e)) ev_int
    have h1' : ∀ {H' : Hp}, Same H H' → EvD K (tOp (rIx K) (tVar 1) (tC (.int 1))) (start N_is_kept [v, u]) H' x.val := fun e => ev_ixT rfl (ev_var rfl (h2.mono e)) ev_int
    have key : ∀ {t1 t2 t3 t4 : TS}, EvB K t4 (start N_is_kept [v, u]) H (.bool (keeps ws x)) → EvB K (tSeq (tIfS (tB (tOp (rInU K) (tOp (rIx K) (tVar 1) (tC (.int 0))) (tTup (tCons (tC (.str "none")) (tCons (tC (.str "twins")) tNil))))) t1 tNext) (tSeq (tIfS (tB (tOp (rEqU K) (tOp (rIx K) (tVar 1) (tC (.int 0))) (tC (.str "free")))) t2 tNext) (tSeq (tIfS (tB (tOp (rEqU K) (tOp (rIx K) (tVar 1) (tC (.int 0))) (tC (.str "like")))) t3 tNext) t4))) (start N_is_kept [v, u]) H (.bool (keeps ws x)) := fun h4 =>
      eb_ifS (b := false) ((et_test (ev_inT (ws := ["none", "twins"]) (h0 (Same.refl _)) (ev_tup (by decide +kernel) (ea_cons ev_str (ea_cons ev_str ea_nil))))).as (nm_ni x (by decide))) (fun z => by cases z) fun _ => eb_next
      (eb_ifS (b := false) ((et_test (ev_eqS (h0 (Same.refl _)) ev_str)).as (nm_ne x (by decide))) (fun z => by cases z) fun _ => eb_next
      (eb_ifS (b := false) ((et_test (ev_eqS (h0 (Same.refl _)) ev_str)).as (nm_ne x (by decide))) (fun z => by cases z) fun _ => eb_next h4))
    refine key ?_ H (Same.refl _) _ fun r H' e hr => by cases hr; exact q H' e
    cases x with
    | folds =>
      refine eb_ifS (b := true) ((et_test (ev_eqS (h0 (Same.refl _)) ev_str)).as rfl) (fun _ => ?_) (fun z => by cases z)
      intro H1 e1 D qd
      refine ⟨v, rfl, v, ws, rfl, h1.mono e1, g, hne, fun f H2 hf e2 => ?_⟩
      have hm := ev_max2 (K := K) (σ := start N_is_kept [v, u]) (H := H2) (i := 1) (j := 9) ev_int (h1' (e1.trans e2))
      refine hm H2 (Same.refl _) _ fun z H3 e3 hz => ?_
      cases hz
      refine ⟨f, 9, rfl, rfl, qd _ H3 (e2.trans e3) ?_⟩
      show Rp K H3 (V.bl (decide ((f : Int) ≤ 9))) (.bool true)
      rw [show decide ((f : Int) ≤ 9) = true from decide_eq_true (by omega)]
      exact .bl true
    | few =>
      refine eb_ifS (b := false) ((et_test (ev_eqS (h0 (Same.refl _)) ev_str)).as (by decide)) (fun z => by cases z) fun _ => eb_next (eb_ret (ev_if (b := false) ((et_test (ev_eqS (h0 (Same.refl _)) ev_str)).as (by decide)) (fun z => by cases z) fun _ => ?_))
      refine (ev_leI ((ev_lenO (P := PLen (He.ga K "Lots")) (by rw [List.length_map]; omega) (hL (Same.refl _)) ⟨_, _, rfl, rfl⟩).as (by rw [tws_len])) (h1' (Same.refl _))).as ?_
      show PyData.bool (decide ((ws.length : Int) ≤ 5)) = .bool (decide (ws.length ≤ 5))
      congr 1
      exact decide_eq_decide.mpr (by omega)
    | has z =>
      refine eb_ifS (b := false) ((et_test (ev_eqS (h0 (Same.refl _)) ev_str)).as (decide_eq_false (show ¬ ("has" : Str) = "folds" by decide))) (fun z => by cases z) fun _ => eb_next (eb_ret (ev_if (b := true) ((et_test (ev_eqS (h0 (Same.refl _)) ev_str)).as rfl) (fun _ => ?_) fun z => by cases z))
      exact ev_inT (ws := ws) (h1' (Same.refl _)) (ev_prop (P := PWords (He.ga K "Lots")) (hL (Same.refl _)) ⟨_, _, rfl, rfl⟩)

end
end K7

set_option Elab.async false
set_option linter.all false
set_option maxRecDepth 100000
set_option maxHeartbeats 4000000
namespace K7
open PySem PySem.Spec PyProof.Rows L2
section
variable {P : Program} {w : World} {K : PySem.W.Frag} {mg : Str → Option Value} {base : Heap}
theorem xn_TooFew (W : Wr P w K mg base) : XN K "TooFew" := xnB_ok (He.ba (W.ex 5)).1
theorem xn_NothingToUndo (W : Wr P w K mg base) : XN K "NothingToUndo" := xnB_ok (He.ba (W.ex 5)).2
theorem xt_InvalidNumber (W : Wr P w K mg base) : XT K "ValueError" "ValueError.__new__" veT (He.ga K "InvalidNumber") (He.ma K (He.ga K "InvalidNumber") "__init__") "given" := xtB_ok (W.ex 3)
theorem xt_Broken (W : Wr P w K mg base) : XT K "ArithmeticError" "ArithmeticError.__new__" aeT (He.ga K "Broken") (He.ma K (He.ga K "Broken") "__init__") "index" := xtB_ok (W.ex 4)
theorem xi_InvalidNumber (W : Wr P w K mg base) : XI K "InvalidNumber.__init__" "given" (He.ma K (He.ga K "InvalidNumber") "__init__") := let ⟨fd, F⟩ := W.d_InvalidNumber___init__; ⟨_, _, _, _, _, _, fd, F⟩
theorem xi_Broken (W : Wr P w K mg base) : XI K "Broken.__init__" "index" (He.ma K (He.ga K "Broken") "__init__") := let ⟨fd, F⟩ := W.d_Broken___init__; ⟨_, _, _, _, _, _, fd, F⟩
theorem xb_InvalidNumber : XB "InvalidNumber.__init__" "given" := fun _ _ _ _ _ _ _ _ _ _ _ _ _ _ => rfl
theorem xb_Broken : XB "Broken.__init__" "index" := fun _ _ _ _ _ _ _ _ _ _ _ _ _ _ => rfl
theorem range_erase {α : Type} : ∀ (ws : List α) (i : Nat) (f : Nat → α), (∀ k, k < ws.length → ws[k]? = some (f k)) → ((List.range ws.length).filter fun k => !decide (k = i)).map f = ws.eraseIdx i
  | [], _, _, _ => rfl
  | x :: r, i, f, h => by
    have hx : f 0 = x := by have := h 0 (Nat.succ_pos _); simpa using this.symm
    have hr : ∀ k, k < r.length → r[k]? = some (f (k + 1)) := fun k hk => by
      have := h (k + 1) (Nat.succ_lt_succ hk)
      rw [List.getElem?_cons_succ] at this
      exact this
    rw [List.length_cons, List.range_succ_eq_map, List.filter_cons]
    cases i with
    | zero =>
      have e : ((List.map Nat.succ (List.range r.length)).filter fun k => !decide (k = 0)) = List.map Nat.succ (List.range r.length) := List.filter_eq_self.mpr fun k hk => by
        obtain ⟨j, _, rfl⟩ := List.mem_map.mp hk
        simp
      simp only [decide_true, Bool.not_true, Bool.false_eq_true, if_false]
      rw [e, List.map_map, List.eraseIdx_cons_zero]
      apply List.ext_getElem?
      intro k
      rw [List.getElem?_map]
      by_cases hk : k < r.length
      · rw [List.getElem?_range hk, hr k hk]
        rfl
      · rw [List.getElem?_eq_none (by simpa using hk), List.getElem?_eq_none (by simpa using hk)]
        rfl
    | succ i =>
      have ih := range_erase r i (fun k => f (k + 1)) hr
      have e : decide ((0 : Nat) = i + 1) = false := decide_eq_false (by omega)
      rw [e]
      simp only [Bool.not_false, if_true]
      rw [List.map_cons, hx, List.eraseIdx_cons_succ, ← ih, List.filter_map, List.map_map]
      congr 2
      apply List.filter_congr
      intro k _
      show (!decide (k + 1 = i + 1)) = !decide (k = i)
      congr 1
      exact decide_eq_decide.mpr (by omega)
theorem Gw.erase {ws : List Str} (g : Gw ws) (i : Nat) : Gw (ws.eraseIdx i) := g.sub (Nat.le_trans (List.length_eraseIdx_le _ _) g.le) fun w hw => List.mem_of_mem_eraseIdx hw
def spWithout (K : PySem.W.Frag) : Sp := fun vs H Q E => ∃ (v u : V) (ws : List Str) (i : Nat), vs = [v, u] ∧ Rp K H v (LDw K ws) ∧ Rp K H u (.tuple [.int i]) ∧ Gw ws ∧ i < ws.length ∧
  (ws.length = 1 → ∀ H', Same H H' → E (.ref (He.ga K "TooFew")) none H') ∧ (ws.length ≠ 1 → ∀ r H', Same H H' → Rp K H' r (LDw K (ws.eraseIdx i)) → Q r H')

theorem ok_Lots_without (W : Wr P w K mg base) (F_check_indexes : Fn P w K mg base CX0 3 "check_indexes" ["lots", "indexes"] (spD K (PCkIndexes (He.ga K "Lots")))) (I_Lots : Ini P w K mg base CX0 4 "Lots" (He.ga K "Lots") ["self", "lots"] (spInit (He.ga K "Lots") K PInit)) : Mt P w K mg base (L2.CX P w) 6 (He.ga K "Lots") "without" ["self", "indexes"] (spWithout K) := by
  refine mt_mk W.d_Lots_without W.m_Lots_without sc_Lots_without (fun vs H Q E h => ?_) (fun _ _ _ _ _ _ us hl => match us, hl with | [_, _], _ => rfl) (fun cdv A outer s H vs Q E hr h => ?_)
  · obtain ⟨v, u, ws, i, rfl, _⟩ := h
    rfl
  · refine ⟨_,  (pss_cons (ps_expr (pe_fn F_check_indexes (hr.mono (by decide)) rfl pass0 (pa_cons (pv 0) (pa_cons (pv 1) pa_nil))))
  (pss_cons (ps_if (pt_cmpR (eqU (K := K) hr.units) (pe_callB (lenU (K := K)) rfl W.n_len bt_len (pa_cons (pv 1) pa_nil)) (pe_callB (lenU (K := K)) rfl W.n_len bt_len (pa_cons (fldU (K := K) (pv 0)) pa_nil)) (nomark _)) (pss_one (ps_raise rfl (takes_of rfl rfl rfl rfl) (pmk_n PySem.F.excBase_ArithmeticError (xn_TooFew W).ex W.g_TooFew (xn_TooFew W).kC (raises_own (xn_TooFew W).eC (xn_TooFew W).tC)))) pss_nil)
  (pss_one (ps_ret (pe_ini I_Lots (hr.mono (by decide)) rfl pass0 (pa_cons (pe_callTy (tupU (K := K)) rfl W.n_tuple bt_tuple (pa_cons (pe_lc (own := [("k", 2)]) rfl sc_Lots_without.nd (pi_range1 rfl W.n_range (pa_cons (pe_callB (lenU (K := K)) rfl W.n_len bt_len (pa_cons (fldU (K := K) (pv 0)) pa_nil)) pa_nil)) (blkOk_by (own := [("k", 2)]) (N := N_Lots_without) (sc := (defScope s_Lots_without)) (by decide +kernel)) (fun _ _ _ _ _ => (nameU (i := 2) sc_Lots_without.nd)) (fun _ _ _ _ _ => (pts_one (pt_cmpR (niU (K := K)) (pv 2) (pv 1) (by rfl)))) (fun _ _ _ _ _ => (pe_ix (ixU (K := K)) (fldU (K := K) (pv 0)) (pv 2) (fun _ _ => rfl)))) pa_nil)) pa_nil)))))), ?_⟩
    obtain ⟨v, u, ws, i, rfl, h1, h2, g, hi, he, hq⟩ := h
    have hle := g.le
    have hS : ∀ {σ : L2.St} {H' : Hp}, σ[0]? = some (some v) → Same H H' → EvD K (tFld K (tVar 0) "words") σ H' (tws ws) := fun e e2 => ev_fldW W.cl_Lots W.na_Lots_words (ev_var e (h1.mono e2))
    have hck : EvD K (tCall (spD K (PCkIndexes (He.ga K "Lots"))) [] E0 (tCons (tVar 0) (tCons (tVar 1) tNil))) (start N_Lots_without [v, u]) H .none :=
      ev_call (ea_cons (ev_var rfl h1) (ea_cons (ev_var rfl h2) ea_nil)) ⟨_, _, i, rfl, by rw [List.length_map]; omega, by omega, by rw [List.length_map]; omega, rfl⟩
    refine hck H (Same.refl _) _ fun _ H1 e1 _ => ?_
    have ht : EvT (tB (tOp (rEqU K) (tCB (rLen K) (tCons (tVar 1) tNil)) (tCB (rLen K) (tCons (tFld K (tVar 0) "words") tNil)))) (start N_Lots_without [v, u]) H1 (decide ((1 : Int) = ws.length)) := et_test (ev_eqI (ev_lenT (ev_var rfl (h2.mono e1))) ((ev_lenT (hS rfl e1)).as (by rw [tws_len])))
    refine ht H1 (Same.refl _) _ fun H2 e2 => ?_
    by_cases h1w : ws.length = 1
    · rw [h1w]
      exact iteT (he h1w H2 (e1.trans e2))
    · rw [decide_eq_false (by omega)]
      refine iteF ?_
      have hmk : EvD K (tMake (He.ga K "Lots") (spInit (He.ga K "Lots") K PInit) [] E0 (tCons (tCB (rTupOf K) (tCons (tLc (iRng1 (tCons (tCB (rLen K) (tCons (tFld K (tVar 0) "words") tNil)) tNil)) (gName 2) (tB (tOp (rNiU K) (tVar 2) (tVar 1))) (tOp (rIx K) (tFld K (tVar 0) "words") (tVar 2)) [2]) tNil)) tNil)) (start N_Lots_without [v, u]) H2 (LDw K (ws.eraseIdx i)) := by
        refine ev_make (P := PInit) (ea_cons ?_ ea_nil) ⟨ws.eraseIdx i, rfl, g.erase i, fun z => ?_, rfl⟩
        · refine ev_tupleL ((ev_lcF (b := fun d => match d with | .int k => !decide (k = (i : Int)) | _ => false) (f := fun d => match d with | .int k => .str (ws.getD k.toNat "") | _ => .none) (ei_range1 (i := ws.length) (by omega) (by omega) ((ev_lenT (hS rfl (e1.trans e2))).as (by rw [tws_len]))) (by rw [upto_len]; omega) (fun d hd _ => ?_) (fun d x H3 hd e3 hv => ?_) (fun d x H3 hd e3 hv _ => ?_)).as ?_)
          · obtain ⟨k, hk, rfl⟩ := mem_upto hd
            rfl
          · obtain ⟨k, hk, rfl⟩ := mem_upto hd
            refine (et_test (ev_niTI (ws := [(i : Int)]) (ev_var rfl hv) (ev_var rfl (h2.mono ((e1.trans e2).trans e3))))).as ?_
            simp
          · obtain ⟨k, hk, rfl⟩ := mem_upto hd
            have hkl : k < ws.length := by omega
            have hg : ws[k]? = some (ws.getD k "") := by rw [List.getD_eq_getElem?_getD, List.getElem?_eq_getElem hkl]; rfl
            refine (ev_ixT (tws_at hg) (hS rfl ((e1.trans e2).trans e3)) ((ev_var rfl hv).as (by rw [Int.zero_add]))).as ?_
            show PyData.str _ = .str (ws.getD (0 + (k : Int)).toNat "")
            rw [Int.zero_add, Int.toNat_natCast]
          · have hr := range_erase ws i (fun k => ws.getD k "") fun k hk => by rw [List.getD_eq_getElem?_getD, List.getElem?_eq_getElem hk]; rfl
            rw [← hr]
            unfold upto
            rw [Int.toNat_natCast, List.filter_map, List.map_map, List.map_map]
            congr 1
            have ef : ((fun d => match d with | PyData.int k => !decide (k = (i : Int)) | _ => false) ∘ fun k : Nat => PyData.int (0 + (k : Int))) = fun k : Nat => !decide (k = i) := funext fun k => by
              show (!decide ((0 : Int) + k = i)) = !decide (k = i)
              congr 1
              exact decide_eq_decide.mpr (by omega)
            rw [ef]
            apply List.map_congr_left
            intro k _
            show PyData.str (ws.getD ((0 : Int) + k).toNat "") = .str (ws.getD k "")
            rw [Int.zero_add, Int.toNat_natCast]
        · have hl := List.length_eraseIdx_of_lt hi
          rw [z] at hl
          simp at hl
          omega
      exact hmk H2 (Same.refl _) _ fun r H3 e3 hr => hq h1w r H3 ((e1.trans e2).trans e3) hr


def REq (K : PySem.W.Frag) : Addr → Addr → Hp → Prop := fun a b H => ∃ (ws : List Str) (l l' : Str), Rp K H (.ref a) (LD (He.ga K "Lots") (ws.map .str) l) ∧ Rp K H (.ref b) (LD (He.ga K "Lots") (ws.map .str) l') ∧ Gw ws

theorem ok_Lots___eq__ (W : Wr P w K mg base)  : Mt P w K mg base CX0 1 (He.ga K "Lots") "__eq__" ["self", "other"] (spEq (REq K)) := by
  refine mt_mk W.d_Lots___eq__ W.m_Lots___eq__ sc_Lots___eq__ (fun vs H Q E h => ?_) (fun _ _ _ _ _ _ us hl => match us, hl with | [_, _], _ => rfl) (fun cdv A outer s H vs Q E hr h => ?_)
  · obtain ⟨a, b, rfl, _⟩ := h
    rfl
  · refine ⟨_, PSs.nox (pss_one (ps_ret (pe_and (pe_callB (cr_isC (K := K) (insB_ok (W.ex 2) W.cl_Lots)) rfl W.n_isinstance bt_isinstance (pa_cons (pv 1) (pa_cons (pe_glob (v := .ref (He.ga K "Lots")) rfl W.g_Lots rfl) pa_nil))) (pe_one (pe_cmpR (eqU (K := K) hr.units) (fldU (K := K) (pv 0)) (fldU (K := K) (pv 1)) (nomark _)))))), ?_⟩
    obtain ⟨a, b, rfl, ⟨ws, l, l', h1, h2, g⟩, q⟩ := h
    have hsh : SeqAt.shaped (tws ws) = true := shaped_tws fun w hw c hc => by have := ((g.lot w hw).az c hc).2; omega
    have hb : EvB K (tRet (tAndV (tCB (rIsC (He.ga K "Lots")) (tCons (tVar 1) (tCons (tC (.ref (He.ga K "Lots"))) tNil))) (tOp (rEqU K) (tFld K (tVar 0) "words") (tFld K (tVar 1) "words")))) (start N_Lots___eq__ [.ref a, .ref b]) H (.bool true) :=
      eb_ret ((ev_and (b := true) (c := true) (ev_isC (ev_var rfl h2)) fun _ => (ev_eqG hsh hsh (ev_fldW W.cl_Lots W.na_Lots_words (ev_var rfl h1)) (ev_fldW W.cl_Lots W.na_Lots_words (ev_var rfl h2))).as (by rw [SeqAt.eqv_refl _ (SeqAt.canLay_of_shaped hsh)])).as rfl)
    exact hb H (Same.refl _) _ fun v H' e hv => by cases hv; exact q H' e

end
end K7

set_option Elab.async false
set_option linter.all false
set_option maxRecDepth 100000
set_option maxHeartbeats 4000000
namespace K7
open PySem PySem.Spec PyProof.Rows L2
/-! ### a desk in the heap -/
abbrev S7 := List Str × List Wish
def wsD (l : List Wish) : PyData := .tuple (l.map Wish.data)
def pairD (K : PySem.W.Frag) (c : S7) : PyData := .tuple [LDw K c.1, wsD c.2]
def heldD (K : PySem.W.Frag) (c : S7) (ps : List S7) : PyData := .tuple [LDw K c.1, wsD c.2, .tuple (ps.map (pairD K))]
def DeskAt (K : PySem.W.Frag) (H : Hp) (a : Addr) (c : S7) (ps : List S7) : Prop := ∃ dx hv, H a = some (.ins (He.ga K "Desk") dx [("held", hv)]) ∧ Rp K (cut H a) hv (heldD K c ps)
/-- a state of a desk that is met here -/
structure S7.Ok (c : S7) : Prop where
  g : Gw c.1
  ne : c.1 ≠ []
  ok : ∀ x ∈ c.2, x.ok
  le : c.2.length ≤ 100
section
variable {K : PySem.W.Frag} {H H' : Hp} {a : Addr} {c : S7} {ps : List S7}
theorem DeskAt.mono (h : DeskAt K H a c ps) (e : Same H H') : DeskAt K H' a c ps := let ⟨dx, hv, h1, h2⟩ := h; ⟨dx, hv, e _ _ h1, h2.mono (cut_mono e)⟩
theorem DeskAt.bear (h : DeskAt K H a c ps) : ∀ o, H a = some o → bears o = false := fun o e => by
  obtain ⟨dx, hv, h1, _⟩ := h
  rw [h1] at e
  cases e
  rfl
theorem desk_put {dx : Addr} {fs : List (Str × V)} {v : V} (h : H a = some (.ins (He.ga K "Desk") dx fs)) (hf : fs.length ≤ 1) (hv : Rp K H v (heldD K c ps)) : DeskAt K (upd H a (.ins (He.ga K "Desk") dx [("held", v)])) a c ps := by
  refine ⟨dx, v, upd_same, ?_⟩
  have h1 : Rp K (cut H a) v (heldD K c ps) := hv.cut fun o e => by
    rw [h] at e
    cases e
    show (fs.length == 2) = false
    rcases fs with _ | ⟨x, _ | ⟨y, r⟩⟩
    · rfl
    · rfl
    · simp at hf
  refine h1.mono fun b o e => ?_
  have n : b ≠ a := ne_of_none e cut_at
  rw [cut_ne n, upd_ne n]
  rwa [cut_ne n] at e
/-- the desk's field is stored -/
theorem sf_desk {D : Ends} {σ : L2.St} {tv : TE} {dx : Addr} {fs : List (Str × V)} (cl : Cls K (He.ga K "Desk")) (n : NoAttr K (He.ga K "Desk") "held") (hi : σ[0]? = some (some (.ref a))) (hH : H a = some (.ins (He.ga K "Desk") dx fs)) (hf : fs.length ≤ 1) (hp : ∀ y, putF "held" y fs = [(("held" : Str), y)])
    (ht : EvD K tv σ H (heldD K c ps)) (q : ∀ H', Same (cut H a) H' → DeskAt K H' a c ps → D.nx σ H') : sFld K (tVar 0) tv "held" D σ H := by
  refine ht H (Same.refl _) _ fun y H2 e2 hy => ?_
  refine ⟨.ref a, hi, a, _, dx, fs, rfl, e2 _ _ hH, cl, n, by omega, ?_⟩
  rw [hp]
  exact q _ (cut_upd.mpr ((cut_same a).trans e2)) (desk_put (e2 _ _ hH) hf hy)
theorem sf_held {D : Ends} {σ : L2.St} {tv : TE} {c' : S7} {qs : List S7} (cl : Cls K (He.ga K "Desk")) (n : NoAttr K (He.ga K "Desk") "held") (hi : σ[0]? = some (some (.ref a))) (hH : DeskAt K H a c ps)
    (ht : EvD K tv σ H (heldD K c' qs)) (q : ∀ H', Same (cut H a) H' → DeskAt K H' a c' qs → D.nx σ H') : sFld K (tVar 0) tv "held" D σ H := by
  obtain ⟨dx, hv, h1, _⟩ := hH
  exact sf_desk cl n hi h1 (by simp) (fun _ => rfl) ht q
theorem s3 {a b c : PyData} : [a, b, c].length ≤ sizeLine := by rw [sizeLine_eq]; show 3 ≤ _; omega
theorem s1 {a : PyData} : [a].length ≤ sizeLine := by rw [sizeLine_eq]; show 1 ≤ _; omega
theorem s0 : ([] : List PyData).length ≤ sizeLine := by rw [sizeLine_eq]; show 0 ≤ _; omega
/-- the ways out of a change -/
def OutOk (K : PySem.W.Frag) (H : Hp) (a : Addr) (Q : VK) (E : XK) (r : Option Nat) (c : S7) (ps : List S7) : Prop :=
  (∀ i : Nat, r = some i → ∀ H' d, Same H H' → H' d = some (.xd [("index", .int i)]) → E (.ref (He.ga K "Broken")) (some d) H') ∧ (r = none → ∀ H', Same (cut H a) H' → DeskAt K H' a c ps → Q .non H')
theorem OutOk.mono {Q : VK} {E : XK} {r : Option Nat} (h : OutOk K H a Q E r c ps) (e : Same H H') : OutOk K H' a Q E r c ps := ⟨fun i z H2 d e2 => h.1 i z H2 d (e.trans e2), fun z H2 e2 => h.2 z H2 ((cut_mono e).trans e2)⟩
/-- the first wish that does not hold -/
def firstB (ws : List Str) (l : List Wish) : Option Nat := l.findIdx? fun x => !keeps ws x
def spDk (K : PySem.W.Frag) (f : S7 → List S7 → PyData) : Sp := fun vs H Q _ => ∃ a c ps, vs = [.ref a] ∧ DeskAt K H a c ps ∧ ∀ v H', Same H H' → Rp K H' v (f c ps) → Q v H'
def fLots (K : PySem.W.Frag) : S7 → List S7 → PyData := fun c _ => LDw K c.1
def fProm : S7 → List S7 → PyData := fun c _ => wsD c.2
def fChan : S7 → List S7 → PyData := fun _ ps => .int ps.length
section
variable {σ : L2.St} {ta : TE} {E : XK} {f : S7 → List S7 → PyData}
theorem ev_held {i : Nat} (cl : Cls K (He.ga K "Desk")) (n : NoAttr K (He.ga K "Desk") "held") (hi : σ[i]? = some (some (.ref a))) (h : DeskAt K H a c ps) : EvD K (tFld K (tVar i) "held") σ H (heldD K c ps) := fun H1 e1 Q q => by
  obtain ⟨dx, hv, h1, h2⟩ := h.mono e1
  exact ⟨.ref a, hi, a, _, dx, _, hv, rfl, h1, cl, n, rfl, q _ H1 (Same.refl _) (h2.mono (cut_same a))⟩
theorem ev_dk {i : Nat} (hi : σ[i]? = some (some (.ref a))) (h : DeskAt K H a c ps) : EvD K (tProp (He.ga K "Desk") (spDk K f) [] E (tVar i)) σ H (f c ps) := fun H1 e1 Q q => by
  have h' := h.mono e1
  obtain ⟨dx, hv, h1, h2⟩ := h.mono e1
  exact ⟨.ref a, hi, a, dx, _, rfl, h1, a, c, ps, rfl, h', fun v H2 e2 hv => q v H2 e2 hv⟩
end
/-- a loop over a tuple, numbered -/
theorem tr_enumT {σ : L2.St} {Hb : Hp} {te : TE} {t : TS} {R : VK} {k l : Nat} {ds : List PyData} (hb : Same Hb H) (h : EvD K te σ Hb (.tuple ds)) (I : Nat → L2.St → Prop) (h0 : I 0 σ)
    (hs : ∀ (i : Nat) (d : PyData) (v : V) (σ' : L2.St) (H' : Hp), ds[i]? = some d → I i σ' → Same H H' → Rp K H' v d → Tr t ((σ'.set k (some (.int (i : Nat)))).set l (some v)) H' (fun σ2 H2 => Same H' H2 ∧ I (i + 1) σ2) R) :
    Tr (tFor (iEnumT K (tCons te tNil)) (gTup K 2 (gCons (gName k) (gCons (gName l) gNil))) t) σ H (fun σ' H' => Same H H' ∧ I ds.length σ') R := by
  intro D q q2
  refine h H hb _ fun v H2 e2 hv => ?_
  cases hv with
  | tup hsq hr =>
    rename_i p xs
    have w := walk_enumT (K := K) (a := p) (xs := xs)
    refine ⟨p, xs, rfl, hsq, ?_⟩
    have hl := hr.length
    refine ⟨fun i m σ' H' => m = ds.length - i ∧ i ≤ ds.length ∧ Same H2 H' ∧ I i σ', ⟨_, rfl, Nat.zero_le _, Same.refl _, h0⟩, ?_⟩
    rintro i m σ' H' ⟨rfl, hi, e3, p3⟩
    rcases Nat.lt_or_eq_of_le hi with hlt | rfl
    · refine .inr ⟨w.goes i H' (by omega) (same_t e3 hsq), fun σ2 H3 => Same H2 H3 ∧ I (i + 1) σ2, fun σ2 H3 ⟨a, b⟩ => ⟨_, by omega, rfl, hlt, a, b⟩, fun x H3 y => ?_⟩
      obtain ⟨T, x1, x2, rfl, hT, rfl, h1, h2⟩ := w.yields i H' x H3 (by omega) (same_t e3 hsq) y
      cases h1
      obtain ⟨d, hd, hx⟩ := hr.got h2
      have sn := same_new (o := .tup [.int (i : Nat), x2]) hT
      refine ⟨T, _, rfl, SqT.of upd_same, rfl, _, _, rfl, _, _, rfl, rfl, ?_⟩
      exact hs i d x2 σ' _ hd p3 ((e2.trans e3).trans sn) (hx.mono (e3.trans sn)) _ (fun σ3 H5 p4 => ⟨(e3.trans sn).trans p4.1, p4.2⟩) q2
    · exact .inl ⟨by have z := w.stops H' (same_t e3 hsq); rw [hl] at z; exact z, q σ' H' ⟨e2.trans e3, p3⟩⟩
end
theorem enU {X : Cx} {K : PySem.W.Frag} {e : Expr} {ta : TA} {p pos tpos : Pos} {elts : List Expr} {kk : Nat} (hg : Gl X "enumerate") (hm : X.mg "enumerate" = none) (ha : PA X [e] ta) (hs : starEach [e] X.env = [(false, eval e X.env)] := by rfl) (hK : X.K = K := by rfl) :
    PI X (.Tuple elts kk tpos) (.Call (.Name "enumerate" p) [e] [] pos) (iEnumT K ta) := by
  cases hK
  exact pi_enumT hg hm ha hs
theorem firstB_some {ws : List Str} {l : List Wish} {i : Nat} {x : Wish} (h : l[i]? = some x) (hk : keeps ws x = false) (hp : ∀ j y, j < i → l[j]? = some y → keeps ws y = true) : firstB ws l = some i := by
  refine List.findIdx?_eq_some_iff_getElem.mpr ?_
  obtain ⟨hi, he⟩ := List.getElem?_eq_some_iff.mp h
  refine ⟨hi, by rw [he, hk]; rfl, fun j hj => ?_⟩
  rw [hp j _ hj (List.getElem?_eq_getElem (Nat.lt_trans hj hi))]
  simp
theorem firstB_none {ws : List Str} {l : List Wish} (hp : ∀ (j : Nat) (y : Wish), l[j]? = some y → keeps ws y = true) : firstB ws l = none := by
  refine List.findIdx?_eq_none_iff.mpr fun y hy => ?_
  obtain ⟨j, hj⟩ := List.mem_iff_getElem?.mp hy
  rw [hp j y hj]
  rfl
section
variable {K : PySem.W.Frag} {H : Hp} {a : Addr} {c : S7} {ps : List S7} {σ : L2.St} {ws : List Str} {x : Wish}
theorem ev_kept {E : XK} {ta tb : TE} (ha : EvD K ta σ H (LDw K ws)) (hb : EvD K tb σ H x.data) (g : Gw ws) (hne : ws ≠ []) (hx : x.ok) : EvD K (tCall (spKept K) [] E (tCons ta (tCons tb tNil))) σ H (.bool (keeps ws x)) := fun H1 e1 Q q => (ea_cons ha (ea_cons hb ea_nil)) H1 e1 _ fun vs H2 e2 hvs => by
  obtain ⟨v, u, rfl, h1, h2⟩ := hvs.two
  exact ⟨v, u, ws, x, rfl, h1, h2, g, hne, hx, fun H' e3 => q _ H' (e2.trans e3) (.bl _)⟩
theorem seq_if {c : TT} {t u v : TS} {D : Ends} {b : Bool} (hc : EvT c σ H b) (h1 : b = true → ∀ H2, Same H H2 → tSeq t v D σ H2) (h2 : b = false → ∀ H2, Same H H2 → tSeq u v D σ H2) : tSeq (tIfS c t u) v D σ H := hc H (Same.refl H) _ fun H2 e2 => by
  cases b with
  | true => exact iteT (h1 rfl H2 e2)
  | false => exact iteF (h2 rfl H2 e2)
theorem dk_call {sp : Sp} {m : Str} {t : TA} {E : XK} {Q : VK} (hi : σ[0]? = some (some (.ref a))) (hd : DeskAt K H a c ps) (k : t σ H (fun vs H2 => sp (.ref a :: (vs ++ [])) H2 Q E)) (hl : (m == ("held" : Str)) = false := by decide) : tMeth (He.ga K "Desk") m sp [] E (tVar 0) t σ H Q := by
  obtain ⟨dx, hv, h1, _⟩ := hd
  exact ⟨.ref a, hi, a, dx, _, rfl, h1, by simp only [List.lookup, hl], k⟩
end
section
variable {P : Program} {w : World} {K : PySem.W.Frag} {mg : Str → Option Value} {base : Heap}
def spDkI (K : PySem.W.Frag) : Sp := fun vs H Q _ => ∃ a dx v ws, vs = [.ref a, v] ∧ H a = some (.ins (He.ga K "Desk") dx []) ∧ Rp K H v (LDw K ws) ∧ ∀ H', Same (cut H a) H' → DeskAt K H' a (ws, []) [] → Q .non H'
def spBec (K : PySem.W.Frag) : Sp := fun vs H Q _ => ∃ a c ps u v c', vs = [.ref a, u, v] ∧ DeskAt K H a c ps ∧ ps.length ≤ 100 ∧ Rp K H u (LDw K c'.1) ∧ Rp K H v (wsD c'.2) ∧ ∀ H', Same (cut H a) H' → DeskAt K H' a c' (ps ++ [c]) → Q .non H'
def spTurn (K : PySem.W.Frag) : Sp := fun vs H Q E => ∃ a c ps u ws, vs = [.ref a, u] ∧ DeskAt K H a c ps ∧ ps.length ≤ 100 ∧ S7.Ok c ∧ Rp K H u (LDw K ws) ∧ Gw ws ∧ ws ≠ [] ∧ OutOk K H a Q E (firstB ws c.2) (ws, c.2) (ps ++ [c])
def spPut (K : PySem.W.Frag) : Sp := fun vs H Q E => ∃ a c ps z, vs = [.ref a, .str z] ∧ DeskAt K H a c ps ∧ ps.length ≤ 100 ∧ S7.Ok c ∧ Gw (c.1 ++ [z]) ∧ OutOk K H a Q E (firstB (c.1 ++ [z]) c.2) (c.1 ++ [z], c.2) (ps ++ [c])
def spTake (K : PySem.W.Frag) : Sp := fun vs H Q E => ∃ a c ps, ∃ i : Nat, vs = [.ref a, .int i] ∧ DeskAt K H a c ps ∧ ps.length ≤ 100 ∧ S7.Ok c ∧ i < c.1.length ∧
  (c.1.length = 1 → ∀ H', Same H H' → E (.ref (He.ga K "TooFew")) none H') ∧ (c.1.length ≠ 1 → OutOk K H a Q E (firstB (c.1.eraseIdx i) c.2) (c.1.eraseIdx i, c.2) (ps ++ [c]))
def chg (ws : List Str) (i : Nat) (z : Str) : List Str := ws.take i ++ [z] ++ ws.drop (i + 1)
def spChg (K : PySem.W.Frag) : Sp := fun vs H Q E => ∃ a c ps z, ∃ i : Nat, vs = [.ref a, .int i, .str z] ∧ DeskAt K H a c ps ∧ ps.length ≤ 100 ∧ S7.Ok c ∧ i < c.1.length ∧ Gw (chg c.1 i z) ∧ OutOk K H a Q E (firstB (chg c.1 i z) c.2) (chg c.1 i z, c.2) (ps ++ [c])
def spProm (K : PySem.W.Frag) : Sp := fun vs H Q E => ∃ a c ps v x, vs = [.ref a, v] ∧ DeskAt K H a c ps ∧ ps.length ≤ 100 ∧ S7.Ok c ∧ Wish.ok x ∧ Rp K H v x.data ∧ OutOk K H a Q E (if keeps c.1 x then none else some c.2.length) (c.1, c.2 ++ [x]) (ps ++ [c])
def spLift (K : PySem.W.Frag) : Sp := fun vs H Q E => ∃ a c ps v d, vs = [.ref a, v] ∧ DeskAt K H a c ps ∧ ps.length ≤ 100 ∧ S7.Ok c ∧ noDict d = true ∧ Rp K H v d ∧
  (withinD d 0 ((c.2.length : Int) - 1) = false → ∀ H' dd, Same H H' → H' dd = some (.xd [("given", v)]) → E (.ref (He.ga K "InvalidNumber")) (some dd) H') ∧
  (∀ i : Nat, d = .int i → i < c.2.length → ∀ H', Same (cut H a) H' → DeskAt K H' a (c.1, c.2.take i ++ c.2.drop (i + 1)) (ps ++ [c]) → Q .non H')
def spUndo (K : PySem.W.Frag) : Sp := fun vs H Q E => ∃ a c ps, vs = [.ref a] ∧ DeskAt K H a c ps ∧ ps.length ≤ 100 ∧
  (ps = [] → ∀ H', Same H H' → E (.ref (He.ga K "NothingToUndo")) none H') ∧ (∀ qs c', ps = qs ++ [c'] → ∀ H', Same (cut H a) H' → DeskAt K H' a c' qs → Q .non H')

theorem ok_Desk_lots (W : Wr P w K mg base)  : Gt P w K mg base CX0 1 (He.ga K "Desk") "lots" (spDk K (fLots K)) := by
  refine gt_mk (W.getter 2 rfl).1 (W.getter 2 rfl).2 sc_Desk_lots (fun vs H Q E h => ?_) (fun _ _ _ _ _ _ us hl => match us, hl with | [_], _ => rfl) (fun cdv A outer s H vs Q E hr h => ?_)
  · obtain ⟨a, c, ps, rfl, _⟩ := h
    rfl
  · refine ⟨_, PSs.nox (pss_one (ps_ret (pe_ix (ixU (K := K)) (fldU (K := K) (pv 0)) pe_int (fun _ _ => rfl)))), ?_⟩
    obtain ⟨a, c, ps, rfl, hd, q⟩ := h
    have hh : EvD K (tFld K (tVar 0) "held") (start N_Desk_lots [.ref a]) H (heldD K c ps) := ev_held W.cl_Desk W.na_Desk_held rfl hd
    exact (eb_ret (ev_ixT rfl hh ev_int) : EvB K _ _ H _) H (Same.refl _) _ fun v H' e hv => q v H' e hv

theorem ok_Desk_promises (W : Wr P w K mg base)  : Gt P w K mg base CX0 1 (He.ga K "Desk") "promises" (spDk K (fProm)) := by
  refine gt_mk (W.getter 3 rfl).1 (W.getter 3 rfl).2 sc_Desk_promises (fun vs H Q E h => ?_) (fun _ _ _ _ _ _ us hl => match us, hl with | [_], _ => rfl) (fun cdv A outer s H vs Q E hr h => ?_)
  · obtain ⟨a, c, ps, rfl, _⟩ := h
    rfl
  · refine ⟨_, PSs.nox (pss_one (ps_ret (pe_ix (ixU (K := K)) (fldU (K := K) (pv 0)) pe_int (fun _ _ => rfl)))), ?_⟩
    obtain ⟨a, c, ps, rfl, hd, q⟩ := h
    have hh : EvD K (tFld K (tVar 0) "held") (start N_Desk_promises [.ref a]) H (heldD K c ps) := ev_held W.cl_Desk W.na_Desk_held rfl hd
    exact (eb_ret (ev_ixT rfl hh ev_int) : EvB K _ _ H _) H (Same.refl _) _ fun v H' e hv => q v H' e hv

theorem ok_Desk_changes (W : Wr P w K mg base)  : Gt P w K mg base CX0 1 (He.ga K "Desk") "changes" (spDk K (fChan)) := by
  refine gt_mk (W.getter 4 rfl).1 (W.getter 4 rfl).2 sc_Desk_changes (fun vs H Q E h => ?_) (fun _ _ _ _ _ _ us hl => match us, hl with | [_], _ => rfl) (fun cdv A outer s H vs Q E hr h => ?_)
  · obtain ⟨a, c, ps, rfl, _⟩ := h
    rfl
  · refine ⟨_, PSs.nox (pss_one (ps_ret (pe_callB (lenU (K := K)) rfl W.n_len bt_len (pa_cons (pe_ix (ixU (K := K)) (fldU (K := K) (pv 0)) pe_int (fun _ _ => rfl)) pa_nil)))), ?_⟩
    obtain ⟨a, c, ps, rfl, hd, q⟩ := h
    have hh : EvD K (tFld K (tVar 0) "held") (start N_Desk_changes [.ref a]) H (heldD K c ps) := ev_held W.cl_Desk W.na_Desk_held rfl hd
    exact (eb_ret ((ev_lenT (ev_ixT (d := .tuple (ps.map (pairD K))) rfl hh ev_int)).as (by rw [List.length_map]; rfl)) : EvB K _ _ H _) H (Same.refl _) _ fun v H' e hv => q v H' e hv

theorem ok_Desk___init__ (W : Wr P w K mg base) (F_check_lots : Fn P w K mg base CX0 1 "check_lots" ["value"] (spD K (PCkLots (He.ga K "Lots")))) : Ini P w K mg base CX0 2 "Desk" (He.ga K "Desk") ["self", "lots"] (spDkI K) := by
  refine ini_mk W.d_Desk___init__ W.mk_Desk W.g_Desk sc_Desk___init__ (fun vs H Q E h => ?_) (fun _ _ _ _ _ _ us hl => match us, hl with | [_, _], _ => rfl) (fun cdv A outer s H vs Q E hr h => ?_)
  · obtain ⟨a, dx, v, ws, rfl, _⟩ := h
    rfl
  · refine ⟨_, PSs.nox (pss_cons (ps_expr (pe_fn F_check_lots (hr.mono (by decide)) rfl pass0 (pa_cons (pv 1) pa_nil)))
  (pss_one (sFldU (K := K) (pv 0) (pe_tup (pa_cons (pv 1) (pa_cons (pe_tup pa_nil) (pa_cons (pe_tup pa_nil) pa_nil))))))), ?_⟩
    obtain ⟨a, dx, v, ws, rfl, h1, h2, q⟩ := h
    have hck : EvD K (tCall (spD K (PCkLots (He.ga K "Lots"))) [] E0 (tCons (tVar 1) tNil)) (start N_Desk___init__ [.ref a, v]) H .none := ev_call (ea_cons (ev_var rfl h2) ea_nil) ⟨_, _, rfl, rfl⟩
    refine hck H (Same.refl _) _ fun _ H1 e1 _ => ?_
    have ht : EvD K (tTup (tCons (tVar 1) (tCons (tTup tNil) (tCons (tTup tNil) tNil)))) (start N_Desk___init__ [.ref a, v]) H1 (heldD K (ws, []) []) := ev_tup s3 (ea_cons (ev_var rfl (h2.mono e1)) (ea_cons (ev_tup s0 ea_nil) (ea_cons (ev_tup s0 ea_nil) ea_nil)))
    exact sf_desk W.cl_Desk W.na_Desk_held rfl (e1 _ _ h1) (by decide) (fun _ => rfl) ht fun H2 e2 d => q H2 ((cut_mono e1).trans e2) d

theorem ok_Desk_become (W : Wr P w K mg base)  : Mt P w K mg base CX0 1 (He.ga K "Desk") "become" ["self", "lots", "promises"] (spBec K) := by
  refine mt_mk W.d_Desk_become W.m_Desk_become sc_Desk_become (fun vs H Q E h => ?_) (fun _ _ _ _ _ _ us hl => match us, hl with | [_, _, _], _ => rfl) (fun cdv A outer s H vs Q E hr h => ?_)
  · obtain ⟨a, c, ps, u, v, c', rfl, _⟩ := h
    rfl
  · refine ⟨_, PSs.nox (pss_one (sFldU (K := K) (pv 0) (pe_tup (pa_cons (pv 1) (pa_cons (pv 2) (pa_cons (pe_tup (starU (K := K) (pe_ix (ixU (K := K)) (fldU (K := K) (pv 0)) pe_int (fun _ _ => rfl)) (pa_cons (pe_slice (slU (K := K)) (fldU (K := K) (pv 0)) po_none (po_some pe_int)) pa_nil))) pa_nil)))))), ?_⟩
    obtain ⟨a, c, ps, u, v, c', rfl, hd, hps, hu, hv, q⟩ := h
    have hh : EvD K (tFld K (tVar 0) "held") (start N_Desk_become [.ref a, u, v]) H (heldD K c ps) := ev_held W.cl_Desk W.na_Desk_held rfl hd
    have ht : EvD K (tTup (tCons (tVar 1) (tCons (tVar 2) (tCons (tTup (StX.tStar K (tOp (rIx K) (tFld K (tVar 0) "held") (tC (.int 2))) (tCons (tSl (rSlU K) (tFld K (tVar 0) "held") tNoPart (tPart (tC (.int 2)))) tNil))) tNil)))) (start N_Desk_become [.ref a, u, v]) H (heldD K c' (ps ++ [c])) := by
      refine (ev_tup s3 (ea_cons (ev_var rfl hu) (ea_cons (ev_var rfl hv) (ea_cons ((ev_tup (ds := ps.map (pairD K) ++ [pairD K c]) (sz ?_) (ea_starT (ev_ixT rfl hh ev_int) (ea_cons ((ev_slT hh eo_none (eo_some (K := K) ev_int)).as rfl) ea_nil))).as (e := .tuple ((ps ++ [c]).map (pairD K))) ?_) ea_nil))))
      · rw [List.length_append, List.length_map]; show ps.length + 1 ≤ _; omega
      · rw [List.map_append]; rfl
    exact sf_held W.cl_Desk W.na_Desk_held rfl hd ht q

theorem ok_Desk_turn (W : Wr P w K mg base) (G_Desk_promises : Gt P w K mg base CX0 1 (He.ga K "Desk") "promises" (spDk K (fProm))) (F_is_kept : Fn P w K mg base CX0 11 "is_kept" ["lots", "wish"] (spKept K)) (M_Desk_become : Mt P w K mg base CX0 1 (He.ga K "Desk") "become" ["self", "lots", "promises"] (spBec K)) : Mt P w K mg base (L2.CX P w) 12 (He.ga K "Desk") "turn" ["self", "lots"] (spTurn K) := by
  refine mt_mk W.d_Desk_turn W.m_Desk_turn sc_Desk_turn (fun vs H Q E h => ?_) (fun _ _ _ _ _ _ us hl => match us, hl with | [_, _], _ => rfl) (fun cdv A outer s H vs Q E hr h => ?_)
  · obtain ⟨a, c, ps, u, ws, rfl, _⟩ := h
    rfl
  · refine ⟨_,  (pss_cons (ps_for (passes_of rfl) rfl (enU (K := K) rfl W.n_enumerate (pa_cons (pe_gt G_Desk_promises W.cl_Desk (hr.mono (by decide)) pass0 (pv 0)) pa_nil)) (gtupU (K := K) (n := 2) rfl (pgs_cons (nameU (i := 2) sc_Desk_turn.nd) (pgs_cons (nameU (i := 3) sc_Desk_turn.nd) pgs_nil))) (pss_one (ps_if (pt_not (pt_val (pe_fn F_is_kept (hr.mono (by decide)) rfl pass0 (pa_cons (pv 1) (pa_cons (pv 3) pa_nil))))) (pss_one (ps_raise rfl (takes_of rfl rfl rfl rfl) (pmk_x (f := "index") PySem.F.excBase_ArithmeticError PySem.F.store_ArithmeticError (xt_Broken W) (xi_Broken W) xb_Broken W.g_Broken hr (pa_cons (pv 2) pa_nil)))) pss_nil)))
  (pss_one (ps_expr (pe_mt M_Desk_become W.cl_Desk (hr.mono (by decide)) pass0 (pv 0) (pa_cons (pv 1) (pa_cons (pe_gt G_Desk_promises W.cl_Desk (hr.mono (by decide)) pass0 (pv 0)) pa_nil)))))), ?_⟩
    obtain ⟨a, c, ps, u, ws, rfl, hd, hps, hok, hu, g, hne, ho⟩ := h
    let I : Nat → L2.St → Prop := fun i σ' => σ'[0]? = some (some (.ref a)) ∧ σ'[1]? = some (some u) ∧ σ'.length = 4 ∧ ∀ (j : Nat) (x : Wish), j < i → c.2[j]? = some x → keeps ws x = true
    refine tr_seq (P2 := fun _ H' => Q .non H') (R := Q) (tr_enumT (K := K) (Same.refl H) (ev_dk (f := fProm) rfl hd) I ⟨rfl, rfl, rfl, fun j x hj => absurd hj (Nat.not_lt_zero _)⟩ fun i d v σ' H' hdi hI e' hv => ?_) (fun σ' H1 ⟨e1, hI⟩ => ?_) _ (fun _ _ z => z) fun _ _ z => z
    · obtain ⟨I0, I1, I2, I3⟩ := hI
      rw [List.getElem?_map] at hdi
      obtain ⟨x, hx, rfl⟩ := Option.map_eq_some_iff.mp hdi
      have hx1 : ((σ'.set 2 (some (.int (i : Nat)))).set 3 (some v))[1]? = some (some u) := by rw [List.getElem?_set_ne (by decide), List.getElem?_set_ne (by decide)]; exact I1
      have hx0 : ((σ'.set 2 (some (.int (i : Nat)))).set 3 (some v))[0]? = some (some (.ref a)) := by rw [List.getElem?_set_ne (by decide), List.getElem?_set_ne (by decide)]; exact I0
      have hx2 : ((σ'.set 2 (some (.int (i : Nat)))).set 3 (some v))[2]? = some (some (.int (i : Nat))) := by rw [List.getElem?_set_ne (by decide), List.getElem?_set_self (by omega)]
      have hx3 : ((σ'.set 2 (some (.int (i : Nat)))).set 3 (some v))[3]? = some (some v) := List.getElem?_set_self (by rw [List.length_set]; omega)
      refine tr_if (Same.refl _) (et_not (et_val (ev_kept (ev_var hx1 (hu.mono e')) (ev_var hx3 hv) g hne (hok.ok x (List.mem_of_getElem? hx))))) (fun z H2 e2 => ?_) fun z H2 e2 => ?_
      · have z' : keeps ws x = false := by simpa using z
        exact fun D _ _ => ⟨.int (i : Nat), hx2, .int (i : Nat), rfl, fun dd hdd => ho.1 i (firstB_some hx z' I3) _ dd ((e'.trans e2).trans (same_new hdd)) upd_same⟩
      · have z' : keeps ws x = true := by simpa using z
        refine tr_imp tr_next (fun σ2 H3 p => ?_) fun _ _ z => z
        obtain ⟨rfl, rfl⟩ := p
        refine ⟨e2, hx0, hx1, by rw [List.length_set, List.length_set]; exact I2, fun j y hj hy => ?_⟩
        rcases Nat.lt_succ_iff_lt_or_eq.mp hj with hj | rfl
        · exact I3 j y hj hy
        · rw [hx] at hy
          cases hy
          exact z'
    · obtain ⟨I0, I1, I2, I3⟩ := hI
      have hf : firstB ws c.2 = none := firstB_none fun j y hy => I3 j y (by rw [List.length_map]; exact (List.getElem?_eq_some_iff.mp hy).1) hy
      intro D q q2
      refine dk_call I0 (hd.mono e1) ⟨u, I1, ?_⟩
      refine (ev_dk (f := fProm) I0 (hd.mono e1)) H1 (Same.refl _) _ fun v H2 e2 hv => ?_
      exact ⟨a, c, ps, u, v, (ws, c.2), rfl, hd.mono (e1.trans e2), hps, hu.mono (e1.trans e2), hv, fun H3 e3 d => q _ _ (ho.2 hf H3 ((cut_mono (e1.trans e2)).trans e3) d)⟩

theorem ok_Desk_put (W : Wr P w K mg base) (G_Desk_lots : Gt P w K mg base CX0 1 (He.ga K "Desk") "lots" (spDk K (fLots K))) (M_Lots_added : Mt P w K mg base CX0 6 (He.ga K "Lots") "added" ["self", "lot"] (spD K (PAdded K))) (M_Desk_turn : Mt P w K mg base (L2.CX P w) 12 (He.ga K "Desk") "turn" ["self", "lots"] (spTurn K)) : Mt P w K mg base (L2.CX P w) 13 (He.ga K "Desk") "put" ["self", "lot"] (spPut K) := by
  refine mt_mk W.d_Desk_put W.m_Desk_put sc_Desk_put (fun vs H Q E h => ?_) (fun _ _ _ _ _ _ us hl => match us, hl with | [_, _], _ => rfl) (fun cdv A outer s H vs Q E hr h => ?_)
  · obtain ⟨a, c, ps, z, rfl, _⟩ := h
    rfl
  · refine ⟨_,  (pss_one (ps_expr (pe_mt M_Desk_turn W.cl_Desk (hr.mono (by decide)) (passes_call (takes_of rfl rfl rfl rfl) (fun _ _ _ _ h => h)) (pv 0) (pa_cons (pe_mt M_Lots_added W.cl_Lots (hr.mono (by decide)) pass0 (pe_gt G_Desk_lots W.cl_Desk (hr.mono (by decide)) pass0 (pv 0)) (pa_cons (pv 1) pa_nil)) pa_nil)))), ?_⟩
    obtain ⟨a, c, ps, z, rfl, hd, hps, hok, g, ho⟩ := h
    refine dk_call rfl hd ?_
    refine (ev_meth (P := PAdded K) (by decide) (ev_dk (f := fLots K) rfl hd) (ea_cons (ev_var rfl (.str z)) ea_nil) ⟨c.1, z, rfl, g, rfl⟩) H (Same.refl _) _ fun v H1 e1 hv => ?_
    exact ⟨a, c, ps, v, _, rfl, hd.mono e1, hps, hok, hv, g, by simp, ho.mono e1⟩

theorem ok_Desk_take (W : Wr P w K mg base) (G_Desk_lots : Gt P w K mg base CX0 1 (He.ga K "Desk") "lots" (spDk K (fLots K))) (F_check_index : Fn P w K mg base CX0 3 "check_index" ["lots", "index"] (spD K (PCkIndex (He.ga K "Lots")))) (M_Lots_without : Mt P w K mg base (L2.CX P w) 6 (He.ga K "Lots") "without" ["self", "indexes"] (spWithout K)) (M_Desk_turn : Mt P w K mg base (L2.CX P w) 12 (He.ga K "Desk") "turn" ["self", "lots"] (spTurn K)) : Mt P w K mg base (L2.CX P w) 13 (He.ga K "Desk") "take" ["self", "index"] (spTake K) := by
  refine mt_mk W.d_Desk_take W.m_Desk_take sc_Desk_take (fun vs H Q E h => ?_) (fun _ _ _ _ _ _ us hl => match us, hl with | [_, _], _ => rfl) (fun cdv A outer s H vs Q E hr h => ?_)
  · obtain ⟨a, c, ps, i, rfl, _⟩ := h
    rfl
  · refine ⟨_,  (pss_cons (ps_expr (pe_fn F_check_index (hr.mono (by decide)) rfl pass0 (pa_cons (pe_gt G_Desk_lots W.cl_Desk (hr.mono (by decide)) pass0 (pv 0)) (pa_cons (pv 1) pa_nil))))
  (pss_one (ps_expr (pe_mt M_Desk_turn W.cl_Desk (hr.mono (by decide)) (passes_call (takes_of rfl rfl rfl rfl) (fun _ _ _ _ h => h)) (pv 0) (pa_cons (pe_mt M_Lots_without W.cl_Lots (hr.mono (by decide)) (passes_call (takes_of rfl rfl rfl rfl) (fun _ _ _ _ h => h)) (pe_gt G_Desk_lots W.cl_Desk (hr.mono (by decide)) pass0 (pv 0)) (pa_cons (pe_tup (pa_cons (pv 1) pa_nil)) pa_nil)) pa_nil))))), ?_⟩
    obtain ⟨a, c, ps, i, rfl, hd, hps, hok, hi, he, ho⟩ := h
    have hle := hok.g.le
    have hck : EvD K (tCall (spD K (PCkIndex (He.ga K "Lots"))) [] E0 (tCons (tProp (He.ga K "Desk") (spDk K (fLots K)) [] E0 (tVar 0)) (tCons (tVar 1) tNil))) (start N_Desk_take [.ref a, .int i]) H .none :=
      ev_call (ea_cons (ev_dk rfl hd) (ea_cons (ev_var rfl (.int _)) ea_nil)) ⟨_, _, i, rfl, by rw [List.length_map]; omega, by omega, by rw [List.length_map]; omega, rfl⟩
    refine hck H (Same.refl _) _ fun _ H1 e1 _ => ?_
    refine dk_call rfl (hd.mono e1) ?_
    refine (ev_dk (f := fLots K) rfl (hd.mono e1)) H1 (Same.refl _) _ fun v H2 e2 hv => ?_
    have hv' : Rp K H2 v (LDw K c.1) := hv
    cases hv' with
    | lots h1 h2 h3 =>
      refine ⟨_, _, _, rfl, h1, rfl, ?_⟩
      refine (ea_cons (K := K) (ev_tup s1 (ea_cons (ev_var (d := .int i) rfl (.int _)) ea_nil)) ea_nil) H2 (Same.refl _) _ fun vs H3 e3 hvs => ?_
      obtain ⟨w2, rfl, hw⟩ := hvs.one
      refine ⟨_, w2, c.1, i, rfl, hv.mono e3, hw, hok.g, hi, fun h1 H' e' => he h1 H' (((e1.trans e2).trans e3).trans e'), fun h1 r H' e' hr => ?_⟩
      have e4 := ((e1.trans e2).trans e3).trans e'
      refine ⟨a, c, ps, r, _, rfl, hd.mono e4, hps, hok, hr, hok.g.erase i, fun z => ?_, (ho h1).mono e4⟩
      have hl := List.length_eraseIdx_of_lt hi
      rw [z] at hl
      simp at hl
      omega

theorem ok_Desk_change (W : Wr P w K mg base) (G_Desk_lots : Gt P w K mg base CX0 1 (He.ga K "Desk") "lots" (spDk K (fLots K))) (G_Lots_lots : Gt P w K mg base CX0 1 (He.ga K "Lots") "lots" (spD K (PWords (He.ga K "Lots")))) (F_check_index : Fn P w K mg base CX0 3 "check_index" ["lots", "index"] (spD K (PCkIndex (He.ga K "Lots")))) (F_check_lot : Fn P w K mg base CX0 3 "check_lot" ["value"] (spD K PCkLot)) (F_check_many : Fn P w K mg base CX0 2 "check_many" ["words"] (spD K PCkMany)) (I_Lots : Ini P w K mg base CX0 4 "Lots" (He.ga K "Lots") ["self", "lots"] (spInit (He.ga K "Lots") K PInit)) (M_Desk_turn : Mt P w K mg base (L2.CX P w) 12 (He.ga K "Desk") "turn" ["self", "lots"] (spTurn K)) : Mt P w K mg base (L2.CX P w) 13 (He.ga K "Desk") "change" ["self", "index", "lot"] (spChg K) := by
  refine mt_mk W.d_Desk_change W.m_Desk_change sc_Desk_change (fun vs H Q E h => ?_) (fun _ _ _ _ _ _ us hl => match us, hl with | [_, _, _], _ => rfl) (fun cdv A outer s H vs Q E hr h => ?_)
  · obtain ⟨a, c, ps, z, i, rfl, _⟩ := h
    rfl
  · refine ⟨_,  (pss_cons (ps_expr (pe_fn F_check_index (hr.mono (by decide)) rfl pass0 (pa_cons (pe_gt G_Desk_lots W.cl_Desk (hr.mono (by decide)) pass0 (pv 0)) (pa_cons (pv 1) pa_nil))))
  (pss_cons (ps_expr (pe_fn F_check_lot (hr.mono (by decide)) rfl pass0 (pa_cons (pv 2) pa_nil)))
  (pss_cons (setU (i := 3) sc_Desk_change.nd (pe_op (addU (K := K)) (pe_op (addU (K := K)) (pe_slice (slU (K := K)) (pe_gt G_Lots_lots W.cl_Lots (hr.mono (by decide)) pass0 (pe_gt G_Desk_lots W.cl_Desk (hr.mono (by decide)) pass0 (pv 0))) po_none (po_some (pv 1))) (pe_tup (pa_cons (pv 2) pa_nil))) (pe_slice (slU (K := K)) (pe_gt G_Lots_lots W.cl_Lots (hr.mono (by decide)) pass0 (pe_gt G_Desk_lots W.cl_Desk (hr.mono (by decide)) pass0 (pv 0))) (po_some (pe_op (addU (K := K)) (pv 1) pe_int)) po_none)))
  (pss_cons (ps_expr (pe_fn F_check_many (hr.mono (by decide)) rfl pass0 (pa_cons (pv 3) pa_nil)))
  (pss_one (ps_expr (pe_mt M_Desk_turn W.cl_Desk (hr.mono (by decide)) (passes_call (takes_of rfl rfl rfl rfl) (fun _ _ _ _ h => h)) (pv 0) (pa_cons (pe_ini I_Lots (hr.mono (by decide)) rfl pass0 (pa_cons (pv 3) pa_nil)) pa_nil)))))))), ?_⟩
    obtain ⟨a, c, ps, z, i, rfl, hd, hps, hok, hi, g, ho⟩ := h
    have hle := hok.g.le
    have hle2 := g.le
    have hck : EvD K (tCall (spD K (PCkIndex (He.ga K "Lots"))) [] E0 (tCons (tProp (He.ga K "Desk") (spDk K (fLots K)) [] E0 (tVar 0)) (tCons (tVar 1) tNil))) (start N_Desk_change [.ref a, .int i, .str z]) H .none :=
      ev_call (ea_cons (ev_dk rfl hd) (ea_cons (ev_var rfl (.int _)) ea_nil)) ⟨_, _, i, rfl, by rw [List.length_map]; omega, by omega, by rw [List.length_map]; omega, rfl⟩
    refine hck H (Same.refl _) _ fun _ H1 e1 _ => ?_
    have hcl : EvD K (tCall (spD K PCkLot) [] E0 (tCons (tVar 2) tNil)) (start N_Desk_change [.ref a, .int i, .str z]) H1 .none := ev_call (ea_cons (ev_var rfl (.str z)) ea_nil) ⟨z, rfl, g.lot z (by simp [chg]), rfl⟩
    refine hcl H1 (Same.refl _) _ fun _ H2 e2 _ => ?_
    have hd2 := hd.mono (e1.trans e2)
    have hL : EvD K (tProp (He.ga K "Lots") (spD K (PWords (He.ga K "Lots"))) [] E0 (tProp (He.ga K "Desk") (spDk K (fLots K)) [] E0 (tVar 0))) (start N_Desk_change [.ref a, .int i, .str z]) H2 (tws c.1) := ev_prop (P := PWords (He.ga K "Lots")) (ev_dk (f := fLots K) rfl hd2) ⟨_, _, rfl, rfl⟩
    have hi1 : EvD K (tVar 1) (start N_Desk_change [.ref a, .int i, .str z]) H2 (.int i) := ev_var rfl (.int _)
    have hw := ev_catT (K := K) (by rw [sizeLine_eq, List.length_append]; simp; omega) (ev_catT (K := K) (es := [.str z]) (by rw [sizeLine_eq]; simp; omega) ((ev_slT hL eo_none (eo_some hi1)).as (e := tws (c.1.take i)) (by rw [cutD_take _ (by rw [List.length_map]; omega), ← List.map_take])) (ev_tup s1 (ea_cons (ev_var (i := 2) rfl (.str z)) ea_nil)))
      ((ev_slT hL (eo_some ((ev_addI hi1 (ev_int (i := 1))).as (e := .int ((i + 1 : Nat) : Int)) (by congr 1))) eo_none).as (e := tws (c.1.drop (i + 1))) (by rw [cutD_drop _ (by rw [List.length_map]; omega), ← List.map_drop]))
    refine (hw.as (e := tws (chg c.1 i z)) (by simp [chg, tws])) H2 (Same.refl _) _ fun y H3 e3 hy => ?_
    have hcm : EvD K (tCall (spD K PCkMany) [] E0 (tCons (tVar 3) tNil)) ((start N_Desk_change [.ref a, .int i, .str z]).set 3 (some y)) H3 .none := ev_call (ea_cons (ev_var rfl hy) ea_nil) ⟨_, rfl, g, rfl⟩
    refine hcm H3 (Same.refl _) _ fun _ H4 e4 _ => ?_
    have e5 := ((e1.trans e2).trans e3).trans e4
    have hne : chg c.1 i z ≠ [] := by simp [chg]
    refine dk_call rfl (hd.mono e5) ?_
    refine (ev_make (P := PInit) (ea_cons (ev_var rfl (hy.mono e4)) ea_nil) ⟨chg c.1 i z, rfl, g, hne, rfl⟩) H4 (Same.refl _) _ fun v H6 e6 hv => ?_
    exact ⟨a, c, ps, v, _, rfl, hd.mono (e5.trans e6), hps, hok, hv, g, hne, ho.mono (e5.trans e6)⟩

theorem ok_Desk_promise (W : Wr P w K mg base) (G_Desk_lots : Gt P w K mg base CX0 1 (He.ga K "Desk") "lots" (spDk K (fLots K))) (G_Desk_promises : Gt P w K mg base CX0 1 (He.ga K "Desk") "promises" (spDk K (fProm))) (F_check_wish : Fn P w K mg base CX0 4 "check_wish" ["value"] (spD K PCkWish)) (F_is_kept : Fn P w K mg base CX0 11 "is_kept" ["lots", "wish"] (spKept K)) (M_Desk_become : Mt P w K mg base CX0 1 (He.ga K "Desk") "become" ["self", "lots", "promises"] (spBec K)) : Mt P w K mg base (L2.CX P w) 12 (He.ga K "Desk") "promise" ["self", "wish"] (spProm K) := by
  refine mt_mk W.d_Desk_promise W.m_Desk_promise sc_Desk_promise (fun vs H Q E h => ?_) (fun _ _ _ _ _ _ us hl => match us, hl with | [_, _], _ => rfl) (fun cdv A outer s H vs Q E hr h => ?_)
  · obtain ⟨a, c, ps, v, x, rfl, _⟩ := h
    rfl
  · refine ⟨_,  (pss_cons (ps_expr (pe_fn F_check_wish (hr.mono (by decide)) rfl pass0 (pa_cons (pv 1) pa_nil)))
  (pss_cons (ps_if (pt_not (pt_val (pe_fn F_is_kept (hr.mono (by decide)) rfl pass0 (pa_cons (pe_gt G_Desk_lots W.cl_Desk (hr.mono (by decide)) pass0 (pv 0)) (pa_cons (pv 1) pa_nil))))) (pss_one (ps_raise rfl (takes_of rfl rfl rfl rfl) (pmk_x (f := "index") PySem.F.excBase_ArithmeticError PySem.F.store_ArithmeticError (xt_Broken W) (xi_Broken W) xb_Broken W.g_Broken hr (pa_cons (pe_callB (lenU (K := K)) rfl W.n_len bt_len (pa_cons (pe_gt G_Desk_promises W.cl_Desk (hr.mono (by decide)) pass0 (pv 0)) pa_nil)) pa_nil)))) pss_nil)
  (pss_one (ps_expr (pe_mt M_Desk_become W.cl_Desk (hr.mono (by decide)) pass0 (pv 0) (pa_cons (pe_gt G_Desk_lots W.cl_Desk (hr.mono (by decide)) pass0 (pv 0)) (pa_cons (pe_tup (starU (K := K) (pe_gt G_Desk_promises W.cl_Desk (hr.mono (by decide)) pass0 (pv 0)) (pa_cons (pv 1) pa_nil))) pa_nil))))))), ?_⟩
    obtain ⟨a, c, ps, v, x, rfl, hd, hps, hok, hx, hv, ho⟩ := h
    have hcw : EvD K (tCall (spD K PCkWish) [] E0 (tCons (tVar 1) tNil)) (start N_Desk_promise [.ref a, v]) H .none := ev_call (ea_cons (ev_var rfl hv) ea_nil) ⟨x, rfl, hx, rfl⟩
    refine hcw H (Same.refl _) _ fun _ H1 e1 _ => ?_
    have ht : EvT (tNot (tB (tCall (spKept K) [] E0 (tCons (tProp (He.ga K "Desk") (spDk K (fLots K)) [] E0 (tVar 0)) (tCons (tVar 1) tNil))))) (start N_Desk_promise [.ref a, v]) H1 (!keeps c.1 x) := et_not (et_val (ev_kept (ev_dk (f := fLots K) rfl (hd.mono e1)) (ev_var rfl (hv.mono e1)) hok.g hok.ne hx))
    dsimp only
    refine seq_if ht (fun hk H2 e2 => ?_) fun hk H2 e2 => ?_
    · replace hk : keeps c.1 x = false := by simpa using hk
      have hlen : EvD K (tCB (rLen K) (tCons (tProp (He.ga K "Desk") (spDk K fProm) [] E0 (tVar 0)) tNil)) (start N_Desk_promise [.ref a, v]) H2 (.int c.2.length) := (ev_lenT (ds := c.2.map Wish.data) (ev_dk (f := fProm) rfl (hd.mono (e1.trans e2)))).as (by rw [List.length_map])
      refine hlen H2 (Same.refl _) _ fun y H3 e3 hy => ?_
      cases hy
      exact ⟨_, rfl, fun dd hdd => ho.1 c.2.length (by rw [hk]; rfl) _ dd (((e1.trans e2).trans e3).trans (same_new hdd)) upd_same⟩
    · replace hk : keeps c.1 x = true := by simpa using hk
      refine dk_call rfl (hd.mono (e1.trans e2)) ?_
      have hle := hok.le
      refine (ea_cons (ev_dk (f := fLots K) rfl (hd.mono (e1.trans e2))) (ea_cons (ev_tup (ds := c.2.map Wish.data ++ [x.data]) (sz (by rw [List.length_append, List.length_map]; show c.2.length + 1 ≤ _; omega)) (ea_starT (ev_dk (f := fProm) rfl (hd.mono (e1.trans e2))) (ea_cons (ev_var rfl (hv.mono (e1.trans e2))) ea_nil))) ea_nil)) H2 (Same.refl _) _ fun vs H3 e3 hvs => ?_
      obtain ⟨u1, u2, rfl, h1, h2⟩ := hvs.two
      have e4 := (e1.trans e2).trans e3
      refine ⟨a, c, ps, u1, u2, (c.1, c.2 ++ [x]), rfl, hd.mono e4, hps, h1, ?_, fun H' e' d => (ho.mono e4).2 (by rw [hk]; rfl) H' e' d⟩
      show Rp K H3 u2 (.tuple ((c.2 ++ [x]).map Wish.data))
      rw [List.map_append]
      exact h2

theorem ok_Desk_lift (W : Wr P w K mg base) (G_Desk_lots : Gt P w K mg base CX0 1 (He.ga K "Desk") "lots" (spDk K (fLots K))) (G_Desk_promises : Gt P w K mg base CX0 1 (He.ga K "Desk") "promises" (spDk K (fProm))) (F_is_within : Fn P w K mg base CX0 2 "is_within" ["value", "least", "most"] (spD K PWithin)) (M_Desk_become : Mt P w K mg base CX0 1 (He.ga K "Desk") "become" ["self", "lots", "promises"] (spBec K)) : Mt P w K mg base (L2.CX P w) 4 (He.ga K "Desk") "lift" ["self", "index"] (spLift K) := by
  refine mt_mk W.d_Desk_lift W.m_Desk_lift sc_Desk_lift (fun vs H Q E h => ?_) (fun _ _ _ _ _ _ us hl => match us, hl with | [_, _], _ => rfl) (fun cdv A outer s H vs Q E hr h => ?_)
  · obtain ⟨a, c, ps, v, d, rfl, _⟩ := h
    rfl
  · refine ⟨_,  (pss_cons (ps_if (pt_not (pt_val (pe_fn F_is_within (hr.mono (by decide)) rfl pass0 (pa_cons (pv 1) (pa_cons pe_int (pa_cons (pe_op op_sub (pe_callB (lenU (K := K)) rfl W.n_len bt_len (pa_cons (pe_gt G_Desk_promises W.cl_Desk (hr.mono (by decide)) pass0 (pv 0)) pa_nil)) pe_int) pa_nil)))))) (pss_one (ps_raise rfl (takes_of rfl rfl rfl rfl) (pmk_x (f := "given") PySem.F.excBase_ValueError PySem.F.store_ValueError (xt_InvalidNumber W) (xi_InvalidNumber W) xb_InvalidNumber W.g_InvalidNumber hr (pa_cons (pv 1) pa_nil)))) pss_nil)
  (pss_one (ps_expr (pe_mt M_Desk_become W.cl_Desk (hr.mono (by decide)) pass0 (pv 0) (pa_cons (pe_gt G_Desk_lots W.cl_Desk (hr.mono (by decide)) pass0 (pv 0)) (pa_cons (pe_op (addU (K := K)) (pe_slice (slU (K := K)) (pe_gt G_Desk_promises W.cl_Desk (hr.mono (by decide)) pass0 (pv 0)) po_none (po_some (pv 1))) (pe_slice (slU (K := K)) (pe_gt G_Desk_promises W.cl_Desk (hr.mono (by decide)) pass0 (pv 0)) (po_some (pe_op (addU (K := K)) (pv 1) pe_int)) po_none)) pa_nil)))))), ?_⟩
    obtain ⟨a, c, ps, v, d, rfl, hd, hps, hok, hn, hv, he, ho⟩ := h
    have hP : ∀ {H' : Hp}, Same H H' → EvD K (tProp (He.ga K "Desk") (spDk K fProm) [] E0 (tVar 0)) (start N_Desk_lift [.ref a, v]) H' (.tuple (c.2.map Wish.data)) := fun e => ev_dk (f := fProm) rfl (hd.mono e)
    have ht : EvT (tNot (tB (tCall (spD K PWithin) [] E0 (tCons (tVar 1) (tCons (tC (.int 0)) (tCons (tOp (rI0 fun i j => .int (i - j)) (tCB (rLen K) (tCons (tProp (He.ga K "Desk") (spDk K fProm) [] E0 (tVar 0)) tNil)) (tC (.int 1))) tNil)))))) (start N_Desk_lift [.ref a, v]) H (!withinD d 0 ((c.2.length : Int) - 1)) :=
      et_not (et_val (ev_call (P := PWithin) (ea_cons (ev_var rfl hv) (ea_cons ev_int (ea_cons (ev_subI ((ev_lenT (hP (Same.refl _))).as (e := .int c.2.length) (by rw [List.length_map])) ev_int) ea_nil))) ⟨d, 0, _, rfl, hn, rfl⟩))
    refine seq_if ht (fun hk H1 e1 => ?_) fun hk H1 e1 => ?_
    · replace hk : withinD d 0 ((c.2.length : Int) - 1) = false := by simpa using hk
      exact ⟨v, rfl, _, rfl, fun dd hdd => he hk _ dd (e1.trans (same_new hdd)) upd_same⟩
    · replace hk : withinD d 0 ((c.2.length : Int) - 1) = true := by simpa using hk
      have hle := hok.le
      obtain ⟨i, rfl, hi⟩ : ∃ i : Nat, d = .int i ∧ i < c.2.length := by
        cases d with
        | int j =>
          have hk' : (decide (0 ≤ j) && decide (j ≤ (c.2.length : Int) - 1)) = true := hk
          rw [Bool.and_eq_true] at hk'
          have k1 := of_decide_eq_true hk'.1
          have k2 := of_decide_eq_true hk'.2
          exact ⟨j.toNat, by congr 1; omega, by omega⟩
        | _ => cases hk
      refine dk_call rfl (hd.mono e1) ?_
      have hi1 : EvD K (tVar 1) (start N_Desk_lift [.ref a, v]) H1 (.int i) := ev_var rfl (hv.mono e1)
      have hw := ev_catT (K := K) (by rw [sizeLine_eq, List.length_map, List.length_map, List.length_take, List.length_drop]; omega) ((ev_slT (hP e1) eo_none (eo_some hi1)).as (e := .tuple ((c.2.take i).map Wish.data)) (by rw [cutD_take _ (by rw [List.length_map]; omega), ← List.map_take]))
        ((ev_slT (hP e1) (eo_some ((ev_addI hi1 (ev_int (i := 1))).as (e := .int ((i + 1 : Nat) : Int)) (by congr 1))) eo_none).as (e := .tuple ((c.2.drop (i + 1)).map Wish.data)) (by rw [cutD_drop _ (by rw [List.length_map]; omega), ← List.map_drop]))
      refine (ea_cons (ev_dk (f := fLots K) rfl (hd.mono e1)) (ea_cons hw ea_nil)) H1 (Same.refl _) _ fun vs H3 e3 hvs => ?_
      obtain ⟨u1, u2, rfl, h1, h2⟩ := hvs.two
      refine ⟨a, c, ps, u1, u2, (c.1, c.2.take i ++ c.2.drop (i + 1)), rfl, hd.mono (e1.trans e3), hps, h1, ?_, fun H' e' dd => ho i rfl hi H' ((cut_mono (e1.trans e3)).trans e') dd⟩
      show Rp K H3 u2 (.tuple ((c.2.take i ++ c.2.drop (i + 1)).map Wish.data))
      rw [List.map_append]
      exact h2

theorem ok_Desk_undo (W : Wr P w K mg base)  : Mt P w K mg base (L2.CX P w) 2 (He.ga K "Desk") "undo" ["self"] (spUndo K) := by
  refine mt_mk W.d_Desk_undo W.m_Desk_undo sc_Desk_undo (fun vs H Q E h => ?_) (fun _ _ _ _ _ _ us hl => match us, hl with | [_], _ => rfl) (fun cdv A outer s H vs Q E hr h => ?_)
  · obtain ⟨a, c, ps, rfl, _⟩ := h
    rfl
  · refine ⟨_,  (pss_cons (setU (i := 1) sc_Desk_undo.nd (pe_ix (ixU (K := K)) (fldU (K := K) (pv 0)) pe_int (fun _ _ => rfl)))
  (pss_cons (ps_if (pt_cmpR (eqT0 (K := K) (Nat.lt_of_le_of_lt (Nat.le_add_right _ 64) hr.units)) (pv 1) (pe_tup pa_nil) (nomark _)) (pss_one (ps_raise rfl (takes_of rfl rfl rfl rfl) (pmk_n PySem.F.excBase_ArithmeticError (xn_NothingToUndo W).ex W.g_NothingToUndo (xn_NothingToUndo W).kC (raises_own (xn_NothingToUndo W).eC (xn_NothingToUndo W).tC)))) pss_nil)
  (pss_one (sFldU (K := K) (pv 0) (pe_tup (starU (K := K) (pe_ix (ixU (K := K)) (pv 1) (pe_un un_neg pe_int) (fun _ _ => rfl)) (pa_cons (pe_slice (slU (K := K)) (pv 1) po_none (po_some (pe_un un_neg pe_int))) pa_nil))))))), ?_⟩
    obtain ⟨a, c, ps, rfl, hd, hps, he, ho⟩ := h
    have hh : EvD K (tFld K (tVar 0) "held") (start N_Desk_undo [.ref a]) H (heldD K c ps) := ev_held W.cl_Desk W.na_Desk_held rfl hd
    have h2 : EvD K (tOp (rIx K) (tFld K (tVar 0) "held") (tC (.int 2))) (start N_Desk_undo [.ref a]) H (.tuple (ps.map (pairD K))) := ev_ixT rfl hh ev_int
    refine h2 H (Same.refl _) _ fun v H1 e1 hv => ?_
    have ht : EvT (tTest (tOp (rEqT0 K) (tVar 1) (tTup tNil))) ((start N_Desk_undo [.ref a]).set 1 (some v)) H1 (decide ((ps.map (pairD K)).length = 0)) := et_test (ev_eqT0 (ev_var rfl hv) (ev_tup s0 ea_nil))
    refine ht H1 (Same.refl _) _ fun H2 e2 => ?_
    rcases List.eq_nil_or_concat ps with rfl | ⟨qs, c', rfl⟩
    · exact iteT (he rfl H2 (e1.trans e2))
    · rw [decide_eq_false (by simp)]
      refine iteF ?_
      have hV : EvD K (tVar 1) ((start N_Desk_undo [.ref a]).set 1 (some v)) H2 (.tuple ((qs ++ [c']).map (pairD K))) := ev_var rfl (by rw [List.concat_eq_append] at hv; exact hv.mono e2)
      have hlast : L2.atI ((qs ++ [c']).map (pairD K)) (-1) = some (pairD K c') := by
        unfold L2.atI
        rw [List.map_append, List.length_append, List.length_map]
        unfold L2.ixN
        have e : ((-1 : Int) + ((qs.length : Int) + 1)).toNat = (qs.map (pairD K)).length := by rw [List.length_map]; omega
        have e1 : (1 : Int) ≤ (qs.length : Int) + 1 := by omega
        simp [e1]
        rw [e]
        simp
      have hcut : cutD ((qs ++ [c']).map (pairD K)) none (some (-1)) = qs.map (pairD K) := by
        unfold cutD HT.sIx
        simp
        have e : ((-1 : Int) + ((qs.length : Int) + 1)).toNat = (qs.map (pairD K)).length := by rw [List.length_map]; omega
        rw [e, List.take_left']
        rfl
      have ht2 := ev_tup (K := K) (ds := [LDw K c'.1, wsD c'.2, .tuple (qs.map (pairD K))]) s3 (ea_starT (ds := [LDw K c'.1, wsD c'.2]) (ev_ixT hlast hV (ev_negI (ev_int (i := 1)))) (ea_cons ((ev_slT hV eo_none (eo_some (K := K) (ev_negI (ev_int (i := 1))))).as (by rw [hcut])) ea_nil))
      exact sf_held W.cl_Desk W.na_Desk_held rfl (hd.mono (e1.trans e2)) ht2 fun H3 e3 d => ho qs c' (by rw [List.concat_eq_append]) H3 ((cut_mono (e1.trans e2)).trans e3) d

end
end K7

set_option Elab.async false
set_option linter.all false
set_option maxRecDepth 100000
set_option maxHeartbeats 4000000
namespace K7
open PySem PySem.Spec PyProof.Rows L2
section
variable {K : PySem.W.Frag} {σ : L2.St} {H : Hp} {te : TE} {u : TS} {d e r : PyData}
/-- a pair of names is stored -/
theorem eb_setP {k l : Nat} (h : EvD K te σ H (.tuple [d, e])) (hu : ∀ v w H', Same H H' → Rp K H' v d → Rp K H' w e → EvB K u ((σ.set k (some v)).set l (some w)) H' r) : EvB K (tSeq (tAsg te (gTup K 2 (gCons (gName k) (gCons (gName l) gNil)))) u) σ H r := fun H1 e1 D q =>
  h H1 e1 _ fun v H2 e2 hv => by
    cases hv with
    | tup hs hr =>
      obtain ⟨x, y, rfl, hx, hy⟩ := hr.two
      exact ⟨_, _, rfl, hs, rfl, _, _, rfl, _, _, rfl, rfl, hu x y H2 (e1.trans e2) hx hy H2 (Same.refl _) D fun z H3 e3 hz => q z H3 (e2.trans e3) hz⟩
theorem ev_niLS {ta tb : TE} {x : Str} {ws : List Str} (ha : EvD K ta σ H (.str x)) (hb : EvD K tb σ H (.list (ws.map .str))) : EvD K (tOp (rNiU K) ta tb) σ H (.bool (!decide (x ∈ ws))) :=
  ev_op2 ha hb fun v w H1 e1 hv hw Q q => by
    cases hv
    cases hw with
    | lst hs hr =>
      have e := hr.strs
      subst e
      refine .inr ⟨_, _, rfl, .inl (SqL.of hs), rfl, flat_strs ws, ?_⟩
      rw [if_pos rfl, inV_strs]
      exact q _ H1 (Same.refl H1) (.bl _)
end
/-! ### deeds -/
inductive Deed where
  | undo
  | lift (d : PyData)
  | promise (x : Wish)
  | take (i : Nat)
  | change (i : Nat) (z : Str)
  | put (z : Str)
def Deed.data : Deed → PyData
  | .undo => .tuple [.str "undo"]
  | .lift d => .tuple [.str "lift", d]
  | .promise x => .tuple [.str "promise", x.data]
  | .take i => .tuple [.str "take", .int i]
  | .change i z => .tuple [.str "change", .int i, .str z]
  | .put z => .tuple [.str "put", .str z]
def gave : PyData := .tuple [.str "gave", .none]
def brkD (ws : List Str) (l : List Wish) : PyData := match firstB ws l with
  | some i => .tuple [.str "broken", .int i]
  | none => .none
/-- lots that become others, if all promises hold -/
def fin (c : S7) (ps : List S7) (ws : List Str) : S7 × List S7 × PyData := match firstB ws c.2 with
  | some i => (c, ps, .tuple [.str "broken", .int i])
  | none => ((ws, c.2), ps ++ [c], gave)
def toI : PyData → Nat
  | .int i => i.toNat
  | _ => 0
def step (c : S7) (ps : List S7) : Deed → S7 × List S7 × PyData
  | .undo => match ps.getLast? with
    | some c' => (c', ps.dropLast, gave)
    | none => (c, ps, .tuple [.str "undo", .none])
  | .lift d => if withinD d 0 ((c.2.length : Int) - 1) then ((c.1, c.2.take (toI d) ++ c.2.drop (toI d + 1)), ps ++ [c], gave) else (c, ps, .tuple [.str "number", d])
  | .promise x => if keeps c.1 x then ((c.1, c.2 ++ [x]), ps ++ [c], gave) else (c, ps, .tuple [.str "broken", .int c.2.length])
  | .take i => if c.1.length = 1 then (c, ps, .tuple [.str "few", .none]) else fin c ps (c.1.eraseIdx i)
  | .change i z => fin c ps (chg c.1 i z)
  | .put z => fin c ps (c.1 ++ [z])
def Deed.ok (c : S7) : Deed → Prop
  | .undo => True
  | .lift d => noDict d = true
  | .promise x => x.ok
  | .take i => i < c.1.length
  | .change i z => i < c.1.length ∧ Gw (chg c.1 i z)
  | .put z => Gw (c.1 ++ [z])
/-- a stand: lots and promises -/
def stD (c : S7) : PyData := .tuple [tws c.1, wsD c.2]
def stsD (l : List S7) : PyData := .list (l.map stD)
section
variable {P : Program} {w : World} {K : PySem.W.Frag} {mg : Str → Option Value} {base : Heap}
def PLettersOf : List PyData → PyData → Prop := fun ds r => ∃ ws, ds = [tws ws] ∧ Gw ws ∧ r = .str (thg ws)
theorem ev_chainN {σ : L2.St} {H : Hp} {ta tb tc : TE} {i j k : Int} (ha : EvD K ta σ H (.int i)) (hb : EvD K tb σ H (.int j)) (hc : EvD K tc σ H (.int k)) :
    EvD K (tChain (rI0 fun i j => .bl (decide (i ≤ j))) (rI0 fun i j => .bl (decide (i ≤ j))) ta tb tc) σ H (.bool (decide (i ≤ j) && decide (j ≤ k))) := ev_chainI (p := fun i j => decide (i ≤ j)) (q := fun i j => decide (i ≤ j)) ha hb hc

theorem ok__law_is_lot (W : Wr P w K mg base)  : Fn P w K mg base CX0 1 "_law_is_lot" ["_law_value"] (spD K PLot) := by
  refine fn_mk W.d__law_is_lot W.g__law_is_lot sc__law_is_lot (fun vs H Q E h => ?_) (fun _ _ _ _ _ _ us hl => match us, hl with | [_], _ => rfl) (fun cdv A outer s H vs Q E hr h => ?_)
  · exact len1 (fun ds r ⟨z, e, _⟩ => by rw [e]; rfl) h
  · refine ⟨_, PSs.nox (pss_cons (ps_if (PW.pt (pw_or (pt_not (pt_val (pe_callB (isiU (K := K)) rfl W.n_isinstance bt_isinstance (pa_cons (pv 0) (pa_cons (pe_bltn (v := .ty "str") rfl W.n_str bt_str rfl) pa_nil))))) (pw_or1 (pt_not (pt_chain op_le op_le pe_int (pe_callB (lenU (K := K)) rfl W.n_len bt_len (pa_cons (pv 0) pa_nil)) pe_int))))) (pss_one (ps_ret pe_bl)) pss_nil)
  (pss_cons (ps_if (pt_cmpR (neU (K := K) hr.units) (pe_lc (own := [("_law_letter", 1)]) rfl sc__law_is_lot.nd (pi_str (pv 0)) (blkOk_by (own := [("_law_letter", 1)]) (N := N__law_is_lot) (sc := (defScope s__law_is_lot)) (by decide +kernel)) (fun _ _ _ _ _ => (nameU (i := 1) sc__law_is_lot.nd)) (fun _ _ _ _ _ => (pts_one (pt_cmpR (niU (K := K)) (pv 1) pe_str (by rfl)))) (fun _ _ _ _ _ => (pv 1))) (pe_lst pa_nil) (nomark _)) (pss_one (ps_ret pe_bl)) pss_nil)
  (pss_one (ps_ret (pe_cmpR (eqU (K := K) hr.units) (pe_lc (own := [("_law_k", 2)]) rfl sc__law_is_lot.nd (pi_range2 rfl W.n_range (pa_cons pe_int (pa_cons (pe_callB (lenU (K := K)) rfl W.n_len bt_len (pa_cons (pv 0) pa_nil)) pa_nil))) (blkOk_by (own := [("_law_k", 2)]) (N := N__law_is_lot) (sc := (defScope s__law_is_lot)) (by decide +kernel)) (fun _ _ _ _ _ => (nameU (i := 2) sc__law_is_lot.nd)) (fun _ _ _ _ _ => (pts_one (pt_cmpR op_geU (pe_ix (ixU (K := K)) (pv 0) (pe_op op_sub (pv 2) pe_int) (fun _ _ => rfl)) (pe_ix (ixU (K := K)) (pv 0) (pv 2) (fun _ _ => rfl)) (nomark _)))) (fun _ _ _ _ _ => (pv 2))) (pe_lst pa_nil) (nomark _)))))), ?_⟩
    refine spD_body (fun vs H ds r hv hP => ?_) vs H Q E h
    obtain ⟨z, rfl, hz, rfl⟩ := hP
    have hl8 := hz.size
    have hl0 := hz.pos
    obtain ⟨v, rfl, h1⟩ := hv.one
    cases h1
    have hv0 : ∀ {σ : L2.St} {H : Hp}, σ[0]? = some (some (.str z)) → EvD K (tVar 0) σ H (.str z) := fun e => ev_var e (.str z)
    refine eb_ifS (b := false) ?_ (fun z => by cases z) fun _ => eb_next ?_
    · refine (et_or (b := false) (c := false) ((et_not (b := true) (et_val (ev_isi rfl (kit_ty (by decide +kernel)) (hv0 rfl)))).as rfl) fun _ => ?_).as rfl
      refine (et_not (b := true) ((et_test (ev_chainN ev_int (ev_lenS (sz (by omega)) (hv0 rfl)) ev_int)).as ?_)).as rfl
      rw [decide_eq_true (by omega), decide_eq_true (by omega)]
      rfl
    refine eb_ifS (b := false) ((et_test (ev_neG (d := .list []) (e := .list []) rfl rfl ((ev_lcF (b := fun _ => false) (f := fun d => d) (ei_str (hv0 rfl)) (by rw [signs_len]; omega) (fun d hd z => by cases z) (fun d v H1 hd e1 hv => ?_) fun d v H1 hd e1 hv z => by cases z).as (by simp)) (ev_lst (sz (by decide)) ea_nil))).as rfl) (fun z => by cases z) fun _ => eb_next ?_
    · obtain ⟨c, hc, rfl⟩ := mem_signs hd
      exact (et_test (ev_niS (ev_var rfl hv) ev_str)).as (by rw [decide_eq_true (az_letters.mpr (hz.az c hc))]; rfl)
    refine eb_ret ((ev_eqG (d := .list []) (e := .list []) rfl rfl ((ev_lcF (b := fun _ => false) (f := fun d => d) (ei_range2 (i := 1) (j := z.length) (by omega) ev_int (ev_lenS (sz (by omega)) (hv0 rfl))) (by rw [upto_len]; omega) (fun d hd z => by cases z) (fun d v H1 hd e1 hv => ?_) fun d v H1 hd e1 hv z => by cases z).as (by simp)) (ev_lst (sz (by decide)) ea_nil)).as rfl)
    obtain ⟨k, hk, rfl⟩ := mem_upto hd
    cases hv
    have e0 : (cods z).length = z.length := (len_cods z).symm
    have k1 : k < (cods z).length := by omega
    have k2 : k + 1 < (cods z).length := by omega
    have g1 : (cods z)[k]? = some (cods z)[k] := by simp [k1]
    have g2 : (cods z)[k + 1]? = some (cods z)[k + 1] := by simp [k2]
    refine (et_test (ev_geS (ev_ixS (n := (cods z)[k]) (sz (by omega)) ?_ (hv0 rfl) (ev_subI (ev_var rfl (.int _)) ev_int)) (ev_ixS (n := (cods z)[k + 1]) (sz (by omega)) ?_ (hv0 rfl) (ev_var rfl (.int _))))).as ?_
    · rw [show (1 : Int) + (k : Nat) - 1 = ((k : Nat) : Int) by omega]; exact atI_nat g1
    · rw [show (1 : Int) + (k : Nat) = ((k + 1 : Nat) : Int) by omega]; exact atI_nat g2
    · rw [lt_one, decide_eq_true (pw_get hz.up g1 g2 (by omega))]; rfl

theorem ok__law_is_number (W : Wr P w K mg base)  : Fn P w K mg base CX0 1 "_law_is_number" ["_law_value", "_law_least", "_law_most_here"] (spD K PWithin) := by
  refine fn_mk W.d__law_is_number W.g__law_is_number sc__law_is_number (fun vs H Q E h => ?_) (fun _ _ _ _ _ _ us hl => match us, hl with | [_, _, _], _ => rfl) (fun cdv A outer s H vs Q E hr h => ?_)
  · exact len1 (fun ds r ⟨d, lo, hi, e, _⟩ => by rw [e]; rfl) h
  · refine ⟨_, PSs.nox (pss_one (ps_ret (pe_and (pe_callB (isiU (K := K)) rfl W.n_isinstance bt_isinstance (pa_cons (pv 0) (pa_cons (pe_bltn (v := .ty "int") rfl W.n_int bt_int rfl) pa_nil))) (pe_and (pe_not (pe_callB (isiU (K := K)) rfl W.n_isinstance bt_isinstance (pa_cons (pv 0) (pa_cons (pe_bltn (v := .ty "bool") rfl W.n_bool bt_bool rfl) pa_nil)))) (pe_one (pe_chain op_le op_le (pv 1) (pv 0) (pv 2))))))), ?_⟩
    refine spD_body (fun vs H ds r hv hP => ?_) vs H Q E h
    obtain ⟨d, lo, hi, rfl, hn, rfl⟩ := hP
    obtain ⟨v, v2, v3, rfl, h1, h3, h5⟩ := hv.three
    cases h3; cases h5
    refine eb_ret ?_
    cases d with
    | int i =>
      cases h1
      exact (ev_and (b := true) (c := decide (lo ≤ i) && decide (i ≤ hi)) (ev_isi rfl (kit_ty (by decide +kernel)) (ev_var rfl (.int i))) fun _ => (ev_and (b := true) (c := decide (lo ≤ i) && decide (i ≤ hi)) (ev_not (b := false) (ev_isi rfl (kit_ty (by decide +kernel)) (ev_var rfl (.int i)))) fun _ => ev_chainN (ev_var rfl (.int lo)) (ev_var rfl (.int i)) (ev_var rfl (.int hi))).as (by simp)).as (by simp [withinD])
    | dict _ => simp [noDict] at hn
    | none => exact (ev_and (b := false) (c := false) (ev_isi rfl (kit_ty (by decide +kernel)) (ev_var rfl h1)) (fun z => by cases z)).as (by simp [withinD])
    | bool b => exact (ev_and (b := true) (c := false) (ev_isi rfl (kit_ty (by decide +kernel)) (ev_var rfl h1)) (fun z => (ev_and (b := false) (c := false) (ev_not (b := true) (ev_isi rfl (kit_ty (by decide +kernel)) (ev_var rfl h1))) (fun z => by cases z)).as (by simp))).as (by simp [withinD])
    | str x => exact (ev_and (b := false) (c := false) (ev_isi rfl (kit_ty (by decide +kernel)) (ev_var rfl h1)) (fun z => by cases z)).as (by simp [withinD])
    | list x => exact (ev_and (b := false) (c := false) (ev_isi rfl (kit_ty (by decide +kernel)) (ev_var rfl h1)) (fun z => by cases z)).as (by simp [withinD])
    | tuple x => exact (ev_and (b := false) (c := false) (ev_isi rfl (kit_ty (by decide +kernel)) (ev_var rfl h1)) (fun z => by cases z)).as (by simp [withinD])

theorem ok__law_is_wish (W : Wr P w K mg base) (F__law_is_lot : Fn P w K mg base CX0 1 "_law_is_lot" ["_law_value"] (spD K PLot)) (F__law_is_number : Fn P w K mg base CX0 1 "_law_is_number" ["_law_value", "_law_least", "_law_most_here"] (spD K PWithin)) : Fn P w K mg base CX0 2 "_law_is_wish" ["_law_value"] (spD K PWish) := by
  refine fn_mk W.d__law_is_wish W.g__law_is_wish sc__law_is_wish (fun vs H Q E h => ?_) (fun _ _ _ _ _ _ us hl => match us, hl with | [_], _ => rfl) (fun cdv A outer s H vs Q E hr h => ?_)
  · exact len1 (fun ds r ⟨z, e, _⟩ => by rw [e]; rfl) h
  · refine ⟨_, PSs.nox (pss_cons (ps_if (PW.pt (pw_or (pt_not (pt_val (pe_callB (isiU (K := K)) rfl W.n_isinstance bt_isinstance (pa_cons (pv 0) (pa_cons (pe_bltn (v := .ty "tuple") rfl W.n_tuple bt_tuple rfl) pa_nil))))) (pw_or (pt_cmpR (eqU (K := K) hr.units) (pv 0) (pe_tup pa_nil) (nomark _)) (pw_or1 (pt_not (pt_val (pe_callB (isiU (K := K)) rfl W.n_isinstance bt_isinstance (pa_cons (pe_ix (ixU (K := K)) (pv 0) pe_int (fun _ _ => rfl)) (pa_cons (pe_bltn (v := .ty "str") rfl W.n_str bt_str rfl) pa_nil))))))))) (pss_one (ps_ret pe_bl)) pss_nil)
  (pss_cons (ps_if (pt_cmpR (inU (K := K)) (pe_ix (ixU (K := K)) (pv 0) pe_int (fun _ _ => rfl)) (pe_lst (pa_cons pe_str (pa_cons pe_str (pa_cons pe_str (pa_cons pe_str pa_nil))))) (by rfl)) (pss_one (ps_ret (pe_cmpR (eqU (K := K) hr.units) (pe_callB (lenU (K := K)) rfl W.n_len bt_len (pa_cons (pv 0) pa_nil)) pe_int (nomark _)))) pss_nil)
  (pss_cons (ps_if (PW.pt (pw_or (pt_cmpR (neU (K := K) hr.units) (pe_callB (lenU (K := K)) rfl W.n_len bt_len (pa_cons (pv 0) pa_nil)) pe_int (nomark _)) (pw_or1 (pt_cmpR (niU (K := K)) (pe_ix (ixU (K := K)) (pv 0) pe_int (fun _ _ => rfl)) (pe_lst (pa_cons pe_str (pa_cons pe_str (pa_cons pe_str pa_nil)))) (by rfl))))) (pss_one (ps_ret pe_bl)) pss_nil)
  (pss_one (ps_ret (pe_ifExp (pt_cmpR (eqU (K := K) hr.units) (pe_ix (ixU (K := K)) (pv 0) pe_int (fun _ _ => rfl)) pe_str (nomark _)) (pe_fn F__law_is_lot (hr.mono (by decide)) rfl pass0 (pa_cons (pe_ix (ixU (K := K)) (pv 0) pe_int (fun _ _ => rfl)) pa_nil)) (pe_fn F__law_is_number (hr.mono (by decide)) rfl pass0 (pa_cons (pe_ix (ixU (K := K)) (pv 0) pe_int (fun _ _ => rfl)) (pa_cons pe_int (pa_cons pe_int pa_nil)))))))))), ?_⟩
    refine spD_body (fun vs H ds r hv hP => ?_) vs H Q E h
    obtain ⟨x, rfl, hx, rfl⟩ := hP
    obtain ⟨v, rfl, h1⟩ := hv.one
    have hsh := Wish.shp hx
    rw [x.data_eq] at h1 hsh
    have hV : ∀ {σ : L2.St} {H' : Hp}, σ[0]? = some (some v) → Same H H' → EvD K (tVar 0) σ H' (.tuple [.str x.nm, x.val]) := fun e e2 => ev_var e (h1.mono e2)
    have h0 : ∀ {H' : Hp}, Same H H' → EvD K (tOp (rIx K) (tVar 0) (tC (.int 0))) (start N__law_is_wish [v]) H' (.str x.nm) := fun e => ev_ixT rfl (hV rfl e) ev_int
    have h1' : ∀ {H' : Hp}, Same H H' → EvD K (tOp (rIx K) (tVar 0) (tC (.int 1))) (start N__law_is_wish [v]) H' x.val := fun e => ev_ixT rfl (hV rfl e) ev_int
    refine eb_ifS (b := false) ?_ (fun z => by cases z) fun _ => eb_next ?_
    · refine (et_or (b := false) (c := false) ((et_not (b := true) (et_val (ev_isi rfl (kit_ty (by decide +kernel)) (hV rfl (Same.refl _))))).as rfl) fun _ => ?_).as rfl
      refine (et_or (b := false) (c := false) ((et_test (ev_eqG (hsh.ok (by decide)) rfl (hV rfl (Same.refl _)) (ev_tup (ds := []) (by decide +kernel) ea_nil))).as rfl) fun _ => ?_).as rfl
      exact (et_not (b := true) (et_val (ev_isi rfl (kit_ty (by decide +kernel)) (h0 (Same.refl _))))).as rfl
    refine eb_ifS (b := false) ((et_test (ev_inL (ws := ["none", "twins", "free", "like"]) (h0 (Same.refl _)) (ev_lst (by decide +kernel) (ea_cons ev_str (ea_cons ev_str (ea_cons ev_str (ea_cons ev_str ea_nil))))))).as ?_) (fun z => by cases z) fun _ => eb_next ?_
    · exact nm_ni x (by decide)
    refine eb_ifS (b := false) ((et_or (b := false) (c := false) ((et_test (ev_neI (ev_lenT (hV rfl (Same.refl _))) ev_int)).as rfl) fun _ => (et_test (ev_niLS (ws := ["folds", "has", "few"]) (h0 (Same.refl _)) (ev_lst (by decide +kernel) (ea_cons ev_str (ea_cons ev_str (ea_cons ev_str ea_nil)))))).as ?_).as rfl) (fun z => by cases z) fun _ => eb_next ?_
    · cases x with
      | few => exact (by decide : (!decide (("few" : Str) ∈ (["folds", "has", "few"] : List Str))) = false)
      | folds => exact (by decide : (!decide (("folds" : Str) ∈ (["folds", "has", "few"] : List Str))) = false)
      | has w => exact (by decide : (!decide (("has" : Str) ∈ (["folds", "has", "few"] : List Str))) = false)
    cases x with
    | has w => exact eb_ret (ev_if (b := true) ((et_test (ev_eqS (h0 (Same.refl _)) ev_str)).as rfl) (fun _ => ev_call (P := PLot) (ea_cons (h1' (Same.refl _)) ea_nil) ⟨w, rfl, hx, rfl⟩) (fun z => by cases z))
    | few => exact eb_ret (ev_if (b := false) ((et_test (ev_eqS (h0 (Same.refl _)) ev_str)).as (by decide)) (fun z => by cases z) fun _ => ev_call (P := PWithin) (ea_cons (h1' (Same.refl _)) (ea_cons ev_int (ea_cons ev_int ea_nil))) ⟨_, _, _, rfl, rfl, rfl⟩)
    | folds => exact eb_ret (ev_if (b := false) ((et_test (ev_eqS (h0 (Same.refl _)) ev_str)).as (by decide)) (fun z => by cases z) fun _ => ev_call (P := PWithin) (ea_cons (h1' (Same.refl _)) (ea_cons ev_int (ea_cons ev_int ea_nil))) ⟨_, _, _, rfl, rfl, rfl⟩)

theorem ok__law_letters_of (W : Wr P w K mg base)  : Fn P w K mg base CX0 1 "_law_letters_of" ["_law_words_here"] (spD K PLettersOf) := by
  refine fn_mk W.d__law_letters_of W.g__law_letters_of sc__law_letters_of (fun vs H Q E h => ?_) (fun _ _ _ _ _ _ us hl => match us, hl with | [_], _ => rfl) (fun cdv A outer s H vs Q E hr h => ?_)
  · exact len1 (fun ds r ⟨z, e, _⟩ => by rw [e]; rfl) h
  · refine ⟨_, PSs.nox (pss_one (ps_ret (joinU (K := K) pe_str (pe_SS rfl rfl W.n_sorted rfl W.n_set (joinU (K := K) pe_str (pv 0)))))), ?_⟩
    refine spD_body (fun vs H ds r hv hP => ?_) vs H Q E h
    obtain ⟨ws, rfl, g, rfl⟩ := hP
    have htot := g.tot
    obtain ⟨v, rfl, h1⟩ := hv.one
    refine eb_ret ?_
    have hj := ev_joinT (K := K) (ys := ws) (a := "") (by rw [sum_lens, show ("" : Str).length = 0 from rfl]; omega) ev_str (ev_var (σ := start N__law_letters_of [v]) (i := 0) rfl h1)
    have hs := ev_SS (by rw [len_join0]; omega) (by rw [cods_join0]; exact g.az) hj
    rw [cods_join0] at hs
    have ht := g.things
    refine (ev_joinL (ys := (lets (ws.flatMap cods)).map one) (by rw [sum_lens, flat_ones, show ("" : Str).length = 0 from rfl]; omega) ev_str (hs.as (by rw [List.map_map]; rfl))).as ?_
    rw [join_ones]
    rfl

end
end K7

set_option Elab.async false
set_option linter.all false
set_option maxRecDepth 100000
set_option maxHeartbeats 4000000
namespace K7
open PySem PySem.Spec PyProof.Rows L2
/-! ### list.index, list.pop, enumerate of a list -/
section
variable {X : Cx} {K : PySem.W.Frag} {ob e : Expr} {to te : TE} {apos cpos : Pos}
theorem lixU (ho : PE X ob to) (he : PE X e te) (hK : X.K = K := by rfl) (hbase : attributeBase ob "index" X.env (eval ob X.env) = eval ob X.env := by rfl)
    (hfew : ((backTo cpos (starEach [e] X.env)).all (fun x => !x.1) && (backToKw cpos (keywordEach [] X.env)).all (fun x => x.1.isSome) && decide ([e].length + ([] : List Keyword).length + (if ([] : List Keyword).isEmpty then 0 else 1) < 30)) = true := by rfl)
    (hline : (apos.endLine == cpos.line) = true := by rfl) (hs : starEach [e] X.env = (false, eval e X.env) :: starEach [] X.env := by rfl) :
    PE X (.Call (.Attribute ob "index" apos) [e] [] cpos) (tBM K "list" (rIndex K) to (tCons te tNil)) := by
  cases hK
  exact pe_bm PySem.F.plainAttrs_list PySem.F.slot_list_index PySem.F.type_list_index mt_index ho (pa_cons he pa_nil hs) hbase hfew hline hs rfl
theorem popU (ho : PE X ob to) (he : PE X e te) (hK : X.K = K := by rfl) (hbase : attributeBase ob "pop" X.env (eval ob X.env) = eval ob X.env := by rfl)
    (hfew : ((backTo cpos (starEach [e] X.env)).all (fun x => !x.1) && (backToKw cpos (keywordEach [] X.env)).all (fun x => x.1.isSome) && decide ([e].length + ([] : List Keyword).length + (if ([] : List Keyword).isEmpty then 0 else 1) < 30)) = true := by rfl)
    (hline : (apos.endLine == cpos.line) = true := by rfl) (hs : starEach [e] X.env = (false, eval e X.env) :: starEach [] X.env := by rfl) :
    PE X (.Call (.Attribute ob "pop" apos) [e] [] cpos) (tBM K "list" rPopAt to (tCons te tNil)) := by
  cases hK
  exact pe_bm PySem.F.plainAttrs_list PySem.F.slot_list_pop PySem.F.type_list_pop mt_popAt ho (pa_cons he pa_nil hs) hbase hfew hline hs rfl
theorem enLU {ta : TA} {p pos tpos : Pos} {elts : List Expr} {kk : Nat} (hg : Gl X "enumerate") (hm : X.mg "enumerate" = none) (ha : PA X [e] ta) (hs : starEach [e] X.env = [(false, eval e X.env)] := by rfl) (hK : X.K = K := by rfl) :
    PI X (.Tuple elts kk tpos) (.Call (.Name "enumerate" p) [e] [] pos) (iEnum K ta) := by
  cases hK
  exact pi_enum hg hm ha hs
end
section
variable {K : PySem.W.Frag} {σ : L2.St} {H : Hp} {ta tb : TE}
theorem tcl1 {sp : Sp} {E : XK} {Q : VK} (h : ta σ H fun v H1 => sp [v] H1 Q E) : tCall sp [] E (tCons ta tNil) σ H Q := h
theorem one_ne {a b : Nat} (h : a ≠ b) : (one a == one b) = false := by
  have : one a ≠ one b := fun e => h (by
    have z : cods (one a) = cods (one b) := congrArg cods e
    have z' : [a] = [b] := z
    exact List.head_eq_of_cons_eq z')
  simpa using this
theorem ev_lix {ls : List Nat} {c : Nat} (h : c ∈ ls) (ha : EvD K ta σ H (.list (ls.map fun c => .str (one c)))) (hb : EvD K tb σ H (.str (one c))) : EvD K (tBM K "list" (rIndex K) ta (tCons tb tNil)) σ H (.int (ls.idxOf c : Nat)) := fun H1 e1 Q q =>
  ha H1 e1 _ fun v H2 e2 hv => by
    cases hv with
    | lst hs hr =>
      have hys := RpAll.strs (ns := ls.map one) (by rw [List.map_map]; exact hr)
      subst hys
      refine ⟨.inl ⟨rfl, _, SqL.of hs⟩, hb H2 (e1.trans e2) _ fun w H3 e3 hw => ?_⟩
      cases hw
      have hlt : ls.idxOf c < ls.length := List.idxOf_lt_length_iff.mpr h
      have hg : ls[ls.idxOf c]? = some c := by rw [List.getElem?_eq_getElem hlt, List.getElem_idxOf]
      refine ⟨_, (ls.map one).map .str, .str (one c), ls.idxOf c, .str (one c), rfl, rfl, SqL.of (e3 _ _ hs), rfl, by simp [flatV], by rw [List.getElem?_map, List.getElem?_map, hg]; rfl, by simp [eqV], fun m z' hm hz => ?_, q _ H3 (e2.trans e3) (.int _)⟩
      rw [List.getElem?_map, List.getElem?_map] at hz
      have hml : m < ls.length := by omega
      rw [List.getElem?_eq_getElem hml] at hz
      cases hz
      have hne : ls[m] ≠ c := fun e => by
        have h2 : (ls.findIdx (· == c)) = ls.idxOf c := rfl
        have h3 := List.not_of_lt_findIdx (p := (· == c)) (xs := ls) (i := m) (by rw [h2]; exact hm)
        simp [e] at h3
      exact one_ne hne
/-- a loop over a list, numbered -/
theorem tr_enumL {Hb : Hp} {te : TE} {t : TS} {R : VK} {k l : Nat} {ds : List PyData} (hb : Same Hb H) (h : EvD K te σ Hb (.list ds)) (I : Nat → L2.St → Prop) (h0 : I 0 σ)
    (hs : ∀ (i : Nat) (d : PyData) (v : V) (σ' : L2.St) (H' : Hp), ds[i]? = some d → I i σ' → Same H H' → Rp K H' v d → Tr t ((σ'.set k (some (.int (i : Nat)))).set l (some v)) H' (fun σ2 H2 => Same H' H2 ∧ I (i + 1) σ2) R) :
    Tr (tFor (iEnum K (tCons te tNil)) (gTup K 2 (gCons (gName k) (gCons (gName l) gNil))) t) σ H (fun σ' H' => Same H H' ∧ I ds.length σ') R := by
  intro D q q2
  refine h H hb _ fun v H2 e2 hv => ?_
  cases hv with
  | lst hsq hr =>
    rename_i p xs
    have w := walk_enum (K := K) (a := p) (xs := xs)
    refine ⟨p, xs, rfl, SqL.of hsq, ?_⟩
    have hl := hr.length
    refine ⟨fun i m σ' H' => m = ds.length - i ∧ i ≤ ds.length ∧ Same H2 H' ∧ I i σ', ⟨_, rfl, Nat.zero_le _, Same.refl _, h0⟩, ?_⟩
    rintro i m σ' H' ⟨rfl, hi, e3, p3⟩
    rcases Nat.lt_or_eq_of_le hi with hlt | rfl
    · refine .inr ⟨w.goes i H' (by omega) (SqL.of (e3 _ _ hsq)), fun σ2 H3 => Same H2 H3 ∧ I (i + 1) σ2, fun σ2 H3 ⟨a, b⟩ => ⟨_, by omega, rfl, hlt, a, b⟩, fun x H3 y => ?_⟩
      obtain ⟨T, x1, x2, rfl, hT, rfl, h1, h2⟩ := w.yields i H' x H3 (by omega) (SqL.of (e3 _ _ hsq)) y
      cases h1
      obtain ⟨d, hd, hx⟩ := hr.got h2
      have sn := same_new (o := .tup [.int (i : Nat), x2]) hT
      refine ⟨T, _, rfl, SqT.of upd_same, rfl, _, _, rfl, _, _, rfl, rfl, ?_⟩
      exact hs i d x2 σ' _ hd p3 ((e2.trans e3).trans sn) (hx.mono (e3.trans sn)) _ (fun σ3 H5 p4 => ⟨(e3.trans sn).trans p4.1, p4.2⟩) q2
    · exact .inl ⟨by have z := w.stops H' (SqL.of (e3 _ _ hsq)); rw [hl] at z; exact z, q σ' H' ⟨e2.trans e3, p3⟩⟩
end
section
variable {P : Program} {w : World} {K : PySem.W.Frag} {mg : Str → Option Value} {base : Heap}
def bitL (ls : List Nat) (c : Nat) : Int := (1 : Int) * 2 ^ ((ls.idxOf c : Nat) : Int).toNat
def maskL (ls : List Nat) (z : Str) : Int := ((cods z).map (bitL ls)).sum
def masksL (ws : List Str) : List Int := ws.map (maskL (lets (ws.flatMap cods)))
def PMasks : List PyData → PyData → Prop := fun ds r => ∃ ws, ds = [tws ws] ∧ Gw ws ∧ r = .list ((masksL ws).map .int)

theorem ok__law_masks (W : Wr P w K mg base)  : Fn P w K mg base CX0 1 "_law_masks" ["_law_words_here"] (spD K PMasks) := by
  refine fn_mk W.d__law_masks W.g__law_masks sc__law_masks (fun vs H Q E h => ?_) (fun _ _ _ _ _ _ us hl => match us, hl with | [_], _ => rfl) (fun cdv A outer s H vs Q E hr h => ?_)
  · exact len1 (fun ds r ⟨z, e, _⟩ => by rw [e]; rfl) h
  · refine ⟨_, PSs.nox (pss_cons (setU (i := 1) sc__law_masks.nd (pe_SS rfl rfl W.n_sorted rfl W.n_set (joinU (K := K) pe_str (pv 0))))
  (pss_one (ps_ret (pe_lc (own := [("_law_word_here", 2)]) rfl sc__law_masks.nd (tplU (K := K) (pv 0)) (blkOk_by (own := [("_law_word_here", 2)]) (N := N__law_masks) (sc := (defScope s__law_masks)) (by decide +kernel)) (fun _ _ _ _ _ => (nameU (i := 2) sc__law_masks.nd)) (fun _ _ _ _ _ => pts_nil) (fun _ _ _ _ _ => (pe_callB (sumU (K := K) rfl) rfl W.n_sum bt_sum (pa_cons (pe_lc (own := [("_law_letter", 3)]) rfl sc__law_masks.nd (pi_str (pv 2)) (blkOk_by (own := [("_law_letter", 3)]) (N := N__law_masks) (sc := (⟨.function, [(".0", .local), ("_law_word_here", .local), ("sum", .globalImplicit), ("_law_letters_here", .cell)], false, false, []⟩ : Scope)) (by decide +kernel)) (fun _ _ _ _ _ => (nameU (i := 3) sc__law_masks.nd)) (fun _ _ _ _ _ => pts_nil) (fun _ _ _ _ _ => (pe_op op_shl pe_int (lixU (K := K) (pv 1) (pv 3))))) pa_nil))))))), ?_⟩
    refine spD_body (fun vs H ds r hv hP => ?_) vs H Q E h
    obtain ⟨ws, rfl, g, rfl⟩ := hP
    have htot := g.tot
    have hle := g.le
    obtain ⟨v, rfl, h1⟩ := hv.one
    have hj := ev_joinT (K := K) (ys := ws) (a := "") (by rw [sum_lens, show ("" : Str).length = 0 from rfl]; omega) ev_str (ev_var (σ := start N__law_masks [v]) (i := 0) rfl h1)
    have hs := ev_SS (by rw [len_join0]; omega) (by rw [cods_join0]; exact g.az) hj
    rw [cods_join0] at hs
    refine eb_set hs fun u H1 e1 hu => ?_
    refine eb_ret ((ev_lc (f := fun d => match d with | .str z => .int (maskL (lets (ws.flatMap cods)) z) | _ => .none) (ei_tup (ds := ws.map .str) (ev_var rfl (h1.mono e1))) (by rw [List.length_map]; omega) (fun d hd => ?_) fun d v' H2 hd e2 hv' => ?_).as ?_)
    · obtain ⟨z, _, rfl⟩ := List.mem_map.mp hd
      rfl
    · obtain ⟨z, hz, rfl⟩ := List.mem_map.mp hd
      have h4 := g.four hz
      refine (ev_sum (ns := (cods z).map (bitL (lets (ws.flatMap cods)))) ((ev_lc (f := fun d => match d with | .str x => .int (bitL (lets (ws.flatMap cods)) ((cods x).headD 0)) | _ => .none) (ei_str (z := z) (ev_var rfl hv')) (by rw [signs_len, len_cods]; omega) (fun d hd => ?_) fun d v2 H3 hd e3 hv2 => ?_).as ?_)).as rfl
      · obtain ⟨c, hc, rfl⟩ := mem_signs hd
        rfl
      · obtain ⟨c, hc, rfl⟩ := mem_signs hd
        have hm : c ∈ lets (ws.flatMap cods) := mem_lets.mpr ⟨g.az c (List.mem_flatMap.mpr ⟨z, hz, hc⟩), List.mem_flatMap.mpr ⟨z, hz, hc⟩⟩
        have ht := g.things
        have hlt : (lets (ws.flatMap cods)).idxOf c < (lets (ws.flatMap cods)).length := List.idxOf_lt_length_iff.mpr hm
        refine ev_shlI (i := 1) (j := ((lets (ws.flatMap cods)).idxOf c : Nat)) ⟨by omega, by omega, by decide⟩ ev_int (ev_lix hm (ev_var rfl ((hu.mono e2).mono e3)) (ev_var rfl hv2))
      · unfold signs
        rw [List.map_map, List.map_map]
        rfl
    · rw [masksL, List.map_map, List.map_map]
      rfl


def spApart (K : PySem.W.Frag) (M : Nat) : Sp := fun vs H Q _ => ∃ (v : V) (cs : List Int) (U : Nat), vs = [v] ∧ Rp K H v (.list (cs.map .int)) ∧ cs.length ≤ 64 ∧ U < 64 ∧ (∀ c ∈ cs, Ch U c) ∧ pop U ≤ M ∧ ∀ (f : Nat) (H' : Hp), f ≤ pop U → Same H H' → Q (.int f) H'

theorem ok_apart0 (W : Wr P w K mg base)  : Fn P w K mg base CX0 (0 + 1) "_law_apart" ["_law_choices"] (spApart K 0) := by
  refine fn_mk W.d__law_apart W.g__law_apart sc__law_apart (fun vs H Q E h => ?_) (fun _ _ _ _ _ _ us hl => match us, hl with | [_], _ => rfl) (fun cdv A outer s H vs Q E hr h => ?_)
  · obtain ⟨v, cs, U, rfl, _⟩ := h
    rfl
  · refine ⟨_, PSs.nox (pss_cons (setU (i := 1) sc__law_apart.nd pe_int)
  (pss_cons (ps_for PassesOwn.never rfl (enLU (K := K) rfl W.n_enumerate (pa_cons (pv 0) pa_nil)) (gtupU (K := K) (n := 2) rfl (pgs_cons (nameU (i := 2) sc__law_apart.nd) (pgs_cons (nameU (i := 3) sc__law_apart.nd) pgs_nil))) (pss_one ps_never))
  (pss_one (ps_ret (pv 1))))), ?_⟩
    obtain ⟨v, cs, U, rfl, h1, hl, hU, hcs, hp, q⟩ := h
    have hc0 : cs = [] := by
      cases cs with
      | nil => rfl
      | cons c r =>
        have := (ch_pop hU (hcs c List.mem_cons_self)).1
        omega
    subst hc0
    refine tr_run (R := fun u H' => u = .int (0 : Nat) ∧ Same H H') (tr_seq (tr_set (K := K) (Same.refl _) (ev_int (i := 0))) fun σ1 H1 ⟨e1, u, hu, hs⟩ => ?_) fun u H' ⟨a, b⟩ => a ▸ q 0 H' (Nat.zero_le _) b
    cases hu
    subst hs
    refine tr_seq (tr_enumL (ds := []) (Same.refl _) (ev_var rfl (h1.mono e1)) (fun i σ' => σ' = (start N__law_apart [v]).set 1 (some (.int 0))) rfl fun i d _ _ _ hd => by simp at hd) fun σ2 H2 ⟨e2, hs⟩ => ?_
    subst hs
    exact tr_ret (K := K) (Same.refl _) (ev_var rfl (.int 0)) fun u H3 e3 hu => by cases hu; exact ⟨rfl, (e1.trans e2).trans e3⟩

theorem ok_apartS (W : Wr P w K mg base) {M : Nat} (F__law_apart : Fn P w K mg base CX0 (M + 1) "_law_apart" ["_law_choices"] (spApart K M)) : Fn P w K mg base CX0 (M + 1 + 1) "_law_apart" ["_law_choices"] (spApart K (M + 1)) := by
  refine fn_mk W.d__law_apart W.g__law_apart sc__law_apart (fun vs H Q E h => ?_) (fun _ _ _ _ _ _ us hl => match us, hl with | [_], _ => rfl) (fun cdv A outer s H vs Q E hr h => ?_)
  · obtain ⟨v, cs, U, rfl, _⟩ := h
    rfl
  · refine ⟨_, PSs.nox (pss_cons (setU (i := 1) sc__law_apart.nd pe_int)
  (pss_cons (ps_for PassesOwn.never rfl (enLU (K := K) rfl W.n_enumerate (pa_cons (pv 0) pa_nil)) (gtupU (K := K) (n := 2) rfl (pgs_cons (nameU (i := 2) sc__law_apart.nd) (pgs_cons (nameU (i := 3) sc__law_apart.nd) pgs_nil))) (pss_one (setU (i := 1) sc__law_apart.nd (pe_callB (call_max2 rfl) rfl W.n_max bt_max (pa_cons (pv 1) (pa_cons (pe_op (addU (K := K)) pe_int (pe_fn F__law_apart (hr.mono (Nat.le_refl _)) rfl pass0 (pa_cons (pe_lc (own := [("_law_other", 4)]) rfl sc__law_apart.nd (lstU (K := K) (pe_slice (slU (K := K)) (pv 0) (po_some (pe_op (addU (K := K)) (pv 2) pe_int)) po_none)) (blkOk_by (own := [("_law_other", 4)]) (N := N__law_apart) (sc := (defScope s__law_apart)) (by decide +kernel)) (fun _ _ _ _ _ => (nameU (i := 4) sc__law_apart.nd)) (fun _ _ _ _ _ => (pts_one (pt_cmpR (eqU (K := K) hr.units) (pe_op op_and (pv 4) (pv 3)) pe_int (nomark _)))) (fun _ _ _ _ _ => (pv 4))) pa_nil))) pa_nil))))))
  (pss_one (ps_ret (pv 1))))), ?_⟩
    obtain ⟨v, cs, U, rfl, h1, hl, hU, hcs, hp, q⟩ := h
    refine tr_run (R := fun u H' => ∃ f : Nat, u = .int f ∧ f ≤ pop U ∧ Same H H') (tr_seq (tr_set (K := K) (Same.refl _) (ev_int (i := 0))) fun σ1 H1 ⟨e1, u, hu, hs⟩ => ?_) fun u H' ⟨f, a, b, c⟩ => a ▸ q f H' b c
    cases hu
    subst hs
    refine tr_seq (tr_enumL (Same.refl _) (ev_var rfl (h1.mono e1)) (fun i σ' => σ'.length = 5 ∧ σ'[0]? = some (some v) ∧ ∃ f : Nat, f ≤ pop U ∧ σ'[1]? = some (some (.int f))) ⟨rfl, rfl, 0, Nat.zero_le _, rfl⟩ fun i d v' σ' H' hd ⟨h5, h0, f, hf, hm⟩ e' hv' => ?_) fun σ2 H2 ⟨e2, _, _, f, hf, hs⟩ => ?_
    · rw [List.getElem?_map] at hd
      obtain ⟨c, hc, rfl⟩ := Option.map_eq_some_iff.mp hd
      cases hv'
      have hcm : c ∈ cs := List.mem_of_getElem? hc
      have hCh := hcs c hcm
      have hpp := ch_pop hU hCh
      have hil : i < cs.length := (List.getElem?_eq_some_iff.mp hc).1
      have s0 : ((σ'.set 2 (some (.int (i : Nat)))).set 3 (some (.int c)))[0]? = some (some v) := by rw [set_off (by decide), set_off (by decide)]; exact h0
      have s1 : ((σ'.set 2 (some (.int (i : Nat)))).set 3 (some (.int c)))[1]? = some (some (.int f)) := by rw [set_off (by decide), set_off (by decide)]; exact hm
      have s2 : ((σ'.set 2 (some (.int (i : Nat)))).set 3 (some (.int c)))[2]? = some (some (.int (i : Nat))) := by rw [set_off (by decide), List.getElem?_set_self (by omega)]
      have s3 : ((σ'.set 2 (some (.int (i : Nat)))).set 3 (some (.int c)))[3]? = some (some (.int c)) := List.getElem?_set_self (by rw [List.length_set]; omega)
      have hsl : EvD K (tSl (rSlU K) (tVar 0) (tPart (tOp (rAddU K) (tVar 2) (tC (.int 1)))) tNoPart) ((σ'.set 2 (some (.int (i : Nat)))).set 3 (some (.int c))) H' (.list ((cs.drop (i + 1)).map .int)) :=
        (ev_slL (ev_var s0 ((h1.mono e1).mono e')) (eo_some ((ev_addI (ev_var s2 (.int _)) ev_int).as (e := .int ((i + 1 : Nat) : Int)) (by congr 1))) eo_none).as (by rw [cutD_drop _ (by rw [List.length_map]; omega), List.map_drop])
      have w4 : ∀ (a : Option V), ((wipe ((σ'.set 2 (some (.int (i : Nat)))).set 3 (some (.int c))) [4]).set 4 a)[4]? = some a := fun a => by
        rw [List.getElem?_set_self]
        show 4 < (((σ'.set 2 (some (.int (i : Nat)))).set 3 (some (.int c))).set 4 none).length
        rw [List.length_set, List.length_set, List.length_set]
        omega
      have w3 : ∀ (a : Option V), ((wipe ((σ'.set 2 (some (.int (i : Nat)))).set 3 (some (.int c))) [4]).set 4 a)[3]? = some (some (.int c)) := fun a => by
        rw [set_off (by decide)]
        show (((σ'.set 2 (some (.int (i : Nat)))).set 3 (some (.int c))).set 4 none)[3]? = _
        rw [set_off (by decide)]
        exact s3
      have hlc := (ev_lcF (K := K) (te := tVar 4) (tt := tTest (tOp (rEqU K) (tOp (rI0 fun i j => .int (Builtin.bitAnd i j)) (tVar 4) (tVar 3)) (tC (.int 0)))) (b := fun d => match d with | .int o => decide (Builtin.bitAnd o c = 0) | _ => false) (f := fun d => d) (ei_list hsl) (by rw [List.length_map, List.length_drop]; omega) (fun d hd _ => by obtain ⟨n, _, rfl⟩ := mem_ints hd; rfl) (fun d v' H3 hd e3 hv' => by
          obtain ⟨o, _, rfl⟩ := mem_ints hd
          exact (et_test (ev_eqI (ev_andI (ev_var (w4 _) hv') (ev_var (w3 _) (.int _))) ev_int)).as rfl) (fun d v' H3 hd e3 hv' _ => ev_var (w4 _) hv')).as (e := .list (((cs.drop (i + 1)).filter fun o => decide (Builtin.bitAnd o c = 0)).map .int)) (by rw [List.map_id', List.filter_map]; rfl)
      refine tr_imp (tr_setN (C := fun u _ => ∃ f : Nat, u = .int f ∧ f ≤ pop U) fun Q2 q2 => ?_) (fun σ2 H2 ⟨e2, u, ⟨f2, a, b⟩, hs⟩ => ?_) fun _ _ z => z
      · refine ⟨_, s1, ?_⟩
        refine tcl1 (E := E0) ?_
        refine hlc H' (Same.refl _) _ fun vr H2 e2 hvr => ?_
        refine ⟨vr, _, U ^^^ c.toNat, rfl, hvr, Nat.le_trans (List.length_filter_le _ _) (by rw [List.length_drop]; omega), hpp.2, fun o ho => ?_, by omega, fun f2 H3 hf2 e3 => .inl ⟨1, f2, rfl, rfl, f, 1 + f2, rfl, ?_⟩⟩
        · obtain ⟨h1', h2'⟩ := List.mem_filter.mp ho
          exact ch_rest hCh (hcs o (List.mem_of_mem_drop h1')) (of_decide_eq_true h2')
        · refine q2 _ H3 (e2.trans e3) ?_
          by_cases hgt : (1 + (f2 : Int)) > f
          · rw [if_pos hgt]
            exact ⟨1 + f2, by congr 1, by omega⟩
          · rw [if_neg hgt]
            exact ⟨f, rfl, hf⟩
      · subst hs a
        exact ⟨e2, by simp only [List.length_set]; exact h5, by rw [set_off (by decide)]; exact s0, f2, b, List.getElem?_set_self (by simp only [List.length_set]; omega)⟩
    · exact tr_ret (K := K) (Same.refl _) (ev_var hs (.int f)) fun u H3 e3 hu => by cases hu; exact ⟨f, rfl, hf, (e1.trans e2).trans e3⟩

theorem ok__law_apart (W : Wr P w K mg base) : ∀ M : Nat, Fn P w K mg base CX0 (M + 1) "_law_apart" ["_law_choices"] (spApart K M)
  | 0 => ok_apart0 W
  | M + 1 => ok_apartS W (ok__law_apart W M)

end
end K7

set_option Elab.async false
set_option linter.all false
set_option maxRecDepth 100000
set_option maxHeartbeats 4000000
namespace K7
open PySem PySem.Spec PyProof.Rows L2
section
variable {P : Program} {w : World} {K : PySem.W.Frag} {mg : Str → Option Value} {base : Heap}
def spMostL (K : PySem.W.Frag) : Sp := fun vs H Q _ => ∃ (v : V) (ws : List Str), vs = [v] ∧ Rp K H v (tws ws) ∧ Gw ws ∧ ws ≠ [] ∧ ∀ (f : Nat) (H' : Hp), f ≤ 6 → Same H H' → Q (.int f) H'
def PKeeps : List PyData → PyData → Prop := fun ds r => ∃ ws x, ds = [tws ws, Wish.data x] ∧ Gw ws ∧ ws ≠ [] ∧ x.ok ∧ r = .bool (keeps ws x)
def keyD : Key → PyData
  | .inl n => .int n
  | .inr z => .str z
theorem val_some {kvs : List (Key × V)} {kv : Key × V} (h : kv ∈ kvs) : ∃ v, valV kvs kv.1 = some v := by
  cases q : valV kvs kv.1 with
  | some v => exact ⟨v, rfl⟩
  | none =>
    unfold valV at q
    rw [Option.map_eq_none_iff, List.find?_eq_none] at q
    exact absurd (decide_eq_true rfl) (q kv h)
theorem putK_ne (kvs : List (Key × V)) (k : Key) (v : V) : putK kvs k v ≠ [] := by
  unfold putK
  split
  · rename_i h
    intro z
    rw [List.map_eq_nil_iff] at z
    subst z
    simp at h
  · simp
theorem nats_of : ∀ ys : List V, (∀ y ∈ ys, ∃ f : Nat, f ≤ 6 ∧ y = .int f) → ∃ ns : List Int, ys = ns.map .int ∧ ∀ n ∈ ns, ∃ f : Nat, f ≤ 6 ∧ n = f
  | [], _ => ⟨[], rfl, fun n hn => by cases hn⟩
  | y :: ys, h => by
    obtain ⟨f, hf, rfl⟩ := h y List.mem_cons_self
    obtain ⟨ns, rfl, hns⟩ := nats_of ys fun z hz => h z (List.mem_cons_of_mem _ hz)
    refine ⟨f :: ns, rfl, fun n hn => ?_⟩
    rcases List.mem_cons.mp hn with rfl | hn
    · exact ⟨f, hf, rfl⟩
    · exact hns n hn

theorem ok__law_most (W : Wr P w K mg base) (F__law_masks : Fn P w K mg base CX0 1 "_law_masks" ["_law_words_here"] (spD K PMasks)) (F__law_apart : Fn P w K mg base CX0 7 "_law_apart" ["_law_choices"] (spApart K 6)) : Fn P w K mg base CX0 8 "_law_most" ["_law_words_here"] (spMostL K) := by
  refine fn_mk W.d__law_most W.g__law_most sc__law_most (fun vs H Q E h => ?_) (fun _ _ _ _ _ _ us hl => match us, hl with | [_], _ => rfl) (fun cdv A outer s H vs Q E hr h => ?_)
  · obtain ⟨v, ws, rfl, _⟩ := h
    rfl
  · refine ⟨_, PSs.nox (pss_cons (ps_asg (pe_tup (pa_cons (pe_lst (pa_cons pe_int pa_nil)) (pa_cons pe_dnewK pa_nil))) (gtupU (K := K) (n := 2) rfl (pgs_cons (nameU (i := 1) sc__law_most.nd) (pgs_cons (nameU (i := 2) sc__law_most.nd) pgs_nil))))
  (pss_cons (ps_for PassesOwn.never rfl (lstU (K := K) (pe_fn F__law_masks (hr.mono (by decide)) rfl pass0 (pa_cons (pv 0) pa_nil))) (nameU (i := 3) sc__law_most.nd) (pss_one (setU (i := 1) sc__law_most.nd (pe_op (addU (K := K)) (pv 1) (pe_lc (own := [("_law_union", 4)]) rfl sc__law_most.nd (lstU (K := K) (pv 1)) (blkOk_by (own := [("_law_union", 4)]) (N := N__law_most) (sc := (defScope s__law_most)) (by decide +kernel)) (fun _ _ _ _ _ => (nameU (i := 4) sc__law_most.nd)) (fun _ _ _ _ _ => pts_nil) (fun _ _ _ _ _ => (pe_op op_or (pv 4) (pv 3))))))))
  (pss_cons (ps_for PassesOwn.never rfl (pi_range2 rfl W.n_range (pa_cons pe_int (pa_cons (pe_callB (lenU (K := K)) rfl W.n_len bt_len (pa_cons (pv 1) pa_nil)) pa_nil))) (nameU (i := 5) sc__law_most.nd) (pss_one (ps_dput (hu_of hr) (pv 2) (pe_ix (ixU (K := K)) (pv 1) (pv 5) (fun _ _ => rfl)) (pe_op (addU (K := K)) (pe_dget2 (hu_of hr) (pv 2) (pe_ix (ixU (K := K)) (pv 1) (pv 5) (fun _ _ => rfl)) (pe_lst pa_nil) ⟨rfl, rfl, rfl, rfl⟩) (pe_lst (pa_cons (pv 5) pa_nil))) rfl)))
  (pss_one (ps_ret (pe_callB (maxU (K := K) rfl) rfl W.n_max bt_max (pa_cons (pe_lc (own := [("_law_union", 4)]) rfl sc__law_most.nd (pi_keys (pe_frz (pv 2))) (blkOk_by (own := [("_law_union", 4)]) (N := N__law_most) (sc := (defScope s__law_most)) (by decide +kernel)) (fun _ _ _ _ _ => (nameU (i := 4) sc__law_most.nd)) (fun _ _ _ _ _ => pts_nil) (fun _ _ _ _ _ => (pe_fn F__law_apart (hr.mono (by decide)) rfl pass0 (pa_cons (pe_dget (hu_of hr) (pv 2) (pv 4) (fun _ _ => rfl)) pa_nil)))) pa_nil))))))), ?_⟩
    obtain ⟨v, ws, rfl, h1, g, hne, q⟩ := h
    have hle := g.le
    have hpos : 1 ≤ ws.length := List.length_pos_iff.mpr hne
    have hml : (masksL ws).length = ws.length := by unfold masksL; rw [List.length_map]
    have hun := unis_len (masksL ws)
    rw [hml] at hun
    have h64 := pow6 hle
    have h2n : 2 ≤ 2 ^ ws.length := by
      have : 2 ^ 1 ≤ 2 ^ ws.length := Nat.pow_le_pow_right (by decide) hpos
      omega
    refine tr_run (R := fun v' H' => ∃ f : Nat, v' = .int f ∧ f ≤ 6 ∧ Same H H') (tr_seq (P := fun σ' H' => ∃ l d, H d = none ∧ Same H H' ∧ H' d = some (.dK []) ∧ H' l = some (.lst [.int 0]) ∧ σ' = ((start N__law_most [v]).set 1 (some (.ref l))).set 2 (some (.ref d))) (fun D qn qr => ?_) fun σ1 H1 p1 => ?_) fun v' H' ⟨f, e, a, b⟩ => e ▸ q f H' a b
    · refine ⟨by decide +kernel, fun l hl d hd => ⟨by show 2 ≤ sizeLine; rw [sizeLine_eq]; omega, fun t ht => ⟨t, _, rfl, SqT.of upd_same, rfl, _, _, rfl, _, _, rfl, rfl, qn _ _ ⟨l, d, ?_, ?_, ?_, ?_, rfl⟩⟩⟩⟩
      · exact (same_new (o := .lst [.int 0]) hl).free hd
      · exact ((same_new hl).trans (same_new hd)).trans (same_new ht)
      · exact same_new ht _ _ upd_same
      · exact same_new ht _ _ (same_new hd _ _ upd_same)
    obtain ⟨l, d, hd, e1, hd1, hl1, rfl⟩ := p1
    refine tr_seq (tr_es (Same.refl _) (es_forN (K := K) (ei_list (ds := (masksL ws).map .int) (ev_call (P := PMasks) (ea_cons (ev_var rfl (h1.mono e1)) ea_nil) ⟨ws, rfl, g, rfl⟩)) (fun i σ' H' => σ'.length = 6 ∧ σ'[2]? = some (some (.ref d)) ∧ ∃ u, σ'[1]? = some (some u) ∧ Rp K H' u (.list ((unis ((masksL ws).take i)).map .int))) (fun H' e => ⟨rfl, rfl, .ref l, rfl, .lst (e _ _ hl1) (.cons (.int 0) .nil)⟩) ?_ fun i σ' H1 H2 e ⟨a, b, u, c, c2⟩ => ⟨a, b, u, c, c2.mono e⟩)) ?_
    · intro i dd u σ' H' hdd e ⟨hl6, hF, u1, hu1, hr⟩ hu
      rw [List.getElem?_map] at hdd
      obtain ⟨n, hn, rfl⟩ := Option.map_eq_some_iff.mp hdd
      have et : (masksL ws).take (i + 1) = (masksL ws).take i ++ [n] := by rw [List.take_add_one, hn]; rfl
      have ln : (unis ((masksL ws).take i)).length ≤ 64 := by
        rw [unis_len]
        exact pow6 (by rw [List.length_take]; omega)
      have hFv : ∀ {H''}, Same H' H'' → EvD K (tVar 1) (σ'.set 3 (some u)) H'' (.list ((unis ((masksL ws).take i)).map .int)) := fun e2 => ev_var (by rw [set_off (by decide)]; exact hu1) (hr.mono e2)
      refine es_imp (es_set (d := .list ((unis ((masksL ws).take (i + 1))).map .int)) ((ev_catL (sz (by simp only [List.length_map]; omega)) (hFv (Same.refl _)) (ev_lc (f := fun d => match d with | .int x => .int (Builtin.bitOr x n) | _ => .none) (ei_list (hFv (Same.refl _))) (by rw [List.length_map]; omega) (fun d hd => ?_) fun d v' H2 hd e2 hv' => ?_)).as ?_)) ?_
      · obtain ⟨x, _, rfl⟩ := List.mem_map.mp hd
        rfl
      · obtain ⟨x, _, rfl⟩ := List.mem_map.mp hd
        refine ev_orI (ev_var ?_ hv') (ev_var ?_ (hu.mono e2))
        · rw [List.getElem?_set_self]
          show 4 < ((σ'.set 3 (some u)).set 4 none).length
          rw [List.length_set, List.length_set]
          omega
        · rw [set_off (by decide)]
          show ((σ'.set 3 (some u)).set 4 none)[3]? = _
          rw [set_off (by decide), List.getElem?_set_self (by omega)]
      · rw [et, unis_snoc, List.map_append, List.map_map, List.map_map]
        rfl
      · rintro σ2 H2 ⟨v2, hv2, rfl⟩
        exact ⟨by rw [List.length_set, List.length_set]; exact hl6, by rw [set_off (by decide), set_off (by decide)]; exact hF, v2, by rw [List.getElem?_set_self (by rw [List.length_set]; omega)], hv2⟩
    rintro σ2 H2 ⟨e2, hl6, hF, u, hu, hr⟩
    rw [List.length_map, List.take_of_length_le (Nat.le_refl _)] at hr
    have hd2 : H2 d = some (.dK []) := e2 _ _ hd1
    have sb : Same H (cut H2 d) := cut_of (e1.trans e2) hd
    have hub : Rp K (cut H2 d) u (.list ((unis (masksL ws)).map .int)) := hr.cut fun o e => by rw [hd2] at e; cases e; rfl
    let I : Nat → L2.St → Hp → Prop := fun i σ' H' => σ'.length = 6 ∧ σ'[2]? = some (some (.ref d)) ∧ σ'[1]? = some (some u) ∧ Same (cut H2 d) H' ∧ ∃ kvs, DOk (2 ^ ws.length) i H H' d kvs ∧ kvs.length ≤ i ∧ (1 ≤ i → kvs ≠ [])
    refine tr_seq (tr_for (I := I) (cut_same d) (ei_rangeT2 (i := 1) (j := (2 ^ ws.length : Nat)) ⟨by omega, by omega, by omega, by omega⟩ ev_int ((ev_lenL (ev_var hu hub)).as (by rw [List.length_map, hun]))) ?_ ?_) ?_
    · exact fun H' e => ⟨hl6, hF, hu, (cut_same d).trans e, [], ⟨e _ _ hd2, fun kv hm => by cases hm⟩, Nat.le_refl _, fun z => absurd z (by decide)⟩
    · rintro i dd w σ' H' hi ⟨hl4, hF, hU, e, kvs, hok, hlen, _⟩ hw
      have hi64 : i < 64 := by
        have := (List.getElem?_eq_some_iff.mp hi).1
        rw [upto_len] at this
        omega
      obtain ⟨k, hk, rfl⟩ := mem_upto (List.mem_of_getElem? hi)
      cases hw H
      have hk' : 1 + k < 2 ^ ws.length := by omega
      have hF' : (σ'.set 5 (some (.int (1 + (k : Nat)))))[2]? = some (some (.ref d)) := by rw [set_off (by decide)]; exact hF
      have hc' : (σ'.set 5 (some (.int (1 + (k : Nat)))))[5]? = some (some (.int (1 + (k : Nat)))) := by rw [List.getElem?_set_self (by omega)]
      have hat : (unis (masksL ws))[1 + k]? = some ((unis (masksL ws))[1 + k]'(by omega)) := List.getElem?_eq_getElem (by omega)
      have hkey : ∀ {H'' : Hp}, Same (cut H2 d) H'' → EvD K (tOp (rIx K) (tVar 1) (tVar 5)) (σ'.set 5 (some (.int (1 + (k : Nat))))) H'' (.int ((unis (masksL ws))[1 + k]'(by omega))) := fun e' =>
        ev_ixL (i := ((1 + k : Nat) : Int)) (atI_nat (by rw [List.getElem?_map, hat]; rfl)) (ev_var (by rw [set_off (by decide)]; exact hU) (hub.mono e')) (ev_var (by rw [hc']; congr 3) (.int _))
      intro D hq hr
      refine ⟨.ref d, hF', d, rfl, .inl ⟨kvs, .inl hok.1⟩, hkey e H' (Same.refl _) _ fun y H3 e3 hy => ?_⟩
      cases hy
      refine ⟨by decide +kernel, fun l hl => ⟨valV kvs (.inl ((unis (masksL ws))[1 + k]'(by omega))), DGet.k (k := .inl ((unis (masksL ws))[1 + k]'(by omega))) (same_new hl _ _ (e3 _ _ hok.1)), ?_⟩⟩
      have hok3 := hok.mono (e3.trans (same_new (o := .lst []) hl))
      have hstar : ∃ (p : Addr) (cs : List Int), (valV kvs (.inl ((unis (masksL ws))[1 + k]'(by omega)))).getD (.ref l) = V.ref p ∧ upd H3 l (.lst []) p = some (.lst (cs.map V.int)) ∧ cs.length ≤ i ∧ ∀ c ∈ cs, 1 ≤ c ∧ c < (2 : Int) ^ ws.length := by
        cases hv : valV kvs (.inl ((unis (masksL ws))[1 + k]'(by omega))) with
        | none => exact ⟨l, [], rfl, upd_same, Nat.zero_le _, fun c hc => by cases hc⟩
        | some z =>
          obtain ⟨cs, p, rfl, r, hl', b⟩ := hok3.get hv
          exact ⟨p, cs, rfl, r, hl', b⟩
      obtain ⟨p, cs, ep, hsq, hcl, hcb⟩ := hstar
      rw [ep]
      refine ⟨_, hc', by show 1 ≤ sizeLine; rw [sizeLine_eq]; omega, fun l2 hl2 => ?_⟩
      have e34 : Same H3 (upd (upd H3 l (.lst [])) l2 (.lst [.int (1 + (k : Nat))])) := (same_new hl).trans (same_new hl2)
      refine .inr (.inr (.inr ⟨p, l2, _, _, rfl, rfl, same_new hl2 _ _ hsq, upd_same, by rw [List.length_map, sizeLine_eq]; show cs.length + 1 ≤ _; omega, fun l3 hl3 => ⟨_, hF', ?_⟩⟩))
      have e4 : Same H' (upd (upd (upd H3 l (.lst [])) l2 (.lst [.int (1 + (k : Nat))])) l3 (.lst (cs.map V.int ++ [.int (1 + (k : Nat))]))) := (e3.trans e34).trans (same_new hl3)
      refine hkey (e.trans e4) _ (Same.refl _) _ fun y H5 e5 hy => ?_
      cases hy
      have e15 : Same H' H5 := e4.trans e5
      refine ⟨d, _, rfl, DPut.k (k := .inl ((unis (masksL ws))[1 + k]'(by omega))) (v := .ref l3) (e15 _ _ hok.1) (by rw [sizeLine_eq]; omega), hq _ _ ⟨(KeepT.of e15).upd hok.1 rfl, by rw [List.length_set]; exact hl4, hF', by rw [set_off (by decide)]; exact hU, cut_upd.mpr (e.trans e15), _, (hok.mono e15).put (cs := cs ++ [(1 + (k : Nat) : Int)]) ?_ ?_ ?_ ?_, ?_, fun _ => putK_ne _ _ _⟩⟩
      · exact sb.free (e.free ((e3.trans e34).free hl3))
      · rw [List.map_append]
        exact e5 _ _ upd_same
      · rw [List.length_append]
        show cs.length + 1 ≤ _
        omega
      · intro c hc
        rcases List.mem_append.mp hc with z | z
        · exact hcb c z
        · rw [List.mem_singleton.mp z]
          refine ⟨by omega, ?_⟩
          have : ((1 + k : Nat) : Int) < ((2 ^ ws.length : Nat) : Int) := by exact_mod_cast hk'
          have e : ((2 ^ ws.length : Nat) : Int) = (2 : Int) ^ ws.length := by push_cast; rfl
          rw [e] at this
          exact this
      · have := length_putK kvs (.inl ((unis (masksL ws))[1 + k]'(by omega))) (V.ref l3)
        omega
    rintro σ' H' ⟨hl4, hF', hU, e, kvs, hok, hlen, hnn⟩
    rw [upto_len] at hok hlen hnn
    have hnn := hnn (by omega)
    intro D _ hr2
    show tCB (rMax K) (tCons (tLc (iKeys (tFrz (tVar 2))) (gName 4) tYes (tCall (spApart K 6) [] E0 (tCons (tDGet (tVar 2) (tVar 4)) tNil)) [4]) tNil) σ' H' _
    refine tcb1 ⟨.ref d, hF', d, _, rfl, hok.1, trivial, fun od => ⟨d, od, rfl, .inl ⟨kvs, upd_same, ?_⟩⟩⟩
    have e6 : Same (cut H' d) (upd H' d (.frz od (.dK kvs))) := cut_upd.mpr (cut_same d)
    have eH : Same H (upd H' d (.frz od (.dK kvs))) := ((cut_of (sb.trans e) hd).trans e6)
    have hEI : EvI K (fun _ H R => R (Itk d od kvs) H) σ' (upd H' d (.frz od (.dK kvs))) (kvs.map fun kv => keyD kv.1) := fun H1 a R q => q _ H1 (Same.refl _) ⟨_, _, by rw [List.length_map]; exact walk_keys, a _ _ upd_same, fun _ _ b z => b _ _ z, fun i H3 x H4 b hi y => by
      obtain ⟨rfl, k, v, hkv, rfl⟩ := y
      refine ⟨Same.refl _, keyD k, by rw [List.getElem?_map, hkv]; rfl, ?_⟩
      cases k with
      | inl n => exact .int n
      | inr z => exact .str z⟩
    show tLc (fun _ H R => R (Itk d od kvs) H) (gName 4) tYes (tCall (spApart K 6) [] E0 (tCons (tDGet (tVar 2) (tVar 4)) tNil)) [4] σ' (upd H' d (.frz od (.dK kvs))) (fun v H1 => rMax K [v] H1 D.rt)
    refine lc_rel (vs := [4]) (g := gName 4) (te := tCall (spApart K 6) [] E0 (tCons (tDGet (tVar 2) (tVar 4)) tNil)) (C := fun y => ∃ f : Nat, f ≤ 6 ∧ y = .int f) hEI (by rw [List.length_map]; omega) (fun dd v' H3 hdd e3 hv' Q2 q2 => q2 _ H3 (Same.refl _) (wipe_set σ' 4 _) fun Q3 q3 => ?_) (upd H' d (.frz od (.dK kvs))) (Same.refl _) _ fun p ys H3 e3 hp hys hall hlen' => ?_
    · obtain ⟨kv, hkv, rfl⟩ := List.mem_map.mp hdd
      obtain ⟨n, cs, p, ek, ev, hn0, hp, hcl, hcb⟩ := hok.2 kv hkv
      obtain ⟨vv, hvv⟩ := val_some hkv
      obtain ⟨cs2, p2, rfl, hp2, hcl2, hcb2⟩ := hok.get hvv
      have hx2 : ((wipe σ' [4]).set 4 (some v'))[2]? = some (some (.ref d)) := by
        rw [set_off (by decide)]
        show (σ'.set 4 none)[2]? = _
        rw [set_off (by decide)]
        exact hF'
      have hx4 : ((wipe σ' [4]).set 4 (some v'))[4]? = some (some v') := List.getElem?_set_self (by simp [wipe]; omega)
      have hvk : v' = kV kv.1 := by
        rw [ek] at hv' ⊢
        cases hv'
        rfl
      have hpd : p2 ≠ d := fun z => by rw [z, hok.1] at hp2; cases hp2
      have hp3 : H3 p2 = some (.lst (cs2.map V.int)) := e3 _ _ (by rw [upd_ne hpd]; exact hp2)
      refine tcl1 (E := E0) ⟨.ref d, hx2, v', hx4, d, .ref p2, rfl, .inl ⟨kvs, kv.1, .inr ⟨od, e3 _ _ upd_same⟩, hvk, hvv.symm⟩, ?_⟩
      have hpw := pop_pow ws.length hle
      exact ⟨.ref p2, cs2, 2 ^ ws.length - 1, rfl, .lst hp3 (rpAll_ints cs2), by omega, by omega, fun c hc => ch_of hle (hcb2 c hc).1 (hcb2 c hc).2, by omega, fun f H4 hf e4 => q3 _ H4 e4 ⟨f, by omega, rfl⟩⟩
    · obtain ⟨ns, rfl, hns⟩ := nats_of ys hall
      refine ⟨p, ns, rfl, SqL.of hys, ?_, fun m hm _ => ?_⟩
      · rw [List.length_map, List.length_map] at hlen'
        have := List.length_pos_iff.mpr hnn
        omega
      · obtain ⟨f, hf, rfl⟩ := hns m hm
        exact hr2 _ _ ⟨f, rfl, hf, eH.trans e3⟩

theorem ok__law_keeps (W : Wr P w K mg base) (F__law_most : Fn P w K mg base CX0 8 "_law_most" ["_law_words_here"] (spMostL K)) : Fn P w K mg base CX0 9 "_law_keeps" ["_law_words_here", "_law_want_here"] (spD K PKeeps) := by
  refine fn_mk W.d__law_keeps W.g__law_keeps sc__law_keeps (fun vs H Q E h => ?_) (fun _ _ _ _ _ _ us hl => match us, hl with | [_, _], _ => rfl) (fun cdv A outer s H vs Q E hr h => ?_)
  · exact len1 (fun ds r ⟨z, x, e, _⟩ => by rw [e]; rfl) h
  · refine ⟨_, PSs.nox (pss_cons (ps_if (pt_cmpR (eqU (K := K) hr.units) (pe_ix (ixU (K := K)) (pv 1) pe_int (fun _ _ => rfl)) pe_str (nomark _)) (pss_one ps_never) pss_nil)
  (pss_cons (ps_if (pt_cmpR (eqU (K := K) hr.units) (pe_ix (ixU (K := K)) (pv 1) pe_int (fun _ _ => rfl)) pe_str (nomark _)) (pss_one ps_never) pss_nil)
  (pss_cons (ps_if (pt_cmpR (eqU (K := K) hr.units) (pe_ix (ixU (K := K)) (pv 1) pe_int (fun _ _ => rfl)) pe_str (nomark _)) (pss_one ps_never) pss_nil)
  (pss_cons (ps_if (pt_cmpR (eqU (K := K) hr.units) (pe_ix (ixU (K := K)) (pv 1) pe_int (fun _ _ => rfl)) pe_str (nomark _)) (pss_one ps_never) pss_nil)
  (pss_cons (ps_if (pt_cmpR (eqU (K := K) hr.units) (pe_ix (ixU (K := K)) (pv 1) pe_int (fun _ _ => rfl)) pe_str (nomark _)) (pss_one (ps_ret (pe_cmpR op_le (pe_fn F__law_most (hr.mono (by decide)) rfl pass0 (pa_cons (pv 0) pa_nil)) (pe_callB (call_max2 rfl) rfl W.n_max bt_max (pa_cons pe_int (pa_cons (pe_ix (ixU (K := K)) (pv 1) pe_int (fun _ _ => rfl)) pa_nil))) (nomark _)))) pss_nil)
  (pss_one (ps_ret (pe_ifExp (pt_cmpR (eqU (K := K) hr.units) (pe_ix (ixU (K := K)) (pv 1) pe_int (fun _ _ => rfl)) pe_str (nomark _)) (pe_cmpR (inU (K := K)) (pe_ix (ixU (K := K)) (pv 1) pe_int (fun _ _ => rfl)) (pv 0) (by rfl)) (pe_cmpR op_le (pe_callB (lenU (K := K)) rfl W.n_len bt_len (pa_cons (pv 0) pa_nil)) (pe_ix (ixU (K := K)) (pv 1) pe_int (fun _ _ => rfl)) (nomark _)))))))))), ?_⟩
    refine spD_body (fun vs H ds r hv hP => ?_) vs H Q E h
    obtain ⟨ws, x, rfl, g, hne, hx, rfl⟩ := hP
    have hle := g.le
    obtain ⟨v, u, rfl, h1, h2⟩ := hv.two
    rw [x.data_eq] at h2
    have hL : ∀ {H' : Hp}, Same H H' → EvD K (tVar 0) (start N__law_keeps [v, u]) H' (tws ws) := fun e => ev_var rfl (h1.mono e)
    have h0 : ∀ {H' : Hp}, Same H H' → EvD K (tOp (rIx K) (tVar 1) (tC (.int 0))) (start N__law_keeps [v, u]) H' (.str x.nm) := fun e => ev_ixT rfl (ev_var rfl (h2.mono e)) ev_int
    have h1' : ∀ {H' : Hp}, Same H H' → EvD K (tOp (rIx K) (tVar 1) (tC (.int 1))) (start N__law_keeps [v, u]) H' x.val := fun e => ev_ixT rfl (ev_var rfl (h2.mono e)) ev_int
    refine eb_ifS (b := false) ((et_test (ev_eqS (h0 (Same.refl _)) ev_str)).as (nm_ne x (by decide))) (fun z => by cases z) fun _ => eb_next ?_
    refine eb_ifS (b := false) ((et_test (ev_eqS (h0 (Same.refl _)) ev_str)).as (nm_ne x (by decide))) (fun z => by cases z) fun _ => eb_next ?_
    refine eb_ifS (b := false) ((et_test (ev_eqS (h0 (Same.refl _)) ev_str)).as (nm_ne x (by decide))) (fun z => by cases z) fun _ => eb_next ?_
    refine eb_ifS (b := false) ((et_test (ev_eqS (h0 (Same.refl _)) ev_str)).as (nm_ne x (by decide))) (fun z => by cases z) fun _ => eb_next ?_
    cases x with
    | folds =>
      refine eb_ifS (b := true) ((et_test (ev_eqS (h0 (Same.refl _)) ev_str)).as rfl) (fun _ => ?_) (fun z => by cases z)
      intro H1 e1 D qd
      refine ⟨v, rfl, v, ws, rfl, h1.mono e1, g, hne, fun f H2 hf e2 => ?_⟩
      have hm := ev_max2 (K := K) (σ := start N__law_keeps [v, u]) (H := H2) (i := 1) (j := 9) ev_int (h1' (e1.trans e2))
      refine hm H2 (Same.refl _) _ fun z H3 e3 hz => ?_
      cases hz
      refine ⟨f, 9, rfl, rfl, qd _ H3 (e2.trans e3) ?_⟩
      show Rp K H3 (V.bl (decide ((f : Int) ≤ 9))) (.bool true)
      rw [show decide ((f : Int) ≤ 9) = true from decide_eq_true (by omega)]
      exact .bl true
    | few =>
      refine eb_ifS (b := false) ((et_test (ev_eqS (h0 (Same.refl _)) ev_str)).as (by decide)) (fun z => by cases z) fun _ => eb_next (eb_ret (ev_if (b := false) ((et_test (ev_eqS (h0 (Same.refl _)) ev_str)).as (by decide)) (fun z => by cases z) fun _ => ?_))
      refine (ev_leI ((ev_lenT (hL (Same.refl _))).as (by rw [tws_len])) (h1' (Same.refl _))).as ?_
      show PyData.bool (decide ((ws.length : Int) ≤ 5)) = .bool (decide (ws.length ≤ 5))
      congr 1
      exact decide_eq_decide.mpr (by omega)
    | has z =>
      refine eb_ifS (b := false) ((et_test (ev_eqS (h0 (Same.refl _)) ev_str)).as (decide_eq_false (show ¬ ("has" : Str) = "folds" by decide))) (fun z => by cases z) fun _ => eb_next (eb_ret (ev_if (b := true) ((et_test (ev_eqS (h0 (Same.refl _)) ev_str)).as rfl) (fun _ => ?_) fun z => by cases z))
      exact ev_inT (ws := ws) (h1' (Same.refl _)) (hL (Same.refl _))

end
end K7

set_option Elab.async false
set_option linter.all false
set_option maxRecDepth 100000
set_option maxHeartbeats 4000000
namespace K7
open PySem PySem.Spec PyProof.Rows L2
section
variable {P : Program} {w : World} {K : PySem.W.Frag} {mg : Str → Option Value} {base : Heap}
/-- the lots behind a deed, and the error that is due -/
def laterD (c : S7) : Deed → PyData
  | .take i => if c.1.length = 1 then .tuple [tws c.1, .tuple [.str "few", .none]] else .tuple [tws (c.1.eraseIdx i), .none]
  | .change i z => .tuple [tws (chg c.1 i z), .none]
  | .put z => .tuple [tws (c.1 ++ [z]), .none]
  | _ => .none
def isMove : Deed → Bool
  | .take _ => true
  | .change _ _ => true
  | .put _ => true
  | _ => false
def PLater : List PyData → PyData → Prop := fun ds r => ∃ (c : S7) (e : Deed), ds = [tws c.1, e.data] ∧ Gw c.1 ∧ c.1 ≠ [] ∧ isMove e = true ∧ e.ok c ∧ r = laterD c e
def PBroken : List PyData → PyData → Prop := fun ds r => ∃ (ws : List Str) (l : List Wish), ds = [tws ws, wsD l] ∧ Gw ws ∧ ws ≠ [] ∧ l.length ≤ 1000 ∧ (∀ x ∈ l, x.ok) ∧ r = brkD ws l
def PLed : List PyData → PyData → Prop := fun ds r => ∃ (c : S7) (ps : List S7) (e : Deed), ds = [stsD (ps ++ [c]), e.data] ∧ c.Ok ∧ ps.length ≤ 100 ∧ e.ok c ∧ r = .tuple [stsD ((step c ps e).2.1 ++ [(step c ps e).1]), (step c ps e).2.2]
theorem s2 {a b : PyData} : [a, b].length ≤ sizeLine := by rw [sizeLine_eq]; show 2 ≤ _; omega
theorem erase_td {α : Type} (l : List α) (i : Nat) : l.eraseIdx i = l.take i ++ l.drop (i + 1) := by
  induction l generalizing i with
  | nil => simp
  | cons x r ih => cases i with
    | zero => rfl
    | succ i => rw [List.eraseIdx_cons_succ, ih]; rfl

theorem ok__law_later (W : Wr P w K mg base) (F__law_is_number : Fn P w K mg base CX0 1 "_law_is_number" ["_law_value", "_law_least", "_law_most_here"] (spD K PWithin)) (F__law_is_lot : Fn P w K mg base CX0 1 "_law_is_lot" ["_law_value"] (spD K PLot)) (F__law_letters_of : Fn P w K mg base CX0 1 "_law_letters_of" ["_law_words_here"] (spD K PLettersOf)) : Fn P w K mg base CX0 2 "_law_later" ["_law_words_here", "_law_deed_here"] (spD K PLater) := by
  refine fn_mk W.d__law_later W.g__law_later sc__law_later (fun vs H Q E h => ?_) (fun _ _ _ _ _ _ us hl => match us, hl with | [_, _], _ => rfl) (fun cdv A outer s H vs Q E hr h => ?_)
  · exact len1 (fun ds r ⟨z, x, e, _⟩ => by rw [e]; rfl) h
  · refine ⟨_, PSs.nox (pss_cons (ps_if (PW.pt (pw_and (pt_cmpR (neU (K := K) hr.units) (pe_ix (ixU (K := K)) (pv 1) pe_int (fun _ _ => rfl)) pe_str (nomark _)) (pw_and1 (pt_not (pt_val (pe_fn F__law_is_number (hr.mono (by decide)) rfl pass0 (pa_cons (pe_ix (ixU (K := K)) (pv 1) pe_int (fun _ _ => rfl)) (pa_cons pe_int (pa_cons (pe_op op_sub (pe_callB (lenU (K := K)) rfl W.n_len bt_len (pa_cons (pv 0) pa_nil)) pe_int) pa_nil))))))))) (pss_one (ps_ret (pe_tup (pa_cons (pv 0) (pa_cons (pe_tup (pa_cons pe_str (pa_cons (pe_ix (ixU (K := K)) (pv 1) pe_int (fun _ _ => rfl)) pa_nil))) pa_nil))))) pss_nil)
  (pss_cons (ps_if (pt_cmpR (eqU (K := K) hr.units) (pe_ix (ixU (K := K)) (pv 1) pe_int (fun _ _ => rfl)) pe_str (nomark _)) (pss_one (ps_ret (pe_ifExp (pt_cmpR op_gt (pe_callB (lenU (K := K)) rfl W.n_len bt_len (pa_cons (pv 0) pa_nil)) pe_int (nomark _)) (pe_tup (pa_cons (pe_op (addU (K := K)) (pe_slice (slU (K := K)) (pv 0) po_none (po_some (pe_ix (ixU (K := K)) (pv 1) pe_int (fun _ _ => rfl)))) (pe_slice (slU (K := K)) (pv 0) (po_some (pe_op (addU (K := K)) (pe_ix (ixU (K := K)) (pv 1) pe_int (fun _ _ => rfl)) pe_int)) po_none)) (pa_cons pe_non pa_nil))) (pe_tup (pa_cons (pv 0) (pa_cons (pe_tup (pa_cons pe_str (pa_cons pe_non pa_nil))) pa_nil)))))) pss_nil)
  (pss_cons (ps_if (pt_not (pt_val (pe_fn F__law_is_lot (hr.mono (by decide)) rfl pass0 (pa_cons (pe_ix (ixU (K := K)) (pv 1) (pe_un un_neg pe_int) (fun _ _ => rfl)) pa_nil)))) (pss_one (ps_ret (pe_tup (pa_cons (pv 0) (pa_cons (pe_tup (pa_cons pe_str (pa_cons (pe_ix (ixU (K := K)) (pv 1) (pe_un un_neg pe_int) (fun _ _ => rfl)) pa_nil))) pa_nil))))) pss_nil)
  (pss_cons (ps_if (PW.pt (pw_and (pt_cmpR (eqU (K := K) hr.units) (pe_ix (ixU (K := K)) (pv 1) pe_int (fun _ _ => rfl)) pe_str (nomark _)) (pw_and1 (pt_cmpR (eqU (K := K) hr.units) (pe_callB (lenU (K := K)) rfl W.n_len bt_len (pa_cons (pv 0) pa_nil)) pe_int (nomark _))))) (pss_one (ps_ret (pe_tup (pa_cons (pv 0) (pa_cons (pe_tup (pa_cons pe_str (pa_cons pe_int pa_nil))) pa_nil))))) pss_nil)
  (pss_cons (setU (i := 2) sc__law_later.nd (pe_op (addU (K := K)) (pv 0) (pe_tup (pa_cons (pe_ix (ixU (K := K)) (pv 1) pe_int (fun _ _ => rfl)) pa_nil))))
  (pss_cons (ps_if (pt_cmpR (eqU (K := K) hr.units) (pe_ix (ixU (K := K)) (pv 1) pe_int (fun _ _ => rfl)) pe_str (nomark _)) (pss_one (setU (i := 2) sc__law_later.nd (pe_op (addU (K := K)) (pe_op (addU (K := K)) (pe_slice (slU (K := K)) (pv 0) po_none (po_some (pe_ix (ixU (K := K)) (pv 1) pe_int (fun _ _ => rfl)))) (pe_tup (pa_cons (pe_ix (ixU (K := K)) (pv 1) pe_int (fun _ _ => rfl)) pa_nil))) (pe_slice (slU (K := K)) (pv 0) (po_some (pe_op (addU (K := K)) (pe_ix (ixU (K := K)) (pv 1) pe_int (fun _ _ => rfl)) pe_int)) po_none)))) pss_nil)
  (pss_cons (ps_if (pt_cmpR op_gt (pe_callB (lenU (K := K)) rfl W.n_len bt_len (pa_cons (pe_fn F__law_letters_of (hr.mono (by decide)) rfl pass0 (pa_cons (pv 2) pa_nil)) pa_nil)) pe_int (nomark _)) (pss_one (ps_ret (pe_tup (pa_cons (pv 0) (pa_cons (pe_tup (pa_cons pe_str (pa_cons (pe_callB (lenU (K := K)) rfl W.n_len bt_len (pa_cons (pe_fn F__law_letters_of (hr.mono (by decide)) rfl pass0 (pa_cons (pv 2) pa_nil)) pa_nil)) pa_nil))) pa_nil))))) pss_nil)
  (pss_one (ps_ret (pe_tup (pa_cons (pv 2) (pa_cons pe_non pa_nil)))))))))))), ?_⟩
    refine spD_body (fun vs H ds r hv hP => ?_) vs H Q E h
    obtain ⟨c, e, rfl, g, hne, hmv, hok, rfl⟩ := hP
    have hle := g.le
    obtain ⟨v, u, rfl, h1, h2⟩ := hv.two
    have hW : ∀ {σ : L2.St} {H' : Hp}, σ[0]? = some (some v) → Same H H' → EvD K (tVar 0) σ H' (tws c.1) := fun e0 e => ev_var e0 (h1.mono e)
    have hlenW : ∀ {σ : L2.St} {H' : Hp}, σ[0]? = some (some v) → Same H H' → EvD K (tCB (rLen K) (tCons (tVar 0) tNil)) σ H' (.int c.1.length) := fun e0 e => (ev_lenT (hW e0 e)).as (by rw [tws_len])
    have hD : ∀ {σ : L2.St} {H' : Hp}, σ[1]? = some (some u) → Same H H' → EvD K (tVar 1) σ H' e.data := fun e0 e => ev_var e0 (h2.mono e)
    have hcut : ∀ {σ : L2.St} {H' : Hp} {ti : TE} {i : Nat}, σ[0]? = some (some v) → Same H H' → i < c.1.length → EvD K ti σ H' (.int i) → EvD K (tSl (rSlU K) (tVar 0) tNoPart (tPart ti)) σ H' (tws (c.1.take i)) := fun e0 e hi ht => (ev_slT (hW e0 e) eo_none (eo_some ht)).as (by rw [cutD_take _ (by rw [List.length_map]; omega), ← List.map_take])
    have hcut2 : ∀ {σ : L2.St} {H' : Hp} {ti : TE} {i : Nat}, σ[0]? = some (some v) → Same H H' → i < c.1.length → EvD K ti σ H' (.int i) → EvD K (tSl (rSlU K) (tVar 0) (tPart (tOp (rAddU K) ti (tC (.int 1)))) tNoPart) σ H' (tws (c.1.drop (i + 1))) := fun {σ H' ti i} e0 e hi ht => (ev_slT (hW e0 e) (eo_some ((ev_addI ht (ev_int (i := 1))).as (e := .int ((i + 1 : Nat) : Int)) (by congr 1))) eo_none).as (by rw [cutD_drop _ (by rw [List.length_map]; omega), ← List.map_drop])
    have hnum : ∀ {H' : Hp} {ti : TE} {i : Nat}, Same H H' → i < c.1.length → EvD K ti (start N__law_later [v, u]) H' (.int i) → EvD K (tCall (spD K PWithin) [] E0 (tCons ti (tCons (tC (.int 0)) (tCons (tOp (rI0 fun i j => .int (i - j)) (tCB (rLen K) (tCons (tVar 0) tNil)) (tC (.int 1))) tNil)))) (start N__law_later [v, u]) H' (.bool true) := fun {H' ti i} e hi ht =>
      ev_call (P := PWithin) (ea_cons ht (ea_cons ev_int (ea_cons (ev_subI (hlenW rfl e) ev_int) ea_nil))) ⟨_, 0, _, rfl, rfl, by
        show PyData.bool true = .bool (decide ((0 : Int) ≤ (i : Nat)) && decide (((i : Nat) : Int) ≤ (c.1.length : Int) - 1))
        rw [decide_eq_true (by omega), decide_eq_true (by omega)]
        rfl⟩
    have few : ∀ {ws : List Str} {σ : L2.St} {H' : Hp} {ta : TE}, Gw ws → EvD K ta σ H' (tws ws) → EvD K (tCB (rLen K) (tCons (tCall (spD K PLettersOf) [] E0 (tCons ta tNil)) tNil)) σ H' (.int (thg ws).length) := fun {ws σ H' ta} g ha => ev_lenS (sz (by rw [thg_len]; have := g.things; omega)) (ev_call (P := PLettersOf) (ea_cons ha ea_nil) ⟨ws, rfl, g, rfl⟩)
    have fin8 : ∀ {ws : List Str}, Gw ws → decide ((8 : Int) < ((thg ws).length : Int)) = false := fun g => decide_eq_false (by rw [thg_len]; have := g.things; omega)
    cases e with
    | undo => cases hmv
    | lift d => cases hmv
    | promise x => cases hmv
    | take i =>
      have h0 : EvD K (tOp (rIx K) (tVar 1) (tC (.int 0))) (start N__law_later [v, u]) H (.str "take") := ev_ixT rfl (hD rfl (Same.refl _)) ev_int
      have hi1 : EvD K (tOp (rIx K) (tVar 1) (tC (.int 1))) (start N__law_later [v, u]) H (.int i) := ev_ixT rfl (hD rfl (Same.refl _)) ev_int
      have hi : i < c.1.length := hok
      refine eb_ifS (b := false) ((et_and (b := true) (c := false) ((et_test (ev_neS h0 ev_str)).as rfl) fun _ => (et_not (b := true) (et_val (hnum (Same.refl _) hi hi1))).as rfl).as rfl) (fun z => by cases z) fun _ => eb_next ?_
      refine eb_ifS (b := true) ((et_test (ev_eqS h0 ev_str)).as rfl) (fun _ => eb_retS ?_) (fun z => by cases z)
      by_cases h1w : c.1.length = 1
      · refine (ev_if (b := false) ((et_test (ev_gtI (hlenW rfl (Same.refl _)) ev_int)).as (decide_eq_false (by omega))) (fun z => by cases z) fun _ => ev_tup s2 (ea_cons (hW rfl (Same.refl _)) (ea_cons (ev_tup s2 (ea_cons ev_str (ea_cons ev_non ea_nil))) ea_nil))).as ?_
        show PyData.tuple [tws c.1, .tuple [.str "few", .none]] = if c.1.length = 1 then _ else _
        rw [if_pos h1w]
      · refine (ev_if (b := true) ((et_test (ev_gtI (hlenW rfl (Same.refl _)) ev_int)).as (decide_eq_true (by omega))) (fun _ => ev_tup (ds := [tws (c.1.eraseIdx i), .none]) s2 (ea_cons ((ev_catT (sz ?_) (hcut rfl (Same.refl _) hi hi1) (hcut2 rfl (Same.refl _) hi hi1)).as ?_) (ea_cons ev_non ea_nil))) (fun z => by cases z)).as ?_
        · rw [List.length_map, List.length_map, List.length_take, List.length_drop]; omega
        · rw [erase_td, tws, List.map_append]
        · show PyData.tuple [tws (c.1.eraseIdx i), .none] = if c.1.length = 1 then _ else _
          rw [if_neg h1w]
    | change i z =>
      obtain ⟨hi, g2⟩ : i < c.1.length ∧ Gw (chg c.1 i z) := hok
      have hlz : Lot z := g2.lot z (by simp [chg])
      have h0 : ∀ {σ : L2.St} {H' : Hp}, σ[1]? = some (some u) → Same H H' → EvD K (tOp (rIx K) (tVar 1) (tC (.int 0))) σ H' (.str "change") := fun e0 e => ev_ixT rfl (hD e0 e) ev_int
      have hi1 : ∀ {σ : L2.St} {H' : Hp}, σ[1]? = some (some u) → Same H H' → EvD K (tOp (rIx K) (tVar 1) (tC (.int 1))) σ H' (.int i) := fun e0 e => ev_ixT rfl (hD e0 e) ev_int
      have hz2 : ∀ {σ : L2.St} {H' : Hp}, σ[1]? = some (some u) → Same H H' → EvD K (tOp (rIx K) (tVar 1) (tC (.int 2))) σ H' (.str z) := fun e0 e => ev_ixT rfl (hD e0 e) ev_int
      have hzn : EvD K (tOp (rIx K) (tVar 1) (tUn (rU fun i => .int (-i)) (tC (.int 1)))) (start N__law_later [v, u]) H (.str z) := ev_ixT (i := -1) rfl (hD rfl (Same.refl _)) (ev_negI ev_int)
      refine eb_ifS (b := false) ((et_and (b := true) (c := false) ((et_test (ev_neS (h0 rfl (Same.refl _)) ev_str)).as rfl) fun _ => (et_not (b := true) (et_val (hnum (Same.refl _) hi (hi1 rfl (Same.refl _))))).as rfl).as rfl) (fun z => by cases z) fun _ => eb_next ?_
      refine eb_ifS (b := false) ((et_test (ev_eqS (h0 rfl (Same.refl _)) ev_str)).as rfl) (fun z => by cases z) fun _ => eb_next ?_
      refine eb_ifS (b := false) ((et_not (b := true) (et_val (ev_call (P := PLot) (ea_cons hzn ea_nil) ⟨z, rfl, hlz, rfl⟩))).as rfl) (fun z => by cases z) fun _ => eb_next ?_
      refine eb_ifS (b := false) ((et_and (b := false) (c := false) ((et_test (ev_eqS (h0 rfl (Same.refl _)) ev_str)).as rfl) fun z => by cases z).as rfl) (fun z => by cases z) fun _ => eb_next ?_
      refine eb_set (ev_catT (sz (by rw [List.length_map]; show c.1.length + 1 ≤ _; omega)) (hW rfl (Same.refl _)) (ev_tup s1 (ea_cons (hi1 rfl (Same.refl _)) ea_nil))) fun v1 H1 e1 _ => ?_
      refine eb_seq (es_if (b := true) ((et_test (ev_eqS (h0 rfl e1) ev_str)).as rfl) (fun _ => es_set (d := tws (chg c.1 i z)) ((ev_catT (sz ?_) (ev_catT (sz ?_) (hcut rfl e1 hi (hi1 rfl e1)) (ev_tup s1 (ea_cons (hz2 rfl e1) ea_nil))) (hcut2 rfl e1 hi (hi1 rfl e1))).as ?_)) (fun z => by cases z)) fun σ2 H2 e2 ⟨v2, hv2, hs2⟩ => ?_
      · rw [List.length_append, List.length_map, List.length_map, List.length_take, List.length_drop]; show _ + 1 + _ ≤ _; omega
      · rw [List.length_map, List.length_take]; show _ + 1 ≤ _; omega
      · simp [chg, tws]
      subst hs2
      refine eb_ifS (b := false) ((et_test (ev_gtI (few g2 (ev_var rfl hv2)) ev_int)).as (fin8 g2)) (fun z => by cases z) fun _ => eb_next ?_
      exact eb_ret (ev_tup s2 (ea_cons (ev_var rfl hv2) (ea_cons ev_non ea_nil)))
    | put z =>
      have g2 : Gw (c.1 ++ [z]) := hok
      have hle2 : c.1.length + 1 ≤ 6 := by have := g2.le; rw [List.length_append] at this; exact this
      have hlz : Lot z := g2.lot z (by simp)
      have h0 : ∀ {σ : L2.St} {H' : Hp}, σ[1]? = some (some u) → Same H H' → EvD K (tOp (rIx K) (tVar 1) (tC (.int 0))) σ H' (.str "put") := fun e0 e => ev_ixT rfl (hD e0 e) ev_int
      have hz1 : ∀ {σ : L2.St} {H' : Hp}, σ[1]? = some (some u) → Same H H' → EvD K (tOp (rIx K) (tVar 1) (tC (.int 1))) σ H' (.str z) := fun e0 e => ev_ixT rfl (hD e0 e) ev_int
      have hzn : EvD K (tOp (rIx K) (tVar 1) (tUn (rU fun i => .int (-i)) (tC (.int 1)))) (start N__law_later [v, u]) H (.str z) := ev_ixT (i := -1) rfl (hD rfl (Same.refl _)) (ev_negI ev_int)
      refine eb_ifS (b := false) ((et_and (b := false) (c := false) ((et_test (ev_neS (h0 rfl (Same.refl _)) ev_str)).as rfl) fun z => by cases z).as rfl) (fun z => by cases z) fun _ => eb_next ?_
      refine eb_ifS (b := false) ((et_test (ev_eqS (h0 rfl (Same.refl _)) ev_str)).as rfl) (fun z => by cases z) fun _ => eb_next ?_
      refine eb_ifS (b := false) ((et_not (b := true) (et_val (ev_call (P := PLot) (ea_cons hzn ea_nil) ⟨z, rfl, hlz, rfl⟩))).as rfl) (fun z => by cases z) fun _ => eb_next ?_
      refine eb_ifS (b := false) ((et_and (b := true) (c := false) ((et_test (ev_eqS (h0 rfl (Same.refl _)) ev_str)).as rfl) fun _ => (et_test (ev_eqI (hlenW rfl (Same.refl _)) ev_int)).as (decide_eq_false (by omega))).as rfl) (fun z => by cases z) fun _ => eb_next ?_
      refine eb_set (d := tws (c.1 ++ [z])) ((ev_catT (sz (by rw [List.length_map]; show c.1.length + 1 ≤ _; omega)) (hW rfl (Same.refl _)) (ev_tup s1 (ea_cons (hz1 rfl (Same.refl _)) ea_nil))).as (by rw [tws, List.map_append]; rfl)) fun v1 H1 e1 hv1 => ?_
      refine eb_ifS (b := false) ((et_test (ev_eqS (h0 rfl e1) ev_str)).as rfl) (fun z => by cases z) fun _ => eb_next ?_
      refine eb_ifS (b := false) ((et_test (ev_gtI (few g2 (ev_var rfl hv1)) ev_int)).as (fin8 g2)) (fun z => by cases z) fun _ => eb_next ?_
      exact eb_ret (ev_tup s2 (ea_cons (ev_var rfl hv1) (ea_cons ev_non ea_nil)))

end
end K7

set_option Elab.async false
set_option linter.all false
set_option maxRecDepth 100000
set_option maxHeartbeats 4000000
namespace K7
open PySem PySem.Spec PyProof.Rows L2
theorem cutD_init {α : Type} (f : α → PyData) (l : List α) (x : α) : cutD ((l ++ [x]).map f) none (some (-1)) = l.map f := by
  unfold cutD HT.sIx
  simp
  have e : ((-1 : Int) + ((l.length : Int) + 1)).toNat = (l.map f).length := by rw [List.length_map]; omega
  rw [e, List.take_left']
  rfl
theorem atI_last {α : Type} (f : α → PyData) (l : List α) (x : α) : L2.atI ((l ++ [x]).map f) (-1) = some (f x) := by
  unfold L2.atI
  rw [List.map_append, List.length_append, List.length_map]
  unfold L2.ixN
  have e : ((-1 : Int) + ((l.length : Int) + 1)).toNat = (l.map f).length := by rw [List.length_map]; omega
  have e1 : (1 : Int) ≤ (l.length : Int) + 1 := by omega
  simp [e1]
  rw [e]
  simp
theorem eb_next_seq {K : PySem.W.Frag} {σ : L2.St} {H : Hp} {t u w : TS} {r : PyData} (h : EvB K (tSeq t (tSeq u w)) σ H r) : EvB K (tSeq (tSeq t u) w) σ H r := h
/-- the places of the wishes that do not hold -/
def wrongs (ws : List Str) (l : List Wish) : List Nat := (List.range l.length).filter fun k => !keeps ws (l.getD k .few)
theorem wrongs_nil {ws : List Str} {l : List Wish} (h : wrongs ws l = []) : firstB ws l = none := firstB_none fun j y hy => by
  obtain ⟨hj, _⟩ := List.getElem?_eq_some_iff.mp hy
  have := List.filter_eq_nil_iff.mp h j (List.mem_range.mpr hj)
  rw [List.getD_eq_getElem?_getD, hy] at this
  simpa using this
theorem wrongs_cons {ws : List Str} {l : List Wish} {k : Nat} {r : List Nat} (h : wrongs ws l = k :: r) : firstB ws l = some k := by
  have hh : (wrongs ws l).head? = some k := by rw [h]; rfl
  unfold wrongs at hh
  rw [List.head?_filter, List.find?_range_eq_some] at hh
  obtain ⟨h1, h2, h3⟩ := hh
  have hk := List.mem_range.mp h2
  have hg : l[k]? = some (l.getD k .few) := by rw [List.getD_eq_getElem?_getD, List.getElem?_eq_getElem hk]; rfl
  refine firstB_some hg (by simpa using h1) fun j y hj hy => ?_
  have := h3 j hj
  rw [List.getD_eq_getElem?_getD, hy] at this
  simpa using this
section
variable {P : Program} {w : World} {K : PySem.W.Frag} {mg : Str → Option Value} {base : Heap}

theorem ok__law_broken (W : Wr P w K mg base) (F__law_keeps : Fn P w K mg base CX0 9 "_law_keeps" ["_law_words_here", "_law_want_here"] (spD K PKeeps)) : Fn P w K mg base CX0 10 "_law_broken" ["_law_words_here", "_law_wants"] (spD K PBroken) := by
  refine fn_mk W.d__law_broken W.g__law_broken sc__law_broken (fun vs H Q E h => ?_) (fun _ _ _ _ _ _ us hl => match us, hl with | [_, _], _ => rfl) (fun cdv A outer s H vs Q E hr h => ?_)
  · exact len1 (fun ds r ⟨z, x, e, _⟩ => by rw [e]; rfl) h
  · refine ⟨_, PSs.nox (pss_cons (ps_setLc (i := 2) (own := [("_law_k", 3)]) rfl sc__law_broken.nd rfl rfl (sw_true rfl rfl rfl (by decide +kernel)) (pi_range1 rfl W.n_range (pa_cons (pe_callB (lenU (K := K)) rfl W.n_len bt_len (pa_cons (pv 1) pa_nil)) pa_nil)) (blkOk_by (own := [("_law_k", 3)]) (N := N__law_broken) (sc := (defScope s__law_broken)) (by decide +kernel)) (fun _ _ _ _ _ => (nameU (i := 3) sc__law_broken.nd)) (fun _ _ _ _ _ => (pts_one (pt_not (pt_val (pe_fn F__law_keeps (hr.mono (by decide)) rfl pass0 (pa_cons (pv 0) (pa_cons (pe_ix (ixU (K := K)) (pv 1) (pv 3) (fun _ _ => rfl)) pa_nil))))))) (fun _ _ _ _ _ => (pv 3)))
  (pss_one (ps_ret (pe_ifExp (pt_cmpR (neU (K := K) hr.units) (pv 2) (pe_lst pa_nil) (nomark _)) (pe_tup (pa_cons pe_str (pa_cons (pe_ix (ixU (K := K)) (pv 2) pe_int (fun _ _ => rfl)) pa_nil))) pe_non)))), ?_⟩
    refine spD_body (fun vs H ds r hv hP => ?_) vs H Q E h
    obtain ⟨ws, l, rfl, g, hne, hl, hok, rfl⟩ := hP
    obtain ⟨v, u, rfl, h1, h2⟩ := hv.two
    refine eb_set (d := .list ((wrongs ws l).map fun k => .int (k : Nat))) ((ev_lcF (b := fun d => match d with | .int k => !keeps ws (l.getD k.toNat .few) | _ => false) (f := fun d => d) (ei_range1 (i := l.length) (by omega) (by omega) ((ev_lenT (ev_var rfl h2)).as (by rw [List.length_map]))) (by rw [upto_len]; omega) (fun d hd _ => ?_) (fun d x H1 hd e1 hv => ?_) (fun d x H1 hd e1 hv _ => ev_var rfl hv)).as ?_) fun z H1 e1 hz => ?_
    · obtain ⟨k, hk, rfl⟩ := mem_upto hd
      rfl
    · obtain ⟨k, hk, rfl⟩ := mem_upto hd
      have hkl : k < l.length := by omega
      have hg : l[k]? = some (l.getD k .few) := by rw [List.getD_eq_getElem?_getD, List.getElem?_eq_getElem hkl]; rfl
      refine (et_not (et_val (ev_call (P := PKeeps) (ea_cons (ev_var rfl (h1.mono e1)) (ea_cons (ev_ixT (i := (k : Nat)) (d := (l.getD k .few).data) (atI_nat (by rw [List.getElem?_map, hg]; rfl)) (ev_var rfl (h2.mono e1)) ((ev_var rfl hv).as (by rw [Int.zero_add]))) ea_nil)) ⟨ws, _, rfl, g, hne, hok _ (List.mem_of_getElem? hg), rfl⟩))).as ?_
      show (!keeps ws (l.getD k .few)) = !keeps ws (l.getD ((0 : Int) + k).toNat .few)
      rw [Int.zero_add, Int.toNat_natCast]
    · unfold upto wrongs
      rw [Int.toNat_natCast, List.filter_map, List.map_map]
      have ef : ((fun d => match d with | PyData.int k => !keeps ws (l.getD k.toNat .few) | _ => false) ∘ fun k : Nat => PyData.int (0 + (k : Int))) = fun k : Nat => !keeps ws (l.getD k .few) := funext fun k => by
        show (!keeps ws (l.getD ((0 : Int) + k).toNat .few)) = _
        rw [Int.zero_add, Int.toNat_natCast]
      rw [ef]
      congr 1
      apply List.map_congr_left
      intro k _
      show PyData.int ((0 : Int) + k) = .int k
      rw [Int.zero_add]
    · have hsh : SeqAt.shaped (.list ((wrongs ws l).map fun k => .int (k : Nat))) = true := (shp_list (n := 0) fun d hd => by
        obtain ⟨k, _, rfl⟩ := List.mem_map.mp hd
        exact shp_int _).ok (by decide)
      refine eb_ret ?_
      cases hw : wrongs ws l with
      | nil =>
        rw [hw] at hz hsh
        refine (ev_if (b := false) ((et_test (ev_neG hsh (e := .list []) rfl (ev_var rfl hz) (ev_lst s0 ea_nil))).as rfl) (fun z => by cases z) fun _ => ev_non).as ?_
        rw [brkD, wrongs_nil hw]
      | cons k r =>
        rw [hw] at hz hsh
        refine (ev_if (b := true) ((et_test (ev_neG hsh (e := .list []) rfl (ev_var rfl hz) (ev_lst s0 ea_nil))).as rfl) (fun _ => ev_tup s2 (ea_cons ev_str (ea_cons (ev_ixL (i := ((0 : Nat) : Int)) (d := .int (k : Nat)) (atI_nat rfl) (ev_var rfl hz) ev_int) ea_nil))) fun z => by cases z).as ?_
        rw [brkD, wrongs_cons hw]

theorem ok__law_led (W : Wr P w K mg base) (F__law_is_number : Fn P w K mg base CX0 1 "_law_is_number" ["_law_value", "_law_least", "_law_most_here"] (spD K PWithin)) (F__law_is_wish : Fn P w K mg base CX0 2 "_law_is_wish" ["_law_value"] (spD K PWish)) (F__law_keeps : Fn P w K mg base CX0 9 "_law_keeps" ["_law_words_here", "_law_want_here"] (spD K PKeeps)) (F__law_later : Fn P w K mg base CX0 2 "_law_later" ["_law_words_here", "_law_deed_here"] (spD K PLater)) (F__law_broken : Fn P w K mg base CX0 10 "_law_broken" ["_law_words_here", "_law_wants"] (spD K PBroken)) : Fn P w K mg base CX0 11 "_law_led" ["_law_stands", "_law_deed_here"] (spD K PLed) := by
  refine fn_mk W.d__law_led W.g__law_led sc__law_led (fun vs H Q E h => ?_) (fun _ _ _ _ _ _ us hl => match us, hl with | [_, _], _ => rfl) (fun cdv A outer s H vs Q E hr h => ?_)
  · exact len1 (fun ds r ⟨z, x, e, e2, _⟩ => by rw [e2]; rfl) h
  · refine ⟨_, PSs.nox (pss_cons (ps_asg (pe_ix (ixU (K := K)) (pv 0) (pe_un un_neg pe_int) (fun _ _ => rfl)) (gtupU (K := K) (n := 2) rfl (pgs_cons (nameU (i := 2) sc__law_led.nd) (pgs_cons (nameU (i := 3) sc__law_led.nd) pgs_nil))))
  (pss_cons (ps_if (pt_cmpR (eqU (K := K) hr.units) (pe_ix (ixU (K := K)) (pv 1) pe_int (fun _ _ => rfl)) pe_str (nomark _)) (pss_one (ps_ret (pe_ifExp (pt_cmpR op_gt (pe_callB (lenU (K := K)) rfl W.n_len bt_len (pa_cons (pv 0) pa_nil)) pe_int (nomark _)) (pe_tup (pa_cons (pe_slice (slU (K := K)) (pv 0) po_none (po_some (pe_un un_neg pe_int))) (pa_cons (pe_tup (pa_cons pe_str (pa_cons pe_non pa_nil))) pa_nil))) (pe_tup (pa_cons (pv 0) (pa_cons (pe_tup (pa_cons pe_str (pa_cons pe_non pa_nil))) pa_nil)))))) pss_nil)
  (pss_cons (ps_if (pt_cmpR (eqU (K := K) hr.units) (pe_ix (ixU (K := K)) (pv 1) pe_int (fun _ _ => rfl)) pe_str (nomark _)) (pss_cons (ps_if (pt_not (pt_val (pe_fn F__law_is_number (hr.mono (by decide)) rfl pass0 (pa_cons (pe_ix (ixU (K := K)) (pv 1) pe_int (fun _ _ => rfl)) (pa_cons pe_int (pa_cons (pe_op op_sub (pe_callB (lenU (K := K)) rfl W.n_len bt_len (pa_cons (pv 3) pa_nil)) pe_int) pa_nil)))))) (pss_one (ps_ret (pe_tup (pa_cons (pv 0) (pa_cons (pe_tup (pa_cons pe_str (pa_cons (pe_ix (ixU (K := K)) (pv 1) pe_int (fun _ _ => rfl)) pa_nil))) pa_nil))))) pss_nil)
  (pss_one (ps_ret (pe_tup (pa_cons (pe_op (addU (K := K)) (pv 0) (pe_lst (pa_cons (pe_tup (pa_cons (pv 2) (pa_cons (pe_op (addU (K := K)) (pe_slice (slU (K := K)) (pv 3) po_none (po_some (pe_ix (ixU (K := K)) (pv 1) pe_int (fun _ _ => rfl)))) (pe_slice (slU (K := K)) (pv 3) (po_some (pe_op (addU (K := K)) (pe_ix (ixU (K := K)) (pv 1) pe_int (fun _ _ => rfl)) pe_int)) po_none)) pa_nil))) pa_nil))) (pa_cons (pe_tup (pa_cons pe_str (pa_cons pe_non pa_nil))) pa_nil)))))) pss_nil)
  (pss_cons (ps_if (pt_cmpR (eqU (K := K) hr.units) (pe_ix (ixU (K := K)) (pv 1) pe_int (fun _ _ => rfl)) pe_str (nomark _)) (pss_cons (ps_if (pt_not (pt_val (pe_fn F__law_is_wish (hr.mono (by decide)) rfl pass0 (pa_cons (pe_ix (ixU (K := K)) (pv 1) pe_int (fun _ _ => rfl)) pa_nil)))) (pss_one (ps_ret (pe_tup (pa_cons (pv 0) (pa_cons (pe_tup (pa_cons pe_str (pa_cons (pe_ix (ixU (K := K)) (pv 1) pe_int (fun _ _ => rfl)) pa_nil))) pa_nil))))) pss_nil)
  (pss_cons (ps_if (pt_not (pt_val (pe_fn F__law_keeps (hr.mono (by decide)) rfl pass0 (pa_cons (pv 2) (pa_cons (pe_ix (ixU (K := K)) (pv 1) pe_int (fun _ _ => rfl)) pa_nil))))) (pss_one (ps_ret (pe_tup (pa_cons (pv 0) (pa_cons (pe_tup (pa_cons pe_str (pa_cons (pe_callB (lenU (K := K)) rfl W.n_len bt_len (pa_cons (pv 3) pa_nil)) pa_nil))) pa_nil))))) pss_nil)
  (pss_one (ps_ret (pe_tup (pa_cons (pe_op (addU (K := K)) (pv 0) (pe_lst (pa_cons (pe_tup (pa_cons (pv 2) (pa_cons (pe_op (addU (K := K)) (pv 3) (pe_tup (pa_cons (pe_ix (ixU (K := K)) (pv 1) pe_int (fun _ _ => rfl)) pa_nil))) pa_nil))) pa_nil))) (pa_cons (pe_tup (pa_cons pe_str (pa_cons pe_non pa_nil))) pa_nil))))))) pss_nil)
  (pss_cons (ps_asg (pe_fn F__law_later (hr.mono (by decide)) rfl pass0 (pa_cons (pv 2) (pa_cons (pv 1) pa_nil))) (gtupU (K := K) (n := 2) rfl (pgs_cons (nameU (i := 4) sc__law_led.nd) (pgs_cons (nameU (i := 5) sc__law_led.nd) pgs_nil))))
  (pss_cons (setU (i := 5) sc__law_led.nd (pe_ifExp (pt_cmp (pc_isN (pv 5))) (pe_fn F__law_broken (hr.mono (by decide)) rfl pass0 (pa_cons (pv 4) (pa_cons (pv 3) pa_nil))) (pv 5)))
  (pss_one (ps_ret (pe_ifExp (pt_cmp (pc_notN (pv 5))) (pe_tup (pa_cons (pv 0) (pa_cons (pv 5) pa_nil))) (pe_tup (pa_cons (pe_op (addU (K := K)) (pv 0) (pe_lst (pa_cons (pe_tup (pa_cons (pv 4) (pa_cons (pv 3) pa_nil))) pa_nil))) (pa_cons (pe_tup (pa_cons pe_str (pa_cons pe_non pa_nil))) pa_nil)))))))))))), ?_⟩
    refine spD_body (fun vs H ds r hv hP => ?_) vs H Q E h
    obtain ⟨c, ps, e, rfl, hc, hps, hok, rfl⟩ := hP
    have hle := hc.le
    obtain ⟨v, u, rfl, h1, h2⟩ := hv.two
    have hS : ∀ {σ : L2.St} {H' : Hp}, σ[0]? = some (some v) → Same H H' → EvD K (tVar 0) σ H' (stsD (ps ++ [c])) := fun e0 e => ev_var e0 (h1.mono e)
    have hD : ∀ {σ : L2.St} {H' : Hp}, σ[1]? = some (some u) → Same H H' → EvD K (tVar 1) σ H' e.data := fun e0 e => ev_var e0 (h2.mono e)
    have hadd : ∀ {c' : S7} {σ : L2.St} {H' : Hp} {ta tb : TE}, σ[0]? = some (some v) → Same H H' → EvD K ta σ H' (tws c'.1) → EvD K tb σ H' (wsD c'.2) → EvD K (tOp (rAddU K) (tVar 0) (tLst (tCons (tTup (tCons ta (tCons tb tNil))) tNil))) σ H' (stsD (ps ++ [c] ++ [c'])) := fun {c' σ H' ta tb} e0 e ha hb =>
      (ev_catL (ds := (ps ++ [c]).map stD) (es := [stD c']) (sz (by rw [List.length_map, List.length_append]; show ps.length + 1 + 1 ≤ _; omega)) (hS e0 e) (ev_lst s1 (ea_cons (ev_tup s2 (ea_cons ha (ea_cons hb ea_nil))) ea_nil))).as (by simp [stsD])
    have hgave : ∀ {σ : L2.St} {H' : Hp}, EvD K (tTup (tCons (tC (.str "gave")) (tCons (tC .non) tNil))) σ H' gave := ev_tup s2 (ea_cons ev_str (ea_cons ev_non ea_nil))
    refine eb_setP (d := tws c.1) (e := wsD c.2) (ev_ixL (atI_last stD ps c) (hS rfl (Same.refl _)) (ev_negI (ev_int (i := 1)))) fun a b H1 e1 ha hb => ?_
    have hW : ∀ {σ : L2.St} {H' : Hp}, σ[2]? = some (some a) → Same H1 H' → EvD K (tVar 2) σ H' (tws c.1) := fun e0 e => ev_var e0 (ha.mono e)
    have hX : ∀ {σ : L2.St} {H' : Hp}, σ[3]? = some (some b) → Same H1 H' → EvD K (tVar 3) σ H' (wsD c.2) := fun e0 e => ev_var e0 (hb.mono e)
    have hlX : ∀ {σ : L2.St} {H' : Hp}, σ[3]? = some (some b) → Same H1 H' → EvD K (tCB (rLen K) (tCons (tVar 3) tNil)) σ H' (.int c.2.length) := fun e0 e => (ev_lenT (ds := c.2.map Wish.data) (hX e0 e)).as (by rw [List.length_map])
    have hfin : ∀ {σ : L2.St} {ws : List Str} {t1 : TE}, Gw ws → ws ≠ [] → EvD K t1 σ H1 (.tuple [tws ws, .none]) → σ = (((start N__law_led [v, u]).set 2 (some a)).set 3 (some b)) → EvB K
        (tSeq (tAsg t1 (gTup K 2 (gCons (gName 4) (gCons (gName 5) gNil))))
          (tSeq (tAsg (tIf (tB (tIsN (tVar 5))) (tCall (spD K PBroken) [] E0 (tCons (tVar 4) (tCons (tVar 3) tNil))) (tVar 5)) (gName 5))
            (tRet (tIf (tB (tNotN (tVar 5))) (tTup (tCons (tVar 0) (tCons (tVar 5) tNil))) (tTup (tCons (tOp (rAddU K) (tVar 0) (tLst (tCons (tTup (tCons (tVar 4) (tCons (tVar 3) tNil))) tNil))) (tCons (tTup (tCons (tC (.str "gave")) (tCons (tC .non) tNil))) tNil)))))))
        σ H1 (.tuple [stsD ((fin c ps ws).2.1 ++ [(fin c ps ws).1]), (fin c ps ws).2.2]) := by
      intro σ ws t1 g hne ht hs
      subst hs
      refine eb_setP ht fun a2 b2 H2 e2 ha2 hb2 => ?_
      refine eb_set (ev_if (b := true) ((et_val (ev_isN (ev_var rfl hb2))).as rfl) (fun _ => ev_call (P := PBroken) (ea_cons (ev_var rfl ha2) (ea_cons (hX rfl e2) ea_nil)) ⟨ws, c.2, rfl, g, hne, by omega, hc.ok, rfl⟩) fun z => by cases z) fun v5 H3 e3 hv5 => ?_
      refine eb_ret ?_
      cases hf : firstB ws c.2 with
      | some i =>
        have hv5' : Rp K H3 v5 (.tuple [.str "broken", .int i]) := by rw [brkD, hf] at hv5; exact hv5
        refine (ev_if (b := true) ((et_val (ev_notN (ev_var rfl hv5'))).as rfl) (fun _ => ev_tup s2 (ea_cons (hS rfl ((e1.trans e2).trans e3)) (ea_cons (ev_var rfl hv5') ea_nil))) fun z => by cases z).as ?_
        rw [fin, hf]
      | none =>
        have hv5' : Rp K H3 v5 .none := by rw [brkD, hf] at hv5; exact hv5
        refine (ev_if (b := false) ((et_val (ev_notN (ev_var rfl hv5'))).as rfl) (fun z => by cases z) fun _ => ev_tup s2 (ea_cons (hadd (c' := (ws, c.2)) rfl ((e1.trans e2).trans e3) (ev_var rfl (ha2.mono e3)) (hX rfl (e2.trans e3))) (ea_cons hgave ea_nil))).as ?_
        rw [fin, hf]
    cases e with
    | undo =>
      have h0 : EvD K (tOp (rIx K) (tVar 1) (tC (.int 0))) (((start N__law_led [v, u]).set 2 (some a)).set 3 (some b)) H1 (.str "undo") := ev_ixT rfl (hD rfl e1) ev_int
      have hlS : EvD K (tCB (rLen K) (tCons (tVar 0) tNil)) (((start N__law_led [v, u]).set 2 (some a)).set 3 (some b)) H1 (.int ((ps.length + 1 : Nat) : Int)) := (ev_lenL (hS rfl e1)).as (by rw [List.length_map, List.length_append]; rfl)
      refine eb_ifS (b := true) ((et_test (ev_eqS h0 ev_str)).as rfl) (fun _ => eb_retS ?_) (fun z => by cases z)
      rcases List.eq_nil_or_concat ps with rfl | ⟨qs, c', rfl⟩
      · refine (ev_if (b := false) ((et_test (ev_gtI hlS ev_int)).as (by decide)) (fun z => by cases z) fun _ => ev_tup s2 (ea_cons (hS rfl e1) (ea_cons (ev_tup s2 (ea_cons ev_str (ea_cons ev_non ea_nil))) ea_nil))).as rfl
      · refine (ev_if (b := true) ((et_test (ev_gtI hlS ev_int)).as (decide_eq_true (by simp; omega))) (fun _ => ev_tup s2 (ea_cons ((ev_slL (hS rfl e1) eo_none (eo_some (K := K) (ev_negI (ev_int (i := 1))))).as (by rw [cutD_init])) (ea_cons hgave ea_nil))) fun z => by cases z).as ?_
        rw [step, List.concat_eq_append, List.getLast?_append]
        simp [stsD]
    | lift d =>
      have h0 : EvD K (tOp (rIx K) (tVar 1) (tC (.int 0))) (((start N__law_led [v, u]).set 2 (some a)).set 3 (some b)) H1 (.str "lift") := ev_ixT rfl (hD rfl e1) ev_int
      have hd1 : ∀ {H' : Hp}, Same H1 H' → EvD K (tOp (rIx K) (tVar 1) (tC (.int 1))) (((start N__law_led [v, u]).set 2 (some a)).set 3 (some b)) H' d := fun e => ev_ixT rfl (hD rfl (e1.trans e)) ev_int
      have hn : noDict d = true := hok
      refine eb_ifS (b := false) ((et_test (ev_eqS h0 ev_str)).as rfl) (fun z => by cases z) fun _ => eb_next ?_
      refine eb_ifS (b := true) ((et_test (ev_eqS h0 ev_str)).as rfl) (fun _ => ?_) (fun z => by cases z)
      have ht : EvT (tNot (tB (tCall (spD K PWithin) [] E0 (tCons (tOp (rIx K) (tVar 1) (tC (.int 1))) (tCons (tC (.int 0)) (tCons (tOp (rI0 fun i j => .int (i - j)) (tCB (rLen K) (tCons (tVar 3) tNil)) (tC (.int 1))) tNil)))))) (((start N__law_led [v, u]).set 2 (some a)).set 3 (some b)) H1 (!withinD d 0 ((c.2.length : Int) - 1)) :=
        et_not (et_val (ev_call (P := PWithin) (ea_cons (hd1 (Same.refl _)) (ea_cons ev_int (ea_cons (ev_subI (hlX rfl (Same.refl _)) ev_int) ea_nil))) ⟨d, 0, _, rfl, hn, rfl⟩))
      cases hk : withinD d 0 ((c.2.length : Int) - 1) with
      | false =>
        rw [hk] at ht
        refine eb_next_seq (eb_ifS (b := true) ht (fun _ => eb_retS ((ev_tup s2 (ea_cons (hS rfl e1) (ea_cons (ev_tup s2 (ea_cons ev_str (ea_cons (hd1 (Same.refl _)) ea_nil))) ea_nil))).as ?_)) fun z => by cases z)
        rw [step, hk]
        rfl
      | true =>
        rw [hk] at ht
        obtain ⟨i, rfl, hi⟩ : ∃ i : Nat, d = .int i ∧ i < c.2.length := by
          cases d with
          | int j =>
            have hk' : (decide (0 ≤ j) && decide (j ≤ (c.2.length : Int) - 1)) = true := hk
            rw [Bool.and_eq_true] at hk'
            have k1 := of_decide_eq_true hk'.1
            have k2 := of_decide_eq_true hk'.2
            exact ⟨j.toNat, by congr 1; omega, by omega⟩
          | _ => cases hk
        have hi1 : EvD K (tOp (rIx K) (tVar 1) (tC (.int 1))) (((start N__law_led [v, u]).set 2 (some a)).set 3 (some b)) H1 (.int (i : Nat)) := hd1 (Same.refl _)
        have hw := ev_catT (K := K) (by rw [sizeLine_eq, List.length_map, List.length_map, List.length_take, List.length_drop]; omega) ((ev_slT (hX rfl (Same.refl _)) eo_none (eo_some hi1)).as (e := .tuple ((c.2.take i).map Wish.data)) (by rw [cutD_take _ (by rw [List.length_map]; omega), ← List.map_take]))
          ((ev_slT (hX rfl (Same.refl _)) (eo_some ((ev_addI hi1 (ev_int (i := 1))).as (e := .int ((i + 1 : Nat) : Int)) (by congr 1))) eo_none).as (e := .tuple ((c.2.drop (i + 1)).map Wish.data)) (by rw [cutD_drop _ (by rw [List.length_map]; omega), ← List.map_drop]))
        refine eb_next_seq (eb_ifS (b := false) ht (fun z => by cases z) fun _ => eb_next (eb_retS ((ev_tup s2 (ea_cons (hadd (c' := (c.1, c.2.take i ++ c.2.drop (i + 1))) rfl e1 (hW rfl (Same.refl _)) (hw.as (by rw [wsD, List.map_append]))) (ea_cons hgave ea_nil))).as ?_)))
        rw [step, hk]
        simp [toI]
    | promise x =>
      have h0 : EvD K (tOp (rIx K) (tVar 1) (tC (.int 0))) (((start N__law_led [v, u]).set 2 (some a)).set 3 (some b)) H1 (.str "promise") := ev_ixT rfl (hD rfl e1) ev_int
      have hx1 : EvD K (tOp (rIx K) (tVar 1) (tC (.int 1))) (((start N__law_led [v, u]).set 2 (some a)).set 3 (some b)) H1 x.data := ev_ixT rfl (hD rfl e1) ev_int
      have hx : x.ok := hok
      refine eb_ifS (b := false) ((et_test (ev_eqS h0 ev_str)).as rfl) (fun z => by cases z) fun _ => eb_next ?_
      refine eb_ifS (b := false) ((et_test (ev_eqS h0 ev_str)).as rfl) (fun z => by cases z) fun _ => eb_next ?_
      refine eb_ifS (b := true) ((et_test (ev_eqS h0 ev_str)).as rfl) (fun _ => ?_) (fun z => by cases z)
      refine eb_next_seq (eb_ifS (b := false) ((et_not (b := true) (et_val (ev_call (P := PWish) (ea_cons hx1 ea_nil) ⟨x, rfl, hx, rfl⟩))).as rfl) (fun z => by cases z) fun _ => eb_next ?_)
      have ht := et_not (et_val (ev_call (E := E0) (P := PKeeps) (ea_cons (hW rfl (Same.refl _)) (ea_cons hx1 ea_nil)) ⟨c.1, x, rfl, hc.g, hc.ne, hx, rfl⟩))
      cases hk : keeps c.1 x with
      | false =>
        rw [hk] at ht
        refine eb_next_seq (eb_ifS (b := true) ht (fun _ => eb_retS ((ev_tup s2 (ea_cons (hS rfl e1) (ea_cons (ev_tup s2 (ea_cons ev_str (ea_cons (hlX rfl (Same.refl _)) ea_nil))) ea_nil))).as ?_)) fun z => by cases z)
        rw [step, hk]
        rfl
      | true =>
        rw [hk] at ht
        refine eb_next_seq (eb_ifS (b := false) ht (fun z => by cases z) fun _ => eb_next (eb_retS ((ev_tup s2 (ea_cons (hadd (c' := (c.1, c.2 ++ [x])) rfl e1 (hW rfl (Same.refl _)) ((ev_catT (sz (by rw [List.length_map]; show c.2.length + 1 ≤ _; omega)) (hX rfl (Same.refl _)) (ev_tup s1 (ea_cons hx1 ea_nil))).as (by rw [wsD, List.map_append]; rfl))) (ea_cons hgave ea_nil))).as ?_)))
        rw [step, hk]
        rfl
    | take i =>
      have h0 : EvD K (tOp (rIx K) (tVar 1) (tC (.int 0))) (((start N__law_led [v, u]).set 2 (some a)).set 3 (some b)) H1 (.str "take") := ev_ixT rfl (hD rfl e1) ev_int
      refine eb_ifS (b := false) ((et_test (ev_eqS h0 ev_str)).as rfl) (fun z => by cases z) fun _ => eb_next ?_
      refine eb_ifS (b := false) ((et_test (ev_eqS h0 ev_str)).as rfl) (fun z => by cases z) fun _ => eb_next ?_
      refine eb_ifS (b := false) ((et_test (ev_eqS h0 ev_str)).as rfl) (fun z => by cases z) fun _ => eb_next ?_
      have hi : i < c.1.length := hok
      have hl : EvD K (tCall (spD K PLater) [] E0 (tCons (tVar 2) (tCons (tVar 1) tNil))) (((start N__law_led [v, u]).set 2 (some a)).set 3 (some b)) H1 (laterD c (.take i)) := ev_call (P := PLater) (ea_cons (hW rfl (Same.refl _)) (ea_cons (hD rfl e1) ea_nil)) ⟨c, .take i, rfl, hc.g, hc.ne, rfl, hok, rfl⟩
      by_cases h1w : c.1.length = 1
      · refine eb_setP (hl.as (e := .tuple [tws c.1, .tuple [.str "few", .none]]) (if_pos h1w)) fun a2 b2 H2 e2 ha2 hb2 => ?_
        refine eb_set (ev_if (b := false) ((et_val (ev_isN (ev_var rfl hb2))).as rfl) (fun z => by cases z) fun _ => ev_var rfl hb2) fun v5 H3 e3 hv5 => ?_
        refine eb_ret ((ev_if (b := true) ((et_val (ev_notN (ev_var rfl hv5))).as rfl) (fun _ => ev_tup s2 (ea_cons (hS rfl ((e1.trans e2).trans e3)) (ea_cons (ev_var rfl hv5) ea_nil))) fun z => by cases z).as ?_)
        rw [step, if_pos h1w]
      · have := hfin (ws := c.1.eraseIdx i) (hc.g.erase i) (fun z => ?_) (hl.as (if_neg h1w)) rfl
        · rw [step, if_neg h1w]
          exact this
        · have hl := List.length_eraseIdx_of_lt hi
          rw [z] at hl
          simp at hl
          omega
    | change i z =>
      have h0 : EvD K (tOp (rIx K) (tVar 1) (tC (.int 0))) (((start N__law_led [v, u]).set 2 (some a)).set 3 (some b)) H1 (.str "change") := ev_ixT rfl (hD rfl e1) ev_int
      refine eb_ifS (b := false) ((et_test (ev_eqS h0 ev_str)).as rfl) (fun z => by cases z) fun _ => eb_next ?_
      refine eb_ifS (b := false) ((et_test (ev_eqS h0 ev_str)).as rfl) (fun z => by cases z) fun _ => eb_next ?_
      refine eb_ifS (b := false) ((et_test (ev_eqS h0 ev_str)).as rfl) (fun z => by cases z) fun _ => eb_next ?_
      have hl : EvD K (tCall (spD K PLater) [] E0 (tCons (tVar 2) (tCons (tVar 1) tNil))) (((start N__law_led [v, u]).set 2 (some a)).set 3 (some b)) H1 (laterD c (.change i z)) := ev_call (P := PLater) (ea_cons (hW rfl (Same.refl _)) (ea_cons (hD rfl e1) ea_nil)) ⟨c, .change i z, rfl, hc.g, hc.ne, rfl, hok, rfl⟩
      exact hfin (ws := chg c.1 i z) hok.2 (by simp [chg]) hl rfl
    | put z =>
      have h0 : EvD K (tOp (rIx K) (tVar 1) (tC (.int 0))) (((start N__law_led [v, u]).set 2 (some a)).set 3 (some b)) H1 (.str "put") := ev_ixT rfl (hD rfl e1) ev_int
      refine eb_ifS (b := false) ((et_test (ev_eqS h0 ev_str)).as rfl) (fun z => by cases z) fun _ => eb_next ?_
      refine eb_ifS (b := false) ((et_test (ev_eqS h0 ev_str)).as rfl) (fun z => by cases z) fun _ => eb_next ?_
      refine eb_ifS (b := false) ((et_test (ev_eqS h0 ev_str)).as rfl) (fun z => by cases z) fun _ => eb_next ?_
      have hl : EvD K (tCall (spD K PLater) [] E0 (tCons (tVar 2) (tCons (tVar 1) tNil))) (((start N__law_led [v, u]).set 2 (some a)).set 3 (some b)) H1 (laterD c (.put z)) := ev_call (P := PLater) (ea_cons (hW rfl (Same.refl _)) (ea_cons (hD rfl e1) ea_nil)) ⟨c, .put z, rfl, hc.g, hc.ne, rfl, hok, rfl⟩
      exact hfin (ws := c.1 ++ [z]) hok (by simp) hl rfl

end
end K7

set_option Elab.async false
set_option linter.all false
set_option maxRecDepth 100000
set_option maxHeartbeats 4000000
namespace K7
open PySem PySem.Spec PyProof.Rows L2
/-! ### list(text), sorted texts -/
def rListT : List V → Hp → VK → Prop := fun xs H Q => ∃ z : Str, xs = [.str z] ∧ z.length ≤ sizeLine ∧ ∀ l, H l = none → Q (.ref l) (upd H l (.lst ((cods z).map fun c => .str (one c))))
theorem call_listT {X : Cx} (hc : X.calm = true) : CallR X (.type "list") rListT := by
  intro pins s σ H xs us Q I r h
  obtain ⟨z, rfl, hz, q⟩ := h
  obtain ⟨u, rfl, t, rfl⟩ := vals1 r
  refine call_list_str (I.ok.hd hc) z t (fun h' tk acc' c' hkeep hS hacc => ?_) (hn := hz)
  refine ⟨.ref s.heap.objs.size, _, I.laid hkeep (Nat.le_refl _) (show ObjOk X.prog X.w _ _ _ (.lst ((cods z).map fun c => .str (one c))) from ⟨?_, acc'.toList, c', ?_, ?_⟩), rfl, q _ (I.hok.fresh (Nat.le_refl _))⟩
  · rw [List.length_map, ← len_cods]; exact hz
  · have el : acc'.toList.length = acc'.size := by simp
    refine vals_of_at (by rw [List.length_map, el, hacc.1]; simp [cods]) fun j x w h1 h2 => ?_
    obtain ⟨c, u, h3, rfl⟩ := hacc.2 j w (by rw [← Array.getElem?_toList]; exact h2)
    rw [List.getElem?_map] at h1
    have h4 : (cods z)[j]? = some c := by
      show z.cps.toList[j]? = some c
      rw [Array.getElem?_toList]
      exact h3
    rw [h4] at h1
    cases h1
    exact ⟨u, rfl⟩
  · simpa using hS
/-! ### the coil: what draws come from -/
def CoilAt (m : Nat) (H : Hp) (p : Addr) : Prop := ∃ h s c : Int, H p = some (.lst [.int h, .int s, .int c]) ∧ 0 ≤ c ∧ c ≤ m
def is3 : List PyData → Bool
  | [.int _, .int _, .int _] => true
  | _ => false
/-- data of at most this depth, no list in it of three integers -/
def Fr : Nat → PyData → Prop
  | 0, d => scD d = true
  | n + 1, .list ds => is3 ds = false ∧ ∀ x ∈ ds, Fr n x
  | n + 1, .tuple ds => ∀ x ∈ ds, Fr n x
  | n + 1, .dict kvs => ∀ kv ∈ kvs, Fr n kv.2
  | _ + 1, _ => True
section
variable {K : PySem.W.Frag} {H H' : Hp} {p : Addr} {m : Nat}
theorem CoilAt.mono {k : Nat} (h : CoilAt m H p) (e : Same H H') (l : m ≤ k) : CoilAt k H' p := let ⟨a, s, c, h1, h2, h3⟩ := h; ⟨a, s, c, e _ _ h1, h2, by omega⟩
theorem sqt_cut {a : Addr} {xs ys : List V} (hp : H p = some (.lst ys)) (h : SqT K H a xs) : SqT K (cut H p) a xs := by
  rcases h with (z | ⟨o, z⟩) | z
  · exact .inl (.inl (by rw [cut_ne (fun e => by rw [e, hp] at z; cases z)]; exact z))
  · exact .inl (.inr ⟨o, by rw [cut_ne (fun e => by rw [e, hp] at z; cases z)]; exact z⟩)
  · exact .inr z
theorem fr_cut {h s c : Int} (hp : H p = some (.lst [.int h, .int s, .int c])) : ∀ (n : Nat) (d : PyData) (v : V), Fr n d → Rp K H v d → Rp K (cut H p) v d
  | 0, d, v, f, r => r.sc f _
  | n + 1, d, v, f, r => by
    have all : ∀ (ds : List PyData) (xs : List V), (∀ x ∈ ds, Fr n x) → RpAll K H xs ds → RpAll K (cut H p) xs ds := fun ds => by
      induction ds with
      | nil => intro xs _ hr; cases hr; exact .nil
      | cons d ds ih =>
        intro xs hf hr
        cases hr with
        | cons h1 h2 => exact .cons (fr_cut hp n d _ (hf d List.mem_cons_self) h1) (ih _ (fun x hx => hf x (List.mem_cons_of_mem _ hx)) h2)
    cases r with
    | non => exact .non
    | bl b => exact .bl b
    | int i => exact .int i
    | str x => exact .str x
    | lst ha hr =>
      obtain ⟨f1, f2⟩ := f
      refine .lst ?_ (all _ _ f2 hr)
      rw [cut_ne]
      · exact ha
      · intro e
        rw [e, hp] at ha
        cases ha
        cases hr with
        | cons a1 r1 =>
          cases r1 with
          | cons a2 r2 =>
            cases r2 with
            | cons a3 r3 =>
              cases r3
              cases a1; cases a2; cases a3
              cases f1
    | tup ha hr => exact .tup (sqt_cut hp ha) (all _ _ f hr)
    | lots ha hs hr =>
      refine .lots (by rw [cut_ne (fun e => by rw [e, hp] at ha; cases ha)]; exact ha) (sqt_cut hp hs) ?_
      have f1 := f _ List.mem_cons_self
      cases n with
      | zero => cases f1
      | succ k =>
        have key : ∀ x ∈ _, Fr k x := f1
        clear all
        exact (show ∀ (ds : List PyData) (xs : List V), (∀ x ∈ ds, Fr k x) → RpAll K H xs ds → RpAll K (cut H p) xs ds from fun ds => by
          induction ds with
          | nil => intro xs _ hr; cases hr; exact .nil
          | cons d ds ih =>
            intro xs hf hr
            cases hr with
            | cons h1 h2 => exact .cons (fr_cut hp k d _ (hf d List.mem_cons_self) h1) (ih _ (fun x hx => hf x (List.mem_cons_of_mem _ hx)) h2)) _ _ key hr
theorem fr_cutAll {h s c : Int} (hp : H p = some (.lst [.int h, .int s, .int c])) (n : Nat) : ∀ (ds : List PyData) (xs : List V), (∀ x ∈ ds, Fr n x) → RpAll K H xs ds → RpAll K (cut H p) xs ds
  | [], _, _, hr => by cases hr; exact .nil
  | d :: ds, _, hf, hr => by
    cases hr with
    | cons h1 h2 => exact .cons (fr_cut hp n d _ (hf d List.mem_cons_self) h1) (fr_cutAll hp n ds _ (fun x hx => hf x (List.mem_cons_of_mem _ hx)) h2)
theorem CoilAt.data {n : Nat} {d : PyData} {v : V} (h : CoilAt m H p) (f : Fr n d) (r : Rp K H v d) : Rp K (cut H p) v d := let ⟨_, _, _, hp, _, _⟩ := h; fr_cut hp n d v f r
theorem fr_str {x : Str} : Fr 0 (.str x) := rfl
theorem fr_tup {n : Nat} {ds : List PyData} (h : ∀ x ∈ ds, Fr n x) : Fr (n + 1) (.tuple ds) := h
theorem fr_up {n : Nat} {d : PyData} (h : scD d = true) : Fr n d := by
  cases n with
  | zero => exact h
  | succ n => cases d <;> first | trivial | cases h
/-- the promise of a def that is passed the coil first -/
def spCo (K : PySem.W.Frag) (Pre : List PyData → Nat → (PyData → Prop) → Prop) : Sp := fun vs H Q _ => ∃ p ws ds N S m, vs = .ref p :: ws ∧ RpAll K (cut H p) ws ds ∧ Pre ds N S ∧ CoilAt m H p ∧ m + N ≤ 1000000 ∧
  ∀ v d H', Same (cut H p) (cut H' p) → CoilAt (m + N) H' p → S d → Rp K (cut H' p) v d → Q v H'
/-- an expression that may draw at most N times, under the view B of the rest -/
def EvK (K : PySem.W.Frag) (p : Addr) (N : Nat) (te : TE) (σ : L2.St) (B : Hp) (S : PyData → Prop) : Prop := ∀ m H, cut H p = B → CoilAt m H p → m + N ≤ 1000000 → ∀ Q : VK, (∀ v d H', Same B (cut H' p) → CoilAt (m + N) H' p → S d → Rp K (cut H' p) v d → Q v H') → te σ H Q
def TrK (p : Addr) (N : Nat) (t : TS) (σ : L2.St) (B : Hp) (P : L2.St → Hp → Prop) (R : VK) : Prop := ∀ m H, cut H p = B → CoilAt m H p → m + N ≤ 1000000 → ∀ D : Ends, (∀ σ' H', CoilAt (m + N) H' p → P σ' (cut H' p) → D.nx σ' H') → (∀ v H', CoilAt (m + N) H' p → R v (cut H' p) → D.rt v H') → t D σ H
variable {σ : L2.St} {B : Hp} {N N1 N2 : Nat} {te ta tb : TE} {t u : TS} {S S1 S2 : PyData → Prop} {d : PyData} {P P2 : L2.St → Hp → Prop} {R : VK}
theorem ek_ev {n : Nat} (h : EvD K te σ B d) (f : Fr n d) : EvK K p 0 te σ B (· = d) := fun m H eB hc _ Q q => by
  subst eB
  exact h H (cut_same p) _ fun v H' e hv => q v d H' (cut_mono e) (hc.mono e (Nat.le_refl _)) rfl ((hc.mono e (Nat.le_refl _)).data f hv)
theorem ek_imp (h : EvK K p N te σ B S) (k : ∀ d, S d → S2 d) : EvK K p N te σ B S2 := fun m H eB hc hm Q q => h m H eB hc hm Q fun v d H' e c s r => q v d H' e c (k d s) r
theorem ek_le (h : EvK K p N te σ B S) (l : N ≤ N2) : EvK K p N2 te σ B S := fun m H eB hc hm Q q => h m H eB hc (by omega) Q fun v d H' e c s r => q v d H' e (c.mono (Same.refl _) (by omega)) s r
/-- a call, its other arguments plain -/
theorem ek_call {Pre : List PyData → Nat → (PyData → Prop) → Prop} {E : XK} {ts : TA} {ds : List PyData} {i n : Nat} (hp : σ[i]? = some (some (.ref p))) (hs : EvA K ts σ B ds) (f : ∀ d ∈ ds, Fr n d) (hP : Pre ds N S) : EvK K p N (tCall (spCo K Pre) [] E (tCons (tVar i) ts)) σ B S := fun m H eB hc hm Q q => by
  subst eB
  refine ⟨.ref p, hp, hs H (cut_same p) _ fun ws H' e hw => ?_⟩
  have hc' := hc.mono e (Nat.le_refl _)
  have hw' : RpAll K (cut H' p) ws ds := by
    obtain ⟨h0, s0, c0, hp0, _, _⟩ := hc'
    exact fr_cutAll hp0 n ds ws f hw
  exact ⟨p, ws, ds, N, S, m, by rw [List.append_nil], hw', hP, hc', hm, fun v d H2 e2 c s r => q v d H2 ((cut_mono e).trans e2) c s r⟩
/-- a call, its other argument draws -/
theorem ek_call1 {Pre : List PyData → Nat → (PyData → Prop) → Prop} {E : XK} {i : Nat} (hp : σ[i]? = some (some (.ref p))) (hs : EvK K p N1 ta σ B S1) (hP : ∀ d, S1 d → ∃ S', Pre [d] N2 S' ∧ ∀ r, S' r → S r) : EvK K p (N1 + N2) (tCall (spCo K Pre) [] E (tCons (tVar i) (tCons ta tNil))) σ B S := fun m H eB hc hm Q q =>
  ⟨.ref p, hp, hs m H eB hc (by omega) _ fun w d H' e c s r => by
    obtain ⟨S', hP', hS⟩ := hP d s
    exact ⟨p, [w], [d], N2, S', m + N1, rfl, .cons r .nil, hP', c, by omega, fun v d2 H2 e2 c2 s2 r2 => q v d2 H2 (e.trans e2) (c2.mono (Same.refl _) (by omega)) (hS _ s2) r2⟩⟩
/-- an operator, its left side drawn -/
theorem ek_opL {n : Nat} {r : R2} {f : PyData → PyData} (h : EvK K p N ta σ B S) (k : ∀ x d B', Same B B' → S d → Rp K B' x d → EvD K (tOp r (tC x) tb) σ B' (f d)) (fr : ∀ d, S d → Fr n (f d)) : EvK K p N (tOp r ta tb) σ B (fun z => ∃ d, S d ∧ z = f d) := fun m H eB hc hm Q q =>
  h m H eB hc hm _ fun x d H' e c s rx => k x d (cut H' p) e s rx H' (cut_same p) _ fun v H2 e2 hv => q v (f d) H2 (e.trans (cut_mono e2)) (c.mono e2 (Nat.le_refl _)) ⟨d, s, rfl⟩ ((c.mono e2 (Nat.le_refl _)).data (fr d s) hv)
/-- an operator, its left side a value, its right side drawn -/
theorem ek_opR {n : Nat} {r : R2} {w : V} {f : PyData → PyData → Prop} (hw : ∀ H Q, ta σ H Q ↔ Q w H) (h : EvK K p N tb σ B S) (k : ∀ y d B', Same B B' → S d → Rp K B' y d → ∃ z, f d z ∧ Fr n z ∧ EvD K (tOp r (tC w) (tC y)) σ B' z) : EvK K p N (tOp r ta tb) σ B (fun z => ∃ d, S d ∧ f d z) := fun m H eB hc hm Q q =>
  (hw H _).mpr (h m H eB hc hm _ fun y d H' e c s ry => by
    obtain ⟨z, hz, fz, hk⟩ := k y d (cut H' p) e s ry
    exact hk H' (cut_same p) _ fun v H2 e2 hv => q v z H2 (e.trans (cut_mono e2)) (c.mono e2 (Nat.le_refl _)) ⟨d, s, hz⟩ ((c.mono e2 (Nat.le_refl _)).data fz hv))
theorem tk_seq (h1 : TrK p N1 t σ B P R) (h2 : ∀ σ' B', P σ' B' → TrK p N2 u σ' B' P2 R) : TrK p (N1 + N2) (tSeq t u) σ B P2 R := fun m H eB hc hm D q q2 =>
  h1 m H eB hc (by omega) { D with nx := u D } (fun σ' H' c pp => h2 σ' _ pp (m + N1) H' rfl c (by omega) D (fun σ2 H2 c2 => q σ2 H2 (c2.mono (Same.refl _) (by omega))) fun v H2 c2 => q2 v H2 (c2.mono (Same.refl _) (by omega))) fun v H' c => q2 v H' (c.mono (Same.refl _) (by omega))
theorem tk_imp {R2 : VK} (h : TrK p N t σ B P R) (k : ∀ σ' B', P σ' B' → P2 σ' B') (k2 : ∀ v B', R v B' → R2 v B') : TrK p N t σ B P2 R2 := fun m H eB hc hm D q q2 => h m H eB hc hm D (fun σ' H' c pp => q σ' H' c (k _ _ pp)) fun v H' c r => q2 v H' c (k2 _ _ r)
theorem tk_le (h : TrK p N t σ B P R) (l : N ≤ N2) : TrK p N2 t σ B P R := fun m H eB hc hm D q q2 => h m H eB hc (by omega) D (fun σ' H' c => q σ' H' (c.mono (Same.refl _) (by omega))) fun v H' c => q2 v H' (c.mono (Same.refl _) (by omega))
theorem tk_next : TrK p 0 tNext σ B (fun σ' B' => σ' = σ ∧ B' = B) R := fun m H eB hc hm D q _ => q σ H hc ⟨rfl, eB⟩
theorem tk_set {k : Nat} (h : EvK K p N te σ B S) : TrK p N (tAsg te (gName k)) σ B (fun σ' B' => Same B B' ∧ ∃ v d, S d ∧ Rp K B' v d ∧ σ' = σ.set k (some v)) R := fun m H eB hc hm D q _ =>
  h m H eB hc hm _ fun v d H' e c s r => q _ H' c ⟨e, v, d, s, r, rfl⟩
theorem tk_ret (h : EvK K p N te σ B S) (k : ∀ v d B', Same B B' → S d → Rp K B' v d → R v B') : TrK p N (tRet te) σ B P R := fun m H eB hc hm D _ q2 =>
  h m H eB hc hm _ fun v d H' e c s r => q2 v H' c (k v d _ e s r)
theorem tk_if {c : TT} {b : Bool} (hc : EvT c σ B b) (h1 : b = true → ∀ B', Same B B' → TrK p N t σ B' P R) (h2 : b = false → ∀ B', Same B B' → TrK p N u σ B' P R) : TrK p N (tIfS c t u) σ B P R := fun m H eB hco hm D q q2 => by
  subst eB
  refine hc H (cut_same p) _ fun H2 e2 => ?_
  cases b with
  | true => exact iteT (h1 rfl _ (cut_mono e2) m H2 rfl (hco.mono e2 (Nat.le_refl _)) hm D q q2)
  | false => exact iteF (h2 rfl _ (cut_mono e2) m H2 rfl (hco.mono e2 (Nat.le_refl _)) hm D q q2)
/-- xs.append(e), e drawn -/
theorem tk_app {i : Nat} {l : Addr} {xs : List V} (hi : σ[i]? = some (some (.ref l))) (hl : B l = some (.lst xs)) (hz : xs.length < 100000) (h : EvK K p N te σ B S) :
    TrK p N (tApp K (tVar i) te) σ B (fun σ' B' => σ' = σ ∧ ∃ y d B1, Same B B1 ∧ S d ∧ Rp K B1 y d ∧ B' = upd B1 l (.lst (xs ++ [y]))) R := fun m H eB hc hm D q _ => by
  subst eB
  have hne : l ≠ p := ne_of_none hl cut_at
  refine ⟨.ref l, hi, .inl ⟨rfl, xs, SqL.of (cut_same p _ _ hl)⟩, h m H rfl hc hm _ fun y d H' e c s r => ?_⟩
  refine ⟨l, xs, y, rfl, rfl, cut_same p _ _ (e _ _ hl), by rw [sizeLine_eq]; omega, q _ _ ?_ ⟨rfl, y, d, cut H' p, e, s, r, ?_⟩⟩
  · obtain ⟨h0, s0, c0, hp0, b1, b2⟩ := c
    exact ⟨h0, s0, c0, by rw [upd_ne (Ne.symm hne)]; exact hp0, b1, b2⟩
  · funext b
    by_cases hb : b = p
    · rw [hb, cut_at, upd_ne (Ne.symm hne), cut_at]
    · rw [cut_ne hb]
      by_cases hl2 : b = l
      · rw [hl2, upd_same, upd_same]
      · rw [upd_ne hl2, upd_ne hl2, cut_ne hb]
/-- a place of a list is stored -/
theorem tr_sub {Hb : Hp} {xs : List V} {j : Int} {k i : Nat} (hb : Same Hb H) (h : EvD K te σ Hb d) (hi : σ[i]? = some (some (.ref p))) (hp : H p = some (.lst xs)) (hj : ixN xs.length j = some k) : Tr (tAsg te (gSub (tVar i) (tC (.int j)) rSetL)) σ H (fun σ' H' => σ' = σ ∧ ∃ v H1, Same H H1 ∧ Rp K H1 v d ∧ H' = upd H1 p (.lst (xs.set k v))) R := fun D q _ =>
  h H hb _ fun v H1 e hv => ⟨.ref p, hi, p, xs, j, k, rfl, rfl, e _ _ hp, hj, q _ _ ⟨rfl, v, H1, e, hv, rfl⟩⟩
theorem ev_coil {h s c : Int} {i : Nat} (hi : σ[i]? = some (some (.ref p))) (hp : H p = some (.lst [.int h, .int s, .int c])) : EvD K (tVar i) σ H (.list [.int h, .int s, .int c]) := ev_var hi (.lst hp (.cons (.int h) (.cons (.int s) (.cons (.int c) .nil))))
end
section
variable {P : Program} {w : World} {K : PySem.W.Frag} {mg : Str → Option Value} {base : Heap}
/-- a number below n -/
def Below (n : Nat) : PyData → Prop := fun d => ∃ k : Nat, k < n ∧ d = .int k
def PTug : List PyData → Nat → (PyData → Prop) → Prop := fun ds N S => ∃ n : Nat, ds = [.int n] ∧ 0 < n ∧ n < 1000000 ∧ N = 1 ∧ S = Below n

theorem ok__law_tug (W : Wr P w K mg base)  : Fn P w K mg base CX0 1 "_law_tug" ["_law_coil_here", "_law_size"] (spCo K PTug) := by
  refine fn_mk W.d__law_tug W.g__law_tug sc__law_tug (fun vs H Q E h => ?_) (fun _ _ _ _ _ _ us hl => match us, hl with | [_, _], _ => rfl) (fun cdv A outer s H vs Q E hr h => ?_)
  · obtain ⟨p, ws, ds, N, S, m, rfl, hw, ⟨n, rfl, _⟩, _⟩ := h
    obtain ⟨w1, rfl, _⟩ := hw.one
    rfl
  · refine ⟨_, PSs.nox (pss_cons (ps_asg (pe_op (addU (K := K)) (pe_ix (ixU (K := K)) (pv 0) pe_int (fun _ _ => rfl)) pe_int) (pg_sub (pv 0) pe_int set_list))
  (pss_cons (ps_if (pt_cmpR op_gt (pe_ix (ixU (K := K)) (pv 0) pe_int (fun _ _ => rfl)) pe_int (nomark _)) (pss_cons (ps_asg (pe_callB call_divmod rfl W.n_divmod bt_divmod (pa_cons (pe_ix (ixU (K := K)) (pv 0) pe_int (fun _ _ => rfl)) (pa_cons (pv 1) pa_nil))) (gtupU (K := K) (n := 2) rfl (pgs_cons (pg_sub (pv 0) pe_int set_list) (pgs_cons (nameU (i := 2) sc__law_tug.nd) pgs_nil))))
  (pss_one (ps_ret (pv 2)))) pss_nil)
  (pss_cons (setU (i := 3) sc__law_tug.nd (pe_op (addU (K := K)) (pe_op op_mul pe_int (pe_ix (ixU (K := K)) (pv 0) pe_int (fun _ _ => rfl))) (pe_op op_mul (pe_op op_mul pe_int (pe_ix (ixU (K := K)) (pv 0) pe_int (fun _ _ => rfl))) (pe_ix (ixU (K := K)) (pv 0) pe_int (fun _ _ => rfl)))))
  (pss_cons (ps_asg (pe_op op_mod (pe_callTy call_int1 rfl W.n_int bt_int (pa_cons (pe_op (addU (K := K)) (pe_op op_mul (pe_ix (ixU (K := K)) (pv 0) pe_int (fun _ _ => rfl)) pe_int) (pv 3)) pa_nil)) pe_int) (pg_sub (pv 0) pe_int set_list))
  (pss_one (ps_ret (pe_op op_mod (pe_callTy call_int1 rfl W.n_int bt_int (pa_cons (pe_op op_fdiv (pe_ix (ixU (K := K)) (pv 0) pe_int (fun _ _ => rfl)) pe_int) pa_nil)) (pv 1)))))))), ?_⟩
    obtain ⟨p, ws, ds, N, S, m, rfl, hw, ⟨n, rfl, hn0, hn1, rfl, rfl⟩, hc, hm, q⟩ := h
    obtain ⟨w1, rfl, hw1⟩ := hw.one
    cases hw1
    obtain ⟨h0, s0, c0, hp, hc0, hcm⟩ := hc
    refine tr_run (R := fun v H' => ∃ k : Nat, k < n ∧ v = .int k ∧ Same (cut H p) H' ∧ CoilAt (m + 1) H' p) ?_ fun v H' ⟨k, hk, e, s, c⟩ => by
      subst e
      exact q (.int k) (.int k) H' (cut_of s cut_at) c ⟨k, hk, rfl⟩ (.int _)
    have hN : ∀ {H' : Hp}, EvD K (tVar 1) (start N__law_tug [.ref p, .int n]) H' (.int n) := ev_var rfl (.int _)
    refine tr_seq (tr_sub (k := 2) (Same.refl _) (ev_addI (ev_ixL (d := .int c0) rfl (ev_coil rfl hp) ev_int) (ev_int (i := 1))) rfl hp rfl) fun σ1 H1 ⟨hs1, v1, G1, e1, hv1, hH1⟩ => ?_
    cases hv1
    subst hs1
    have hp1 : H1 p = some (.lst [.int h0, .int s0, .int (c0 + 1)]) := by rw [hH1]; exact upd_same
    have s1 : Same (cut H p) H1 := by rw [hH1]; exact cut_upd.mpr ((cut_same p).trans e1)
    clear hH1
    refine tr_seq (P := fun σ' H' => σ' = start N__law_tug [.ref p, .int n] ∧ Same H1 H') (tr_if (b := decide (0 < h0)) (Same.refl _) (et_test (ev_gtI (ev_ixL (d := .int h0) rfl (ev_coil rfl hp1) ev_int) (ev_int (i := 0)))) (fun hb H2 e2 => ?_) fun hb H2 e2 => tr_imp tr_next (fun σ' H' ⟨a, b⟩ => by subst a b; exact ⟨rfl, e2⟩) fun _ _ z => z) fun σ2 H2 ⟨hs2, e2⟩ => ?_
    · have hp2 := e2 _ _ hp1
      refine tr_seq (P := fun σ' H' => ∃ k : Nat, k < n ∧ σ'[2]? = some (some (.int k)) ∧ Same (cut H p) H' ∧ CoilAt (m + 1) H' p) (fun D qn _ => ?_) fun σ3 H3 ⟨k, hk, hs3, e3, c3⟩ => tr_ret (K := K) (Same.refl _) (ev_var hs3 (.int _)) fun v H4 e4 hv => by cases hv; exact ⟨k, hk, rfl, e3.trans e4, c3.mono e4 (Nat.le_refl _)⟩
      refine (ev_ixL (d := .int h0) rfl (ev_coil (K := K) rfl hp2) ev_int) H2 (Same.refl _) _ fun y H3 e3 hy => ?_
      cases hy
      refine ⟨.int n, rfl, h0, n, rfl, ⟨by omega, by omega⟩, fun t ht => ⟨t, _, rfl, SqT.of upd_same, rfl, _, _, rfl, ?_⟩⟩
      have hp3 : upd H3 t (.tup [.int (h0 / n), .int (h0 % n)]) p = some (.lst [.int h0, .int s0, .int (c0 + 1)]) := same_new ht _ _ (e3 _ _ hp2)
      refine ⟨.ref p, rfl, p, _, 0, 0, rfl, rfl, hp3, rfl, _, _, rfl, rfl, qn _ _ ⟨(h0 % n).toNat, ?_, ?_, ?_, ?_⟩⟩
      · have := Int.emod_lt_of_pos h0 (show (0 : Int) < n by omega)
        omega
      · have := Int.emod_nonneg h0 (show (n : Int) ≠ 0 by omega)
        show some (some (V.int (h0 % n))) = _
        congr 3
        omega
      · exact cut_upd.mpr (((s1.trans e2).trans e3).trans (same_new ht))
      · exact ⟨_, _, _, upd_same, by omega, by omega⟩
    · subst hs2
      have hp2 := e2 _ _ hp1
      have hc : ∀ {σ : L2.St} {H' : Hp}, σ[0]? = some (some (.ref p)) → H' p = some (.lst [.int h0, .int s0, .int (c0 + 1)]) → EvD K (tOp (rIx K) (tVar 0) (tC (.int 2))) σ H' (.int (c0 + 1)) := fun e0 hp => ev_ixL rfl (ev_coil e0 hp) ev_int
      refine tr_seq (tr_set (Same.refl _) (ev_addI (ev_mulI (i := 7919) (.inl ⟨by decide, by decide⟩) ev_int (hc rfl hp2)) (ev_mulI (.inr ⟨by omega, by omega⟩) (ev_mulI (i := 3) (.inl ⟨by decide, by decide⟩) ev_int (hc rfl hp2)) (hc rfl hp2)))) fun σ3 H3 ⟨e3, v3, hv3, hs3⟩ => ?_
      subst hs3
      have hp3 := e3 _ _ hp2
      refine tr_seq (tr_sub (k := 1) (Same.refl _) (ev_modI (by decide) (ev_intI (ev_addI (ev_mulI (j := 52009) (.inr ⟨by decide, by decide⟩) (ev_ixL (d := .int s0) rfl (ev_coil rfl hp3) ev_int) ev_int) (ev_var (i := 3) rfl hv3))) (ev_int (i := 2147483563))) rfl hp3 rfl) fun σ4 H4 ⟨hs4, v4, G4, e4, hv4, hH4⟩ => ?_
      cases hv4
      subst hs4
      have hp4 : H4 p = some (.lst [.int h0, .int ((s0 * 52009 + (7919 * (c0 + 1) + 3 * (c0 + 1) * (c0 + 1))) % 2147483563), .int (c0 + 1)]) := by rw [hH4]; exact upd_same
      have s4 : Same (cut H p) H4 := by rw [hH4]; exact cut_upd.mpr (((s1.trans e2).trans e3).trans e4)
      clear hH4
      refine tr_ret (Same.refl _) (ev_modI (by omega) (ev_intI (ev_fdivI ⟨by decide, by decide⟩ (ev_ixL (i := 1) rfl (ev_coil rfl hp4) ev_int) (ev_int (i := 4099)))) (ev_var (i := 1) (d := .int n) rfl (.int _))) fun v H5 e5 hv => ?_
      cases hv
      generalize ((s0 * 52009 + (7919 * (c0 + 1) + 3 * (c0 + 1) * (c0 + 1))) % 2147483563) / 4099 = z
      have h1 := Int.emod_lt_of_pos z (show (0 : Int) < n by omega)
      have h2 := Int.emod_nonneg z (show (n : Int) ≠ 0 by omega)
      exact ⟨(z % n).toNat, by omega, by congr 1; omega, s4.trans e5, ⟨_, _, _, e5 _ _ hp4, by omega, by omega⟩⟩

end
end K7

set_option Elab.async false
set_option linter.all false
set_option maxRecDepth 100000
set_option maxHeartbeats 4000000
namespace K7
open PySem PySem.Spec PyProof.Rows L2
section
variable {X : Cx} {K : PySem.W.Frag}
theorem listU (hc : X.calm = true) : CallR X (.type "list") rListT := call_listT hc
theorem sortU (hK : X.K = K := by rfl) : CallR X (.builtin "sorted") (rSortedS K) := by cases hK; exact cr_sortedS
end
section
variable {K : PySem.W.Frag} {p : Addr} {σ : L2.St} {B : Hp} {N N1 : Nat} {te : TE} {t : TS} {R : VK}
/-- for i in range(e), e drawn or not -/
theorem tk_for {n k : Nat} {Sk : Nat → Prop} (h : EvK K p N1 te σ B (fun d => ∃ j : Nat, Sk j ∧ d = .int j)) (hn : ∀ j, Sk j → j ≤ n) (hn1 : n ≤ 1000) (I : Nat → L2.St → Hp → Prop) (h0 : ∀ B', Same B B' → I 0 σ B')
    (hs : ∀ i σ' B', i < n → I i σ' B' → TrK p N t (σ'.set k (some (.int (i : Nat)))) B' (fun σ2 B2 => I (i + 1) σ2 B2) R) : TrK p (N1 + n * N) (tFor (iRng1 (tCons te tNil)) (gName k) t) σ B (fun σ' B' => ∃ j, Sk j ∧ I j σ' B') R := fun m H eB hc hm D q q2 =>
  h m H eB hc (by omega) _ fun v d H2 e2 c2 ⟨j, hj, ed⟩ r => by
    subst ed
    cases r
    have hjn := hn j hj
    have w := walk_range (lo := 0) (n := j)
    refine ⟨j, rfl, by omega, by omega, ?_⟩
    rw [Int.toNat_natCast]
    refine ⟨fun i mm σ' H' => mm = j - i ∧ i ≤ j ∧ CoilAt (m + N1 + i * N) H' p ∧ I i σ' (cut H' p), ⟨_, rfl, Nat.zero_le _, by rw [Nat.zero_mul]; exact c2, h0 _ e2⟩, ?_⟩
    rintro i mm σ' H' ⟨rfl, hi, c3, p3⟩
    have hmul : ∀ a : Nat, a ≤ n → a * N ≤ n * N := fun a ha => Nat.mul_le_mul_right N ha
    rcases Nat.lt_or_eq_of_le hi with hlt | rfl
    · refine .inr ⟨w.goes i H' hlt trivial, fun σ2 H3 => CoilAt (m + N1 + (i + 1) * N) H3 p ∧ I (i + 1) σ2 (cut H3 p), fun σ2 H3 ⟨a, b⟩ => ⟨_, by omega, rfl, hlt, a, b⟩, fun x H3 y => ?_⟩
      obtain ⟨rfl, rfl⟩ := w.yields i H' x H3 hlt trivial y
      have hi1 := hmul (i + 1) (by omega)
      have ei : (i + 1) * N = i * N + N := Nat.succ_mul i N
      show gName k (V.int (0 + (i : Nat))) σ' H3 _
      rw [Int.zero_add]
      refine hs i σ' (cut H3 p) (by omega) p3 (m + N1 + i * N) H3 rfl c3 (by omega) _ (fun σ3 H5 c5 p5 => ⟨c5.mono (Same.refl _) (by omega), p5⟩) fun v H5 c5 r5 => q2 v H5 (c5.mono (Same.refl _) (by omega)) r5
    · have := hmul i hjn
      exact .inl ⟨w.stops H' trivial, q σ' H' (c3.mono (Same.refl _) (by omega)) ⟨i, hj, p3⟩⟩
theorem erase_map {α β : Type} (f : α → β) : ∀ (l : List α) (i : Nat), (l.map f).eraseIdx i = (l.eraseIdx i).map f
  | [], _ => rfl
  | _ :: _, 0 => rfl
  | a :: r, i + 1 => by rw [List.map_cons, List.eraseIdx_cons_succ, List.eraseIdx_cons_succ, List.map_cons, erase_map f r i]
theorem erase_perm {α : Type} : ∀ {l : List α} {i : Nat} (h : i < l.length), (l[i] :: l.eraseIdx i).Perm l
  | [], _, h => absurd h (Nat.not_lt_zero _)
  | _ :: _, 0, _ => .refl _
  | a :: r, i + 1, h => by
    have h' : i < r.length := by simpa using h
    exact (List.Perm.swap a _ _).trans ((erase_perm h').cons a)
theorem tk_run {m : Nat} {H : Hp} {Q : VK} {nx : L2.St → Hp → Prop} (h : TrK p N t σ (cut H p) (fun _ _ => False) R) (hc : CoilAt m H p) (hm : m + N ≤ 1000000) (k : ∀ v H', CoilAt (m + N) H' p → R v (cut H' p) → Q v H') : t { nx := nx, rt := Q } σ H := h m H rfl hc hm _ (fun _ _ _ z => z.elim) k
theorem perm_lot {ws : List Nat} (h : ws.Pairwise (· ≤ ·)) (nd : ws.Nodup) : ws.Pairwise (· < ·) := by
  induction ws with
  | nil => exact .nil
  | cons a r ih =>
    obtain ⟨h1, h2⟩ := List.pairwise_cons.mp h
    obtain ⟨n1, n2⟩ := List.nodup_cons.mp nd
    exact List.pairwise_cons.mpr ⟨fun b hb => Nat.lt_of_le_of_ne (h1 b hb) fun e => n1 (e ▸ hb), ih h2 n2⟩
theorem strs_ones : ∀ {ys : List Str} {l : List Nat}, ys.Perm (l.map one) → ∃ l' : List Nat, ys = l'.map one ∧ l'.Perm l := fun {ys l} h => by
  have h1 : ∀ y ∈ ys, ∃ c, y = one c := fun y hy => by
    obtain ⟨c, _, e⟩ := List.mem_map.mp (h.mem_iff.mp hy)
    exact ⟨c, e.symm⟩
  have h2 : ∀ ys : List Str, (∀ y ∈ ys, ∃ c, y = one c) → ys = (ys.map fun y => (cods y).headD 0).map one := fun ys => by
    induction ys with
    | nil => intro _; rfl
    | cons y r ih =>
      intro hy
      obtain ⟨c, rfl⟩ := hy y List.mem_cons_self
      rw [List.map_cons, List.map_cons, ← ih fun z hz => hy z (List.mem_cons_of_mem _ hz)]
      rfl
  refine ⟨ys.map fun y => (cods y).headD 0, h2 ys h1, ?_⟩
  have h3 := h.map fun y => (cods y).headD 0
  rw [List.map_map] at h3
  have h4 : l.map ((fun y => (cods y).headD 0) ∘ one) = l := by
    exact (List.map_congr_left (fun c _ => rfl : ∀ c ∈ l, ((fun y => (cods y).headD 0) ∘ one) c = id c)).trans (List.map_id l)
  rw [h4] at h3
  exact h3
theorem cut_upd_ne {H : Hp} {l : Addr} {o : HO} (h : l ≠ p) : cut (upd H l o) p = upd (cut H p) l o := funext fun b => by
  by_cases hb : b = p
  · rw [hb, cut_at, upd_ne (Ne.symm h), cut_at]
  · rw [cut_ne hb]
    by_cases hl2 : b = l
    · rw [hl2, upd_same, upd_same]
    · rw [upd_ne hl2, upd_ne hl2, cut_ne hb]
def LetI (p : Addr) (B0 : Hp) (k i : Nat) (σ' : L2.St) (B' : Hp) : Prop := Same B0 B' ∧ σ'.length = 5 ∧ σ'[0]? = some (some (.ref p)) ∧ σ'[1]? = some (some (.int k)) ∧ ∃ (l1 l2 : Addr) (pool found : List Nat), l1 ≠ l2 ∧ B0 l1 = none ∧ B0 l2 = none ∧
  σ'[2]? = some (some (.ref l1)) ∧ σ'[3]? = some (some (.ref l2)) ∧ B' l1 = some (.lst (pool.map fun c => .str (one c))) ∧ B' l2 = some (.lst (found.map fun c => .str (one c))) ∧ found.length = i ∧ (found ++ pool).Perm (List.range' 97 26)
theorem rp_ones {H : Hp} : ∀ l : List Nat, RpAll K H (l.map fun c => .str (one c)) (l.map fun c => .str (one c))
  | [] => .nil
  | c :: l => .cons (.str _) (rp_ones l)
end
/-! ### what is drawn of some things -/
def IdxOf (ds : List PyData) : PyData → Prop := fun d => d ∈ ds
/-- some things: a list, or a text by its signs -/
def things : PyData → Option (List PyData)
  | .list ds => some ds
  | .str z => some (signs z)
  | _ => none
def PTake : List PyData → Nat → (PyData → Prop) → Prop := fun ds N S => ∃ d xs n, ds = [d] ∧ things d = some xs ∧ 0 < xs.length ∧ xs.length < 100000 ∧ (∀ x ∈ xs, Fr n x) ∧ N = 1 ∧ S = fun r => r ∈ xs
section
variable {P : Program} {w : World} {K : PySem.W.Frag} {mg : Str → Option Value} {base : Heap}

theorem ok__law_take (W : Wr P w K mg base) (F__law_tug : Fn P w K mg base CX0 1 "_law_tug" ["_law_coil_here", "_law_size"] (spCo K PTug)) : Fn P w K mg base CX0 2 "_law_take" ["_law_coil_here", "_law_some"] (spCo K PTake) := by
  refine fn_mk W.d__law_take W.g__law_take sc__law_take (fun vs H Q E h => ?_) (fun _ _ _ _ _ _ us hl => match us, hl with | [_, _], _ => rfl) (fun cdv A outer s H vs Q E hr h => ?_)
  · obtain ⟨p, ws, ds, N, S, m, rfl, hw, ⟨d, xs, n, rfl, _⟩, _⟩ := h
    obtain ⟨w1, rfl, _⟩ := hw.one
    rfl
  · refine ⟨_, PSs.nox (pss_one (ps_ret (pe_ix (ixU (K := K)) (pv 1) (pe_fn F__law_tug (hr.mono (by decide)) rfl pass0 (pa_cons (pv 0) (pa_cons (pe_callB (lenU (K := K)) rfl W.n_len bt_len (pa_cons (pv 1) pa_nil)) pa_nil))) (fun _ _ => rfl)))), ?_⟩
    obtain ⟨p, ws, ds, N, S, m, rfl, hw, ⟨d, xs, n, rfl, hx, hl0, hl1, hfr, rfl, rfl⟩, hc, hm, q⟩ := h
    obtain ⟨w1, rfl, hw1⟩ := hw.one
    have hlen : EvD K (tCB (rLen K) (tCons (tVar 1) tNil)) (start N__law_take [.ref p, w1]) (cut H p) (.int xs.length) := by
      cases d with
      | list ds => cases hx; exact ev_lenL (ev_var rfl hw1)
      | str z =>
        cases hx
        rw [signs_len] at hl1 ⊢
        exact ev_lenS (sz (by omega)) (ev_var rfl hw1)
      | _ => cases hx
    have ht : EvK K p 1 (tCall (spCo K PTug) [] E0 (tCons (tVar 0) (tCons (tCB (rLen K) (tCons (tVar 1) tNil)) tNil))) (start N__law_take [.ref p, w1]) (cut H p) (Below xs.length) := ek_call (n := 0) rfl (ea_cons hlen ea_nil) (fun d hd => by rw [List.mem_singleton.mp hd]; rfl) ⟨xs.length, rfl, hl0, by omega, rfl, rfl⟩
    have hk : EvK K p 1 (tOp (rIx K) (tVar 1) (tCall (spCo K PTug) [] E0 (tCons (tVar 0) (tCons (tCB (rLen K) (tCons (tVar 1) tNil)) tNil)))) (start N__law_take [.ref p, w1]) (cut H p) (fun z => ∃ d, Below xs.length d ∧ z ∈ xs) := ek_opR (n := n) (w := w1) (f := fun _ z => z ∈ xs) (fun H Q => ⟨fun ⟨v, e, q⟩ => by cases e; exact q, fun q => ⟨w1, rfl, q⟩⟩) ht fun y d' B' eB ⟨k, hk, e⟩ hy => by
      subst e
      have hg : xs[k]? = some xs[k] := List.getElem?_eq_getElem hk
      refine ⟨xs[k], List.getElem_mem hk, hfr _ (List.getElem_mem hk), ?_⟩
      cases d with
      | list ds => cases hx; exact ev_ixL (atI_nat hg) (ev_c (hw1.mono eB)) (ev_c hy)
      | str z =>
        cases hx
        rw [signs_len] at hl1 hk
        have hc' : (cods z)[k]? = some ((cods z)[k]'(by rw [← len_cods]; exact hk)) := List.getElem?_eq_getElem _
        refine (ev_ixS (sz (by omega)) (atI_nat hc') (ev_c (hw1.mono eB)) (ev_c hy)).as ?_
        have h2 : (signs z)[k]? = some (.str (one ((cods z)[k]'(by rw [← len_cods]; exact hk)))) := by
          unfold signs
          rw [List.getElem?_map, show z.cps.toList = cods z from rfl, hc']
          rfl
        rw [hg] at h2
        exact (Option.some.inj h2).symm
      | _ => cases hx
    exact hk m H rfl hc hm _ fun v d' H' e c ⟨_, _, s⟩ r => q v d' H' e c s r


def PLets : List PyData → Nat → (PyData → Prop) → Prop := fun ds N S => ∃ k : Nat, ds = [.int k] ∧ 0 < k ∧ k ≤ 4 ∧ N = 4 ∧ S = fun r => ∃ z, r = .str z ∧ Lot z ∧ (cods z).length = k

theorem ok__law_letters (W : Wr P w K mg base) (F__law_tug : Fn P w K mg base CX0 1 "_law_tug" ["_law_coil_here", "_law_size"] (spCo K PTug)) : Fn P w K mg base CX0 3 "_law_letters" ["_law_coil_here", "_law_many"] (spCo K PLets) := by
  refine fn_mk W.d__law_letters W.g__law_letters sc__law_letters (fun vs H Q E h => ?_) (fun _ _ _ _ _ _ us hl => match us, hl with | [_, _], _ => rfl) (fun cdv A outer s H vs Q E hr h => ?_)
  · obtain ⟨p, ws, ds, N, S, m, rfl, hw, ⟨k, rfl, _⟩, _⟩ := h
    obtain ⟨w1, rfl, _⟩ := hw.one
    rfl
  · refine ⟨_, PSs.nox (pss_cons (ps_par (i := 2) (j := 3) rfl sc__law_letters.nd rfl rfl (by decide) rfl rfl (pa_cons (pe_callTy (listU rfl) rfl W.n_list bt_list (pa_cons pe_str pa_nil)) (pa_cons (pe_lst pa_nil) pa_nil)) rfl)
  (pss_cons (ps_for PassesOwn.never rfl (pi_range1 rfl W.n_range (pa_cons (pv 1) pa_nil)) (nameU (i := 4) sc__law_letters.nd) (pss_one (appU (K := K) (pv 3) (popU (K := K) (pv 2) (pe_fn F__law_tug (hr.mono (by decide)) rfl pass0 (pa_cons (pv 0) (pa_cons (pe_callB (lenU (K := K)) rfl W.n_len bt_len (pa_cons (pv 2) pa_nil)) pa_nil)))))))
  (pss_one (ps_ret (joinU (K := K) pe_str (pe_callB (sortU (K := K)) rfl W.n_sorted bt_sorted (pa_cons (pv 3) pa_nil))))))), ?_⟩
    obtain ⟨p, ws, ds, N, S, m, rfl, hw, ⟨k, rfl, hk0, hk4, rfl, rfl⟩, hc, hm, q⟩ := h
    obtain ⟨w1, rfl, hw1⟩ := hw.one
    cases hw1
    refine tk_run (N := 0 + (0 + k * 1 + 0)) (R := fun v B' => Same (cut H p) B' ∧ ∃ z, v = .str z ∧ Lot z ∧ (cods z).length = k) (tk_seq (P := LetI p (cut H p) k 0) (fun m H0 eB hc hm D qn _ => ?_) fun σ1 B1 p1 => tk_seq (tk_for (K := K) (N1 := 0) (Sk := fun j => j = k) (n := k) (ek_imp (ek_ev (n := 0) (ev_var (d := .int k) (v := .int k) p1.2.2.2.1 (.int _)) rfl) fun d hd => ⟨k, rfl, hd⟩) (fun j hj => by omega) (by omega) (LetI p (cut H p) k) (fun B' e => ?_) fun i σ' B' hi ⟨e, h5, h0, h1, l1, l2, pool, found, hne, n1, n2, s2, s3, b1, b2, hl, hpm⟩ => ?_) fun σ2 B2 ⟨j, hj, e, h5, h0, h1, l1, l2, pool, found, hne, n1, n2, s2, s3, b1, b2, hl, hpm⟩ => ?_) hc (by omega) fun v H' c ⟨e, z, ez, hz, hk⟩ => by
        subst ez
        exact q (.str z) (.str z) H' e (c.mono (Same.refl _) (by omega)) ⟨z, rfl, hz, hk⟩ (.str z)
    · refine ⟨_, rfl, by decide +kernel, fun l1 hl1 => ⟨by decide +kernel, fun l2 hl2 => ⟨_, _, rfl, qn _ _ ?_ ?_⟩⟩⟩
      · exact hc.mono ((same_new hl1).trans (same_new hl2)) (by omega)
      · obtain ⟨_, _, _, hp0, _, _⟩ := hc
        have hp1 : l1 ≠ p := Ne.symm (ne_of_none hp0 hl1)
        have hp2 : l2 ≠ p := Ne.symm (ne_of_none (same_new (o := .lst ((cods "abcdefghijklmnopqrstuvwxyz").map fun c => .str (one c))) hl1 _ _ hp0) hl2)
        have hne : l1 ≠ l2 := ne_of_none (H := upd H0 l1 (.lst ((cods "abcdefghijklmnopqrstuvwxyz").map fun c => .str (one c)))) upd_same hl2
        refine ⟨?_, rfl, rfl, rfl, l1, l2, List.range' 97 26, [], hne, ?_, ?_, rfl, rfl, ?_, ?_, rfl, .refl _⟩
        · rw [← eB]; exact cut_mono ((same_new hl1).trans (same_new hl2))
        · rw [← eB]; exact (cut_same p).free hl1
        · rw [← eB]; exact (cut_same p).free ((same_new hl1).free hl2)
        · rw [cut_ne hp1, upd_ne hne, upd_same, show cods "abcdefghijklmnopqrstuvwxyz" = List.range' 97 26 from letters_cods]
        · rw [cut_ne hp2, upd_same]; rfl
    · obtain ⟨a, b, c, d, l1, l2, pool, found, hne, n1, n2, s2, s3, b1, b2, hl, hpm⟩ := p1
      exact ⟨a.trans e, b, c, d, l1, l2, pool, found, hne, n1, n2, s2, s3, e _ _ b1, e _ _ b2, hl, hpm⟩
    · intro m H0 eB hc hm D qn _
      subst eB
      have hlen : found.length + pool.length = 26 := by have := hpm.length_eq; simpa using this
      have ht : EvK K p 1 (tCall (spCo K PTug) [] E0 (tCons (tVar 0) (tCons (tCB (rLen K) (tCons (tVar 2) tNil)) tNil))) (σ'.set 4 (some (.int (i : Nat)))) (cut H0 p) (Below pool.length) := ek_call (n := 0) (by rw [set_off (by decide)]; exact h0)
        (ea_cons (d := .int pool.length) ((ev_lenL (ds := pool.map fun c => .str (one c)) (ev_var (by rw [set_off (by decide)]; exact s2) (.lst b1 (rp_ones pool)))).as (by rw [List.length_map])) ea_nil) (fun d hd => by rw [List.mem_singleton.mp hd]; rfl) ⟨pool.length, rfl, by omega, by omega, rfl, rfl⟩
      refine ⟨.ref l2, by rw [set_off (by decide)]; exact s3, .inl ⟨rfl, _, SqL.of (cut_same p _ _ b2)⟩, .ref l1, by rw [set_off (by decide)]; exact s2, .inl ⟨rfl, _, SqL.of (cut_same p _ _ b1)⟩, ht m H0 rfl hc hm _ fun v d H' e' c ⟨j, hj, ed⟩ r => ?_⟩
      subst ed
      cases r
      have hb1 := cut_same p _ _ (e' _ _ b1)
      have hb2 := cut_same p _ _ (e' _ _ b2)
      have hp1 : l1 ≠ p := ne_of_none b1 cut_at
      have hp2 : l2 ≠ p := ne_of_none b2 cut_at
      have hg : pool[j]? = some pool[j] := List.getElem?_eq_getElem hj
      refine ⟨l1, _, j, j, .str (one pool[j]), rfl, rfl, hb1, by omega, by omega, ?_, by rw [List.getElem?_map, hg]; rfl, l2, _, _, rfl, rfl, (upd_ne (Ne.symm hne)).trans hb2, by rw [List.length_map, sizeLine_eq]; omega, qn _ _ ?_ ?_⟩
      · rw [seqIndex_of (by omega) (by rw [List.length_map]; omega), Int.toNat_natCast]
      · obtain ⟨a1, a2, a3, hp0, a4, a5⟩ := c
        exact ⟨a1, a2, a3, by rw [upd_ne (Ne.symm hp2), upd_ne (Ne.symm hp1)]; exact hp0, a4, a5⟩
      · refine ⟨?_, by rw [List.length_set]; exact h5, by rw [set_off (by decide)]; exact h0, by rw [set_off (by decide)]; exact h1, l1, l2, pool.eraseIdx j, found ++ [pool[j]], hne, n1, n2, by rw [set_off (by decide)]; exact s2, by rw [set_off (by decide)]; exact s3, ?_, ?_, by rw [List.length_append, hl]; rfl, ?_⟩
        · rw [cut_upd_ne hp2, cut_upd_ne hp1]
          exact same_mut (same_mut (e.trans e') n1) n2
        · rw [cut_ne hp1, upd_ne hne, upd_same, erase_map]
        · rw [cut_ne hp2, upd_same, List.map_append]
          rfl
        · rw [List.append_assoc]
          exact ((erase_perm hj).append_left found).trans hpm
    · subst hj
      intro m H0 eB hc hm D _ q2
      subst eB
      have hb2 := cut_same p _ _ b2
      have hnd : (found ++ pool).Nodup := hpm.nodup_iff.mpr List.nodup_range'
      have hfn : found.Nodup := (List.nodup_append.mp hnd).1
      refine ⟨⟨_, rfl⟩, .ref l2, s3, l2, found.map one, rfl, SqL.of (by rw [List.map_map]; exact hb2), by rw [List.length_map]; omega, fun ys q hpy hs hq => ?_⟩
      obtain ⟨l', rfl, hpl⟩ := strs_ones hpy
      have hl' := hpl.length_eq
      refine ⟨_, q, l'.map one, rfl, rfl, .inl (SqL.of upd_same), ?_, q2 _ _ (hc.mono (same_new hq) (Nat.le_refl _)) ⟨e.trans (cut_mono (same_new hq)), _, rfl, ?_, ?_⟩⟩
      · rw [sum_lens, flat_ones, show ("" : Str).length = 0 from rfl]; omega
      · rw [join_ones]
        refine ⟨?_, ?_, ?_, ?_⟩
        · rw [cods_mk]
          intro z
          rw [z] at hl'
          simp at hl'
          omega
        · rw [cods_mk]
          exact perm_lot (sort_ones hs) (hpl.nodup_iff.mpr hfn)
        · rw [cods_mk]
          intro c hc'
          have h1 : c ∈ List.range' 97 26 := hpm.mem_iff.mp (List.mem_append.mpr (.inl (hpl.mem_iff.mp hc')))
          rw [List.mem_range'_1] at h1
          exact ⟨by omega, by omega⟩
        · rw [cods_mk]; omega
      · rw [join_ones, cods_mk]; omega

end
end K7

set_option Elab.async false
set_option linter.all false
set_option maxRecDepth 100000
set_option maxHeartbeats 4000000
namespace K7
open PySem PySem.Spec PyProof.Rows L2
section
variable {K : PySem.W.Frag} {p : Addr} {σ : L2.St} {B : Hp} {N N1 N2 i j : Nat} {te ta tb : TE} {t u : TS} {R : VK} {S S1 S2 : PyData → Prop}
theorem tk_par2 (h1 : EvK K p N1 ta σ B S1) (h2 : ∀ B', Same B B' → EvK K p N2 tb σ B' S2) (sc : ∀ d, S1 d → scD d = true) : TrK p (N1 + N2) (tPar i j (tCons ta (tCons tb tNil))) σ B (fun σ' B' => Same B B' ∧ ∃ v w d e, S1 d ∧ S2 e ∧ Rp K B' v d ∧ Rp K B' w e ∧ σ' = (σ.set i (some v)).set j (some w)) R := fun m H eB hc hm D q _ =>
  h1 m H eB hc (by omega) _ fun v d H1 e1 c1 s1 r1 => h2 _ e1 (m + N1) H1 rfl c1 (by omega) _ fun w e H2 e2 c2 s2 r2 => ⟨v, w, rfl, q _ _ (c2.mono (Same.refl _) (by omega)) ⟨e1.trans e2, v, w, d, e, s1, s2, r1.sc (sc d s1) _, r2, rfl⟩⟩
theorem tk_parN (h1 : EvK K p N ta σ B S1) (sc : ∀ d, S1 d → scD d = true) : TrK p N (tPar i j (tCons ta (tCons (tLst tNil) tNil))) σ B (fun σ' B' => Same B B' ∧ ∃ v d l, S1 d ∧ Rp K B' v d ∧ B l = none ∧ B' l = some (.lst []) ∧ σ' = (σ.set i (some v)).set j (some (.ref l))) R := fun m H eB hc hm D q _ =>
  h1 m H eB hc hm _ fun v d H1 e1 c1 s1 r1 => ⟨by decide +kernel, fun l hl => ⟨v, .ref l, rfl, by
    have hp := c1
    obtain ⟨_, _, _, hp0, _, _⟩ := hp
    have hne : l ≠ p := Ne.symm (ne_of_none hp0 hl)
    exact q _ _ (c1.mono (same_new hl) (Nat.le_refl _)) ⟨e1.trans (cut_mono (same_new hl)), v, d, l, s1, r1.sc (sc d s1) _, e1.free ((cut_same p).free hl), by rw [cut_ne hne, upd_same], rfl⟩⟩⟩
/-- a test that is drawn -/
theorem tk_ifK {c : TT} {P : L2.St → Hp → Prop} (hc : ∀ m H, cut H p = B → CoilAt m H p → m + N1 ≤ 1000000 → ∀ Q : Bool → Hp → Prop, (∀ b H', Same B (cut H' p) → CoilAt (m + N1) H' p → Q b H') → c σ H Q) (h1 : ∀ B', Same B B' → TrK p N t σ B' P R) (h2 : ∀ B', Same B B' → TrK p N u σ B' P R) : TrK p (N1 + N) (tIfS c t u) σ B P R := fun m H eB hco hm D q q2 =>
  hc m H eB hco (by omega) _ fun b H2 e2 c2 => by
    cases b with
    | true => exact iteT (h1 _ e2 (m + N1) H2 rfl c2 (by omega) D (fun σ' H' c => q σ' H' (c.mono (Same.refl _) (by omega))) fun v H' c => q2 v H' (c.mono (Same.refl _) (by omega)))
    | false => exact iteF (h2 _ e2 (m + N1) H2 rfl c2 (by omega) D (fun σ' H' c => q σ' H' (c.mono (Same.refl _) (by omega))) fun v H' c => q2 v H' (c.mono (Same.refl _) (by omega)))
end
/-! ### letters by bits -/
def bitP (b k : Nat) : Bool := b.testBit k
def pick (z : Str) (b : Nat) : List Nat := ((List.range (cods z).length).filter (bitP b)).map fun k => (cods z).getD k 0
theorem pick_ne {z : Str} {b : Nat} (h0 : 0 < b) (h1 : b < 2 ^ (cods z).length) : pick z b ≠ [] := fun e => by
  unfold pick at e
  rw [List.map_eq_nil_iff, List.filter_eq_nil_iff] at e
  have : b = 0 := Nat.eq_of_testBit_eq fun i => by
    rw [Nat.zero_testBit]
    by_cases hi : i < (cods z).length
    · have := e i (List.mem_range.mpr hi)
      simpa [bitP] using this
    · exact Nat.testBit_lt_two_pow (Nat.lt_of_lt_of_le h1 (Nat.pow_le_pow_right (by decide) (by omega)))
  omega
theorem pick_sub {z : Str} {b : Nat} : ∀ c ∈ pick z b, c ∈ cods z := fun c hc => by
  obtain ⟨k, hk, rfl⟩ := List.mem_map.mp hc
  have hl := List.mem_range.mp (List.mem_filter.mp hk).1
  rw [List.getD_eq_getElem?_getD, List.getElem?_eq_getElem hl]
  exact List.getElem_mem hl
theorem pick_up {z : Str} {b : Nat} (h : (cods z).Pairwise (· < ·)) : (pick z b).Pairwise (· < ·) := by
  unfold pick
  rw [List.pairwise_map]
  refine ((List.pairwise_lt_range).filter _).imp_of_mem fun {i j} hi hj hij => ?_
  have h1 := List.mem_range.mp (List.mem_filter.mp hi).1
  have h2 := List.mem_range.mp (List.mem_filter.mp hj).1
  rw [List.getD_eq_getElem?_getD, List.getD_eq_getElem?_getD, List.getElem?_eq_getElem h1, List.getElem?_eq_getElem h2]
  exact List.pairwise_iff_getElem.mp h i j h1 h2 hij
theorem pick_len {z : Str} {b : Nat} : (pick z b).length ≤ (cods z).length := by
  unfold pick
  rw [List.length_map]
  exact Nat.le_trans (List.length_filter_le _ _) (by rw [List.length_range]; exact Nat.le_refl _)
theorem pick_lot {z : Str} {b : Nat} (hz : Lot z) (h0 : 0 < b) (h1 : b < 2 ^ (cods z).length) : Lot (mkS (pick z b)) :=
  ⟨by rw [cods_mk]; exact pick_ne h0 h1, by rw [cods_mk]; exact pick_up hz.up, by rw [cods_mk]; exact fun c hc => hz.az c (pick_sub c hc), by rw [cods_mk]; exact Nat.le_trans pick_len hz.le⟩
theorem bit_test (b k : Nat) : decide (Builtin.bitAnd ((b : Int) / 2 ^ ((k : Int)).toNat) 1 = 1) = bitP b k := by
  have e1 : ((b : Int) / 2 ^ ((k : Int)).toNat) = ((b / 2 ^ k : Nat) : Int) := by
    rw [Int.toNat_natCast]
    push_cast
    rfl
  rw [e1, show (1 : Int) = ((1 : Nat) : Int) from rfl, bitAnd_nat, Nat.and_one_is_mod]
  unfold bitP
  rw [Nat.testBit_eq_decide_div_mod_eq]
  exact decide_eq_decide.mpr (by omega)
section
variable {P : Program} {w : World} {K : PySem.W.Frag} {mg : Str → Option Value} {base : Heap}
/-- a lot of some letters -/
def Of (z : Str) (r : PyData) : Prop := ∃ w, r = .str w ∧ Lot w ∧ ∀ c ∈ cods w, c ∈ cods z
def PWord : List PyData → Nat → (PyData → Prop) → Prop := fun ds N S => ∃ z : Str, ds = [.str z] ∧ Lot z ∧ (cods z).length ≤ 4 ∧ N = 1 ∧ S = Of z

theorem ok__law_word (W : Wr P w K mg base) (F__law_tug : Fn P w K mg base CX0 1 "_law_tug" ["_law_coil_here", "_law_size"] (spCo K PTug)) : Fn P w K mg base CX0 2 "_law_word" ["_law_coil_here", "_law_letters_here"] (spCo K PWord) := by
  refine fn_mk W.d__law_word W.g__law_word sc__law_word (fun vs H Q E h => ?_) (fun _ _ _ _ _ _ us hl => match us, hl with | [_, _], _ => rfl) (fun cdv A outer s H vs Q E hr h => ?_)
  · obtain ⟨p, ws, ds, N, S, m, rfl, hw, ⟨d, rfl, _⟩, _⟩ := h
    obtain ⟨w1, rfl, _⟩ := hw.one
    rfl
  · refine ⟨_, PSs.nox (pss_cons (setU (i := 2) sc__law_word.nd (pe_op (addU (K := K)) pe_int (pe_fn F__law_tug (hr.mono (by decide)) rfl pass0 (pa_cons (pv 0) (pa_cons (pe_op op_sub (pe_op op_shl pe_int (pe_callB (lenU (K := K)) rfl W.n_len bt_len (pa_cons (pv 1) pa_nil))) pe_int) pa_nil)))))
  (pss_one (ps_ret (joinU (K := K) pe_str (pe_lc (own := [("_law_k", 3)]) rfl sc__law_word.nd (pi_range1 rfl W.n_range (pa_cons (pe_callB (lenU (K := K)) rfl W.n_len bt_len (pa_cons (pv 1) pa_nil)) pa_nil)) (blkOk_by (own := [("_law_k", 3)]) (N := N__law_word) (sc := (defScope s__law_word)) (by decide +kernel)) (fun _ _ _ _ _ => (nameU (i := 3) sc__law_word.nd)) (fun _ _ _ _ _ => (pts_one (pt_cmpR (eqU (K := K) hr.units) (pe_op op_and (pe_op op_shr (pv 2) (pv 3)) pe_int) pe_int (nomark _)))) (fun _ _ _ _ _ => (pe_ix (ixU (K := K)) (pv 1) (pv 3) (fun _ _ => rfl)))))))), ?_⟩
    obtain ⟨p, ws, ds, N, S, m, rfl, hw, ⟨z, rfl, hz, h4, rfl, rfl⟩, hc, hm, q⟩ := h
    obtain ⟨w1, rfl, hw1⟩ := hw.one
    cases hw1
    have hlz : z.length = (cods z).length := len_cods z
    have hpos : 0 < (cods z).length := List.length_pos_iff.mpr hz.ne
    have hp2 : 2 ≤ 2 ^ (cods z).length := by
      have : 2 ^ 1 ≤ 2 ^ (cods z).length := Nat.pow_le_pow_right (by decide) hpos
      omega
    have hp16 : 2 ^ (cods z).length ≤ 2 ^ 4 := Nat.pow_le_pow_right (by decide) h4
    have hlen : ∀ {σ : L2.St} {B : Hp}, σ[1]? = some (some (.str z)) → EvD K (tCB (rLen K) (tCons (tVar 1) tNil)) σ B (.int (cods z).length) := fun e => (ev_lenS (sz (by omega)) (ev_var e (.str z))).as (by rw [hlz])
    refine tk_run (N := 1 + 0) (R := fun v B' => Same (cut H p) B' ∧ ∃ d, Of z d ∧ Rp K B' v d) (tk_seq (tk_set (ek_opR (n := 0) (w := .int 1) (f := fun d e => ∃ b : Nat, 0 < b ∧ b < 2 ^ (cods z).length ∧ e = .int b) (fun H Q => Iff.rfl) (ek_call (n := 0) rfl (ea_cons (d := .int ((2 ^ (cods z).length - 1 : Nat) : Int)) ((ev_subI (ev_shlI (i := 1) (j := (cods z).length) ⟨by omega, by omega, by decide⟩ ev_int (hlen rfl)) (ev_int (i := 1))).as ?_) ea_nil) (fun d hd => by rw [List.mem_singleton.mp hd]; rfl) ⟨2 ^ (cods z).length - 1, rfl, by omega, by omega, rfl, rfl⟩) fun y d B' eB ⟨k, hk, e⟩ hy => ?_)) fun σ' B' ⟨e, v, d, ⟨_, _, b, hb0, hb1, ed⟩, hv, hs⟩ => tk_ret (ek_ev (n := 0) (d := .str (mkS (pick z b))) ?_ rfl) fun v' d' B2 e2 hd hr => ⟨e.trans e2, d', ?_, hr⟩) hc hm fun v H' c ⟨e, d, hd, hr⟩ => q v d H' e c hd hr
    · rw [Int.toNat_natCast]
      have : ((2 ^ (cods z).length - 1 : Nat) : Int) = ((2 ^ (cods z).length : Nat) : Int) - 1 := by omega
      rw [this]
      push_cast
      rw [Int.one_mul]
    · subst e
      exact ⟨.int ((1 + k : Nat) : Int), ⟨1 + k, by omega, by omega, rfl⟩, rfl, (ev_addI (ev_c (.int 1)) (ev_c hy)).as (by congr 1)⟩
    · subst hs ed
      cases hv
      have hjoin := ev_joinL (K := K) (σ := (start N__law_word [.ref p, .str z]).set 2 (some (.int b))) (H := B') (a := "") (ys := (pick z b).map one) (ta := tC (.str "")) (tb := tLc (iRng1 (tCons (tCB (rLen K) (tCons (tVar 1) tNil)) tNil)) (gName 3) (tTest (tOp (rEqU K) (tOp (rI0 fun i j => .int (Builtin.bitAnd i j)) (tOp (rI (fun _ j => 0 ≤ j) fun i j => .int (i / 2 ^ j.toNat)) (tVar 2) (tVar 3)) (tC (.int 1))) (tC (.int 1)))) (tOp (rIx K) (tVar 1) (tVar 3)) [3])
        (by rw [sum_lens, flat_ones, show ("" : Str).length = 0 from rfl]; have := pick_len (z := z) (b := b); omega) ev_str ?_
      · rw [join_ones] at hjoin
        exact hjoin
      · refine (ev_lcF (b := fun d => match d with | .int k => bitP b k.toNat | _ => false) (f := fun d => match d with | .int k => .str (one ((cods z).getD k.toNat 0)) | _ => .none) (ei_range1 (i := (cods z).length) (by omega) (by omega) (hlen rfl)) (by rw [upto_len]; omega) (fun d hd _ => ?_) (fun d x H1 hd e1 hx => ?_) (fun d x H1 hd e1 hx _ => ?_)).as ?_
        · obtain ⟨k, hk, rfl⟩ := mem_upto hd
          rfl
        · obtain ⟨k, hk, rfl⟩ := mem_upto hd
          cases hx
          refine (et_test (ev_eqI (ev_andI (ev_shrI (i := b) (j := (0 + (k : Nat) : Int)) (by omega) (ev_var rfl (.int _)) (ev_var rfl (.int _))) ev_int) ev_int)).as ?_
          show decide (Builtin.bitAnd ((b : Int) / 2 ^ ((0 : Int) + (k : Nat)).toNat) 1 = 1) = bitP b ((0 : Int) + (k : Nat)).toNat
          rw [Int.zero_add, bit_test]
          rfl
        · obtain ⟨k, hk, rfl⟩ := mem_upto hd
          cases hx
          have hkl : k < (cods z).length := by omega
          have hg : (cods z)[k]? = some ((cods z).getD k 0) := by rw [List.getD_eq_getElem?_getD, List.getElem?_eq_getElem hkl]; rfl
          refine (ev_ixS (sz (by omega)) (atI_nat hg) (ev_var rfl (.str z)) ((ev_var rfl (.int _)).as (by rw [Int.zero_add]))).as ?_
          show PyData.str _ = .str (one ((cods z).getD ((0 : Int) + (k : Nat)).toNat 0))
          rw [Int.zero_add]
          rfl
        · unfold upto pick
          rw [Int.toNat_natCast, List.filter_map, List.map_map, List.map_map, List.map_map]
          have ef : ((fun d => match d with | PyData.int k => bitP b k.toNat | _ => false) ∘ fun k : Nat => PyData.int (0 + (k : Int))) = bitP b := funext fun k => by
            show bitP b ((0 : Int) + k).toNat = _
            rw [Int.zero_add]
            rfl
          rw [ef]
          congr 1
          apply List.map_congr_left
          intro k _
          show PyData.str (one ((cods z).getD ((0 : Int) + k).toNat 0)) = .str (one ((cods z).getD k 0))
          rw [Int.zero_add]
          rfl
    · subst hd
      exact ⟨mkS (pick z b), rfl, pick_lot hz hb0 hb1, by rw [cods_mk]; exact pick_sub⟩

end
end K7

set_option Elab.async false
set_option linter.all false
set_option maxRecDepth 100000
set_option maxHeartbeats 4000000
namespace K7
open PySem PySem.Spec PyProof.Rows L2
theorem cut2 (z : Str) : cutS z none (some 2) = mkS ((cods z).take 2) := by
  apply cods_inj
  rw [cods_mk]
  show ((z.cps.toList.drop _).take _).toArray.toList = _
  have e0 : HT.sIx z.length 0 none = 0 := rfl
  rw [e0]
  simp only [List.drop_zero]
  have e2 : HT.sIx z.length z.length (some 2) = min 2 z.length ∨ HT.sIx z.length z.length (some 2) = min z.length 2 := by
    unfold HT.sIx
    simp
  have e3 : HT.sIx z.length z.length (some 2) = min 2 (cods z).length := by
    rw [← len_cods]
    rcases e2 with e | e
    · exact e
    · rw [e, Nat.min_comm]
  rw [e3, Nat.sub_zero]
  show (cods z).take (min 2 (cods z).length) = _
  exact (List.take_eq_take_min (l := cods z)).symm
theorem lot_take {z : Str} (h : Lot z) : Lot (mkS ((cods z).take 2)) := ⟨by
    rw [cods_mk]
    intro e
    have := congrArg List.length e
    rw [List.length_take, List.length_nil] at this
    have h2 := List.length_pos_iff.mpr h.ne
    omega, by rw [cods_mk]; exact h.up.sublist (List.take_sublist _ _), by rw [cods_mk]; exact fun c hc => h.az c (List.mem_of_mem_take hc), by rw [cods_mk, List.length_take]; have := h.le; omega⟩
theorem of_take {z w : Str} (h : Lot w) (hs : ∀ c ∈ cods w, c ∈ cods z) : Of z (.str (cutS w none (some 2))) := ⟨_, rfl, by rw [cut2]; exact lot_take h, by rw [cut2, cods_mk]; exact fun c hc => hs c (List.mem_of_mem_take hc)⟩
theorem lot_one {c : Nat} (h : az c) : Lot (one c) := ⟨(by intro e; cases e), List.pairwise_singleton _ _, (fun d hd => by
    have hd' : d ∈ [c] := hd
    rw [List.mem_singleton.mp hd']
    exact h), (by show 1 ≤ 8; decide)⟩
section
variable {P : Program} {w : World} {K : PySem.W.Frag} {mg : Str → Option Value} {base : Heap}
def PWords2 : List PyData → Nat → (PyData → Prop) → Prop := fun ds N S => ds = [.int 4, .int 4] ∧ N = 23 ∧ S = fun r => ∃ ws, r = tws ws ∧ Gw ws ∧ ws ≠ [] ∧ ws.length ≤ 4
/-- the words that were found, the rest of the state -/
structure WI (p : Addr) (B0 : Hp) (z : Str) (i : Nat) (σ : L2.St) (B : Hp) : Prop where
  sm : Same B0 B
  len : σ.length = 9
  h0 : σ[0]? = some (some (.ref p))
  h2 : σ[2]? = some (some (.int 4))
  h3 : σ[3]? = some (some (.str z))
  ex : ∃ (l : Addr) (ws : List Str) (nr : Bool), B0 l = none ∧ σ[4]? = some (some (.ref l)) ∧ (6 ≤ 6 → σ[5]? = some (some (.bl nr))) ∧ B l = some (.lst (ws.map .str)) ∧ ws.length = i ∧ ∀ w ∈ ws, Lot w ∧ ∀ c ∈ cods w, c ∈ cods z
structure WW (p : Addr) (B0 : Hp) (z : Str) (i : Nat) (σ : L2.St) (B : Hp) : Prop where
  wi : WI p B0 z i σ B
  h7 : ∃ k : Int, σ[7]? = some (some (.int k))
  h8 : ∃ w : Str, σ[8]? = some (some (.str w)) ∧ Lot w ∧ ∀ c ∈ cods w, c ∈ cods z
theorem WI.set {p : Addr} {B0 B B' : Hp} {z : Str} {i k : Nat} {σ : L2.St} {v : Option V} (h : WI p B0 z i σ B) (hk : 6 ≤ k) (e : Same B B') : WI p B0 z i (σ.set k v) B' := by
  obtain ⟨a, b, c, d0, d, l, ws, nr, e1, e2, e3, e4, e5, e6⟩ := h
  exact ⟨a.trans e, by rw [List.length_set]; exact b, by rw [set_off (by omega)]; exact c, by rw [set_off (by omega)]; exact d0, by rw [set_off (by omega)]; exact d, l, ws, nr, e1, by rw [set_off (by omega)]; exact e2, fun q => by rw [set_off (by omega)]; exact e3 q, e _ _ e4, e5, e6⟩
theorem WW.set8 {p : Addr} {B0 B B' : Hp} {z u : Str} {i : Nat} {σ : L2.St} (h : WW p B0 z i σ B) (e : Same B B') (hu : Lot u) (hs : ∀ c ∈ cods u, c ∈ cods z) : WW p B0 z i (σ.set 8 (some (.str u))) B' :=
  ⟨h.wi.set (by decide) e, let ⟨k, hk⟩ := h.h7; ⟨k, by rw [set_off (by decide)]; exact hk⟩, u, List.getElem?_set_self (by rw [h.wi.len]; decide), hu, hs⟩
theorem WW.mono {p : Addr} {B0 B B' : Hp} {z : Str} {i : Nat} {σ : L2.St} (h : WW p B0 z i σ B) (e : Same B B') : WW p B0 z i σ B' := by
  obtain ⟨⟨a, b, c, d0, d, l, ws, nr, e1, e2, e3, e4, e5, e6⟩, h7, h8⟩ := h
  exact ⟨⟨a.trans e, b, c, d0, d, l, ws, nr, e1, e2, e3, e _ _ e4, e5, e6⟩, h7, h8⟩
theorem tug_sc {n : Nat} : ∀ d, Below n d → scD d = true := fun d ⟨_, _, e⟩ => by rw [e]; rfl
theorem ev_sc {K : PySem.W.Frag} {σ : L2.St} {B : Hp} {i : Nat} {x : Int} (h : σ[i]? = some (some (.int x))) : EvD K (tVar i) σ B (.int x) := ev_var h (.int x)
/-- a tug, its size plain -/
theorem ek_tug {K : PySem.W.Frag} {p : Addr} {σ : L2.St} {B : Hp} {n : Nat} {te : TE} {E : XK} (h0 : σ[0]? = some (some (.ref p))) (h : EvD K te σ B (.int n)) (h1 : 0 < n) (h2 : n < 1000000) : EvK K p 1 (tCall (spCo K PTug) [] E (tCons (tVar 0) (tCons te tNil))) σ B (Below n) :=
  ek_call (n := 0) h0 (ea_cons h ea_nil) (fun d hd => by rw [List.mem_singleton.mp hd]; rfl) ⟨n, rfl, h1, h2, rfl, rfl⟩
/-- 1 + a tug -/
theorem ek_tug1 {K : PySem.W.Frag} {p : Addr} {σ : L2.St} {B : Hp} {n : Nat} {te : TE} {E : XK} (h0 : σ[0]? = some (some (.ref p))) (h : EvD K te σ B (.int n)) (h1 : 0 < n) (h2 : n < 1000000) : EvK K p 1 (tOp (rAddU K) (tC (.int 1)) (tCall (spCo K PTug) [] E (tCons (tVar 0) (tCons te tNil)))) σ B (fun d => ∃ j : Nat, (0 < j ∧ j ≤ n) ∧ d = .int j) :=
  ek_imp (ek_opR (n := 0) (w := .int 1) (f := fun _ e => ∃ j : Nat, (0 < j ∧ j ≤ n) ∧ e = .int j) (fun H Q => Iff.rfl) (ek_tug h0 h h1 h2) fun y d B' eB ⟨k, hk, e⟩ hy => by
    subst e
    exact ⟨.int ((1 + k : Nat) : Int), ⟨1 + k, ⟨by omega, by omega⟩, rfl⟩, rfl, (ev_addI (ev_c (.int 1)) (ev_c hy)).as (by congr 1)⟩) fun d ⟨_, _, h⟩ => h

theorem ok__law_words (W : Wr P w K mg base) (F__law_tug : Fn P w K mg base CX0 1 "_law_tug" ["_law_coil_here", "_law_size"] (spCo K PTug)) (F__law_letters : Fn P w K mg base CX0 3 "_law_letters" ["_law_coil_here", "_law_many"] (spCo K PLets)) (F__law_word : Fn P w K mg base CX0 2 "_law_word" ["_law_coil_here", "_law_letters_here"] (spCo K PWord)) (F__law_take : Fn P w K mg base CX0 2 "_law_take" ["_law_coil_here", "_law_some"] (spCo K PTake)) : Fn P w K mg base CX0 4 "_law_words" ["_law_coil_here", "_law_most_letters", "_law_most_words"] (spCo K PWords2) := by
  refine fn_mk W.d__law_words W.g__law_words sc__law_words (fun vs H Q E h => ?_) (fun _ _ _ _ _ _ us hl => match us, hl with | [_, _, _], _ => rfl) (fun cdv A outer s H vs Q E hr h => ?_)
  · obtain ⟨p, ws, ds, N, S, m, rfl, hw, ⟨rfl, _⟩, _⟩ := h
    obtain ⟨w1, w2, rfl, _⟩ := hw.two
    rfl
  · refine ⟨_, PSs.nox (pss_cons (ps_par (i := 3) (j := 4) rfl sc__law_words.nd rfl rfl (by decide) rfl rfl (pa_cons (pe_fn F__law_letters (hr.mono (by decide)) rfl pass0 (pa_cons (pv 0) (pa_cons (pe_op (addU (K := K)) pe_int (pe_fn F__law_tug (hr.mono (by decide)) rfl pass0 (pa_cons (pv 0) (pa_cons (pv 1) pa_nil)))) pa_nil))) (pa_cons (pe_lst pa_nil) pa_nil)) rfl)
  (pss_cons (setU (i := 5) sc__law_words.nd (pe_cmpR (eqU (K := K) hr.units) (pe_fn F__law_tug (hr.mono (by decide)) rfl pass0 (pa_cons (pv 0) (pa_cons pe_int pa_nil))) pe_int (nomark _)))
  (pss_cons (ps_for PassesOwn.never rfl (pi_range1 rfl W.n_range (pa_cons (pe_op (addU (K := K)) pe_int (pe_fn F__law_tug (hr.mono (by decide)) rfl pass0 (pa_cons (pv 0) (pa_cons (pv 2) pa_nil)))) pa_nil)) (nameU (i := 6) sc__law_words.nd) (pss_cons (ps_par (i := 7) (j := 8) rfl sc__law_words.nd rfl rfl (by decide) rfl rfl (pa_cons (pe_fn F__law_tug (hr.mono (by decide)) rfl pass0 (pa_cons (pv 0) (pa_cons pe_int pa_nil))) (pa_cons (pe_fn F__law_word (hr.mono (by decide)) rfl pass0 (pa_cons (pv 0) (pa_cons (pv 3) pa_nil))) pa_nil)) rfl)
  (pss_cons (ps_if (pt_val (pv 5)) (pss_one (setU (i := 8) sc__law_words.nd (pe_slice (slU (K := K)) (pv 8) po_none (po_some pe_int)))) pss_nil)
  (pss_cons (ps_if (PW.pt (pw_and (pt_cmpR (eqU (K := K) hr.units) (pv 7) pe_int (nomark _)) (pw_and1 (pt_cmpR (neU (K := K) hr.units) (pv 4) (pe_lst pa_nil) (nomark _))))) (pss_one (setU (i := 8) sc__law_words.nd (pe_fn F__law_take (hr.mono (by decide)) rfl pass0 (pa_cons (pv 0) (pa_cons (pv 4) pa_nil))))) pss_nil)
  (pss_cons (ps_if (pt_cmpR (eqU (K := K) hr.units) (pv 7) pe_int (nomark _)) (pss_one (setU (i := 8) sc__law_words.nd (pe_fn F__law_take (hr.mono (by decide)) rfl pass0 (pa_cons (pv 0) (pa_cons (pv 3) pa_nil))))) pss_nil)
  (pss_one (appU (K := K) (pv 4) (pv 8))))))))
  (pss_one (ps_ret (pe_callTy (tupU (K := K)) rfl W.n_tuple bt_tuple (pa_cons (pv 4) pa_nil))))))), ?_⟩
    obtain ⟨p, ws, ds, N, S, m, rfl, hw, ⟨rfl, rfl, rfl⟩, hc, hm, q⟩ := h
    obtain ⟨w1, w2, rfl, hw1, hw2⟩ := hw.two
    cases hw1
    cases hw2
    refine tk_run (N := ((1 + 4) + (1 + ((1 + 4 * ((1 + 1) + (0 + (1 + (1 + 0))))) + 0)))) (R := fun v B' => Same (cut H p) B' ∧ ∃ ws, Rp K B' v (tws ws) ∧ Gw ws ∧ ws ≠ [] ∧ ws.length ≤ 4) ?_ hc (by omega) fun v H' c ⟨e, ws, hr, g, hne, hl⟩ => q v (tws ws) H' e c ⟨ws, rfl, g, hne, hl⟩ hr
    refine tk_seq (tk_parN (S1 := fun d => ∃ z, d = .str z ∧ Lot z ∧ (cods z).length ≤ 4) (ek_call1 rfl (ek_tug1 (n := 4) rfl (ev_sc rfl) (by decide) (by decide)) fun d ⟨j, hj, ed⟩ => ?_) fun d ⟨z, e, _⟩ => by rw [e]; rfl) fun σ1 B1 ⟨e1, v, d, l, ⟨z, ed, hz, hz4⟩, hv, hl0, hl1, hs⟩ => ?_
    · subst ed
      exact ⟨_, ⟨j, rfl, hj.1, hj.2, rfl, rfl⟩, fun r ⟨z, er, hz, hk⟩ => ⟨z, er, hz, by omega⟩⟩
    subst ed
    cases hv
    subst hs
    refine tk_seq (tk_set (S := fun d => ∃ b, d = .bool b) (ek_imp (ek_opL (n := 0) (f := fun d => match d with | .int k => .bool (decide (k = 0)) | _ => .none) (ek_tug (n := 4) rfl (ev_int (i := 4)) (by decide) (by decide)) (fun x d B' eB ⟨k, hk, e⟩ hx => by subst e; exact ev_eqI (ev_c hx) ev_int) fun d ⟨k, hk, e⟩ => by subst e; rfl) fun d ⟨_, ⟨k, hk, e⟩, ez⟩ => by subst e; exact ⟨_, ez⟩)) fun σ2 B2 ⟨e2, v2, d2, ⟨nr, ed2⟩, hv2, hs2⟩ => ?_
    subst ed2
    cases hv2
    subst hs2
    refine tk_seq (tk_for (n := 4) (Sk := fun j => 0 < j ∧ j ≤ 4) (ek_tug1 (n := 4) rfl (ev_sc rfl) (by decide) (by decide)) (fun j hj => hj.2) (by decide) (WI p (cut H p) z) (fun B' e => ⟨(e1.trans e2).trans e, rfl, rfl, rfl, rfl, l, [], nr, hl0, rfl, fun _ => rfl, e _ _ (e2 _ _ hl1), rfl, fun w hw => by cases hw⟩) fun i σ' B' hi hI => ?_) fun σ3 B3 ⟨j, hj, hI⟩ => ?_
    · have hI := hI.set (k := 6) (v := some (.int (i : Nat))) (Nat.le_refl _) (Same.refl _)
      generalize σ'.set 6 (some (V.int (i : Nat))) = σ' at hI
      refine tk_seq (P := WW p (cut H p) z i) (tk_imp (tk_par2 (ek_tug (n := 6) hI.h0 (ev_int (i := 6)) (by decide) (by decide)) (S2 := Of z) (fun B2 e2 => ek_call (n := 0) hI.h0 (ea_cons (ev_var hI.h3 (.str z)) ea_nil) (fun d hd => by rw [List.mem_singleton.mp hd]; rfl) ⟨z, rfl, hz, hz4, rfl, rfl⟩) tug_sc) (fun σ2 B2 ⟨e2, v, w2, d, e, ⟨k, hk, ed⟩, ⟨u, eu, hu, hsub⟩, hv, hw, hs⟩ => ?_) fun _ _ z => z) fun σ2 B2 h2 => ?_
      · subst ed eu
        cases hv
        cases hw
        subst hs
        exact ⟨(hI.set (by decide) e2).set (by decide) (Same.refl _), ⟨k, by rw [set_off (by decide), List.getElem?_set_self (by rw [hI.len]; decide)]⟩, u, List.getElem?_set_self (by rw [List.length_set, hI.len]; decide), hu, hsub⟩
      refine tk_seq (P := WW p (cut H p) z i) (tk_if (et_val (K := K) (ev_var (h2.wi.ex.choose_spec.choose_spec.choose_spec.2.2.1 (Nat.le_refl _)) (.bl _))) (fun _ B3 e3 => ?_) fun _ B3 e3 => tk_imp tk_next (fun σ' B' ⟨a, b⟩ => by subst a b; exact h2.mono e3) fun _ _ z => z) fun σ3 B3 h3 => ?_
      · obtain ⟨u, hu8, hu, hsub⟩ := h2.h8
        refine tk_imp (tk_set (ek_ev (n := 0) (ev_slS (sz (by have := hu.size; omega)) (ev_var hu8 (.str u)) eo_none (eo_some (K := K) (ev_int (i := 2)))) rfl)) (fun σ' B' ⟨e, v, d, ed, hv, hs⟩ => ?_) fun _ _ z => z
        subst ed
        cases hv
        subst hs
        obtain ⟨u', eu, hu', hs'⟩ := of_take hu hsub
        cases eu
        exact h2.set8 (e3.trans e) hu' hs'
      refine tk_seq (P := WW p (cut H p) z i) ?_ fun σ4 B4 h4 => ?_
      · obtain ⟨l, ws, nr, n1, n2, n3, n4, n5, n6⟩ := h3.wi.ex
        obtain ⟨k7, hk7⟩ := h3.h7
        have hF : ∀ {B' : Hp}, Same B3 B' → EvD K (tVar 4) σ3 B' (.list (ws.map .str)) := fun e => ev_var n2 (.lst (e _ _ n4) (rpAll_strs ws))
        have hsh : SeqAt.shaped (.list (ws.map PyData.str)) = true := (shp_list (n := 0) fun d hd => by
          obtain ⟨w, hw, rfl⟩ := List.mem_map.mp hd
          exact (n6 w hw).1.lay).ok (by decide)
        have ht : EvT (tAnd (tTest (tOp (rEqU K) (tVar 7) (tC (.int 0)))) (tTest (tOp (rNeU K) (tVar 4) (tLst tNil)))) σ3 B3 (decide (k7 = 0) && !PyData.eqv (.list (ws.map .str)) (.list [])) := et_and (et_test (ev_eqI (ev_sc hk7) ev_int)) fun _ => et_test (ev_neG hsh rfl (hF (Same.refl _)) (ev_lst s0 ea_nil))
        refine tk_if ht (fun hb B5 e5 => ?_) fun _ B5 e5 => tk_le (tk_imp tk_next (fun σ' B' ⟨a, b⟩ => by subst a b; exact h3.mono e5) fun _ _ z => z) (Nat.zero_le 1)
        have hne : 0 < ws.length := by
          cases ws with
          | nil => exact absurd (show (false = true) from (Bool.and_eq_true_iff.mp hb).2) (by decide)
          | cons a r => exact Nat.succ_pos _
        refine tk_imp (tk_set (ek_call (n := 1) h3.wi.h0 (ea_cons (hF e5) ea_nil) (fun d hd => ?_) ⟨_, ws.map .str, 0, rfl, rfl, by rw [List.length_map]; exact hne, by rw [List.length_map]; omega, fun x hx => by obtain ⟨w, _, rfl⟩ := List.mem_map.mp hx; rfl, rfl, rfl⟩)) (fun σ' B' ⟨e, v, d, hd, hv, hs⟩ => ?_) fun _ _ z => z
        · rw [List.mem_singleton.mp hd]
          refine ⟨?_, fun x hx => by obtain ⟨w, _, rfl⟩ := List.mem_map.mp hx; rfl⟩
          rcases ws with _ | ⟨a, _ | ⟨b, _ | ⟨c, _ | ⟨d, r⟩⟩⟩⟩ <;> rfl
        · obtain ⟨w, hw, rfl⟩ := List.mem_map.mp hd
          cases hv
          subst hs
          exact h3.set8 (e5.trans e) (n6 w hw).1 (n6 w hw).2
      refine tk_seq (P := WW p (cut H p) z i) ?_ fun σ5 B5 h5 => ?_
      · obtain ⟨k7, hk7⟩ := h4.h7
        refine tk_if (et_test (K := K) (ev_eqI (ev_sc hk7) ev_int)) (fun hb B5 e5 => ?_) fun _ B5 e5 => tk_le (tk_imp tk_next (fun σ' B' ⟨a, b⟩ => by subst a b; exact h4.mono e5) fun _ _ z => z) (Nat.zero_le 1)
        refine tk_imp (tk_set (ek_call (n := 0) h4.wi.h0 (ea_cons (ev_var h4.wi.h3 (.str z)) ea_nil) (fun d hd => by rw [List.mem_singleton.mp hd]; rfl) ⟨_, signs z, 0, rfl, rfl, by rw [signs_len]; exact hz.pos, by rw [signs_len]; have := hz.size; omega, fun x hx => by obtain ⟨c, _, rfl⟩ := mem_signs hx; rfl, rfl, rfl⟩)) (fun σ' B' ⟨e, v, d, hd, hv, hs⟩ => ?_) fun _ _ z => z
        obtain ⟨c, hc', rfl⟩ := mem_signs hd
        cases hv
        subst hs
        exact h4.set8 (e5.trans e) (lot_one (hz.az c hc')) fun d hd => by
          have hd' : d ∈ [c] := hd
          rw [List.mem_singleton.mp hd']
          exact hc'
      obtain ⟨l, ws, nr, n1, n2, n3, n4, n5, n6⟩ := h5.wi.ex
      obtain ⟨u, hu8, hu, hsub⟩ := h5.h8
      refine tk_imp (tk_app (xs := ws.map .str) n2 n4 (by rw [List.length_map]; omega) (ek_ev (n := 0) (ev_var hu8 (.str u)) rfl)) (fun σ' B' ⟨a, y, d, B6, e6, ed, hy, eB⟩ => ?_) fun _ _ z => z
      subst a ed eB
      cases hy
      refine ⟨same_mut (h5.wi.sm.trans e6) n1, h5.wi.len, h5.wi.h0, h5.wi.h2, h5.wi.h3, l, ws ++ [u], nr, n1, n2, n3, ?_, by rw [List.length_append, n5]; rfl, fun w hw => ?_⟩
      · rw [upd_same, List.map_append]
        rfl
      · rcases List.mem_append.mp hw with h | h
        · exact n6 w h
        · rw [List.mem_singleton.mp h]
          exact ⟨hu, hsub⟩
    · obtain ⟨l, ws, nr, n1, n2, n3, n4, n5, n6⟩ := hI.ex
      refine tk_ret (ek_ev (n := 1) (ev_tupleL (ev_var n2 (.lst n4 (rpAll_strs ws)))) (fun x hx => by obtain ⟨w, _, rfl⟩ := List.mem_map.mp hx; rfl)) fun v d B' e hd hv => ?_
      subst hd
      exact ⟨hI.sm.trans e, ws, hv, ⟨by omega, fun w hw => (n6 w hw).1, cods z, hz4, fun w hw => (n6 w hw).2⟩, fun z => by rw [z] at n5; simp at n5; omega, by omega⟩

end
end K7

set_option Elab.async false
set_option linter.all false
set_option maxRecDepth 100000
set_option maxHeartbeats 4000000
namespace K7
open PySem PySem.Spec PyProof.Rows L2
section
variable {P : Program} {w : World} {K : PySem.W.Frag} {mg : Str → Option Value} {base : Heap}
/-- the values that may be an index -/
def odds (n : Nat) : List PyData := [.int (-1), .int n, .int ((n : Int) + 1), .none, .bool true, .bool false, .str "0", .tuple [.int 0], .list [], .int (10 ^ 20), .int (-(n : Int))]
def Odd (n : Nat) (d : PyData) : Prop := Below n d ∨ d ∈ odds n
def PAny : List PyData → Nat → (PyData → Prop) → Prop := fun ds N S => ∃ n : Nat, ds = [.int n] ∧ n ≤ 1000 ∧ N = 3 ∧ S = Odd n
theorem fr_odds {n : Nat} : ∀ d ∈ odds n, Fr 1 d := fun d hd => by
  simp only [odds, List.mem_cons, List.not_mem_nil, or_false] at hd
  rcases hd with rfl | rfl | rfl | rfl | rfl | rfl | rfl | rfl | rfl | rfl | rfl
  all_goals first | trivial | exact ⟨rfl, fun x hx => by cases hx⟩ | (intro x hx; rw [List.mem_singleton.mp hx]; rfl)
theorem tk_ifC {p : Addr} {σ : L2.St} {B : Hp} {N N1 : Nat} {c : TT} {t u : TS} {C : Bool → Prop} {P : L2.St → Hp → Prop} {R : VK} (hc : ∀ m H, cut H p = B → CoilAt m H p → m + N1 ≤ 1000000 → ∀ Q : Bool → Hp → Prop, (∀ b H', Same B (cut H' p) → CoilAt (m + N1) H' p → C b → Q b H') → c σ H Q) (h1 : C true → ∀ B', Same B B' → TrK p N t σ B' P R) (h2 : ∀ B', Same B B' → TrK p N u σ B' P R) : TrK p (N1 + N) (tIfS c t u) σ B P R := fun m H eB hco hm D q q2 =>
  hc m H eB hco (by omega) _ fun b H2 e2 c2 cb => by
    cases b with
    | true => exact iteT (h1 cb _ e2 (m + N1) H2 rfl c2 (by omega) D (fun σ' H' c => q σ' H' (c.mono (Same.refl _) (by omega))) fun v H' c => q2 v H' (c.mono (Same.refl _) (by omega)))
    | false => exact iteF (h2 _ e2 (m + N1) H2 rfl c2 (by omega) D (fun σ' H' c => q σ' H' (c.mono (Same.refl _) (by omega))) fun v H' c => q2 v H' (c.mono (Same.refl _) (by omega)))
theorem tk_ret0 {K : PySem.W.Frag} {p : Addr} {σ : L2.St} {B : Hp} {N : Nat} {te : TE} {u : TS} {S : PyData → Prop} {P : L2.St → Hp → Prop} {R : VK} (h : EvK K p N te σ B S) (k : ∀ v d B', Same B B' → S d → Rp K B' v d → R v B') : TrK p N (tSeq (tRet te) u) σ B P R := fun m H eB hc hm D _ q2 =>
  h m H eB hc hm _ fun v d H' e c s r => q2 v H' c (k v d _ e s r)

theorem ok__law_any_index (W : Wr P w K mg base) (F__law_tug : Fn P w K mg base CX0 1 "_law_tug" ["_law_coil_here", "_law_size"] (spCo K PTug)) (F__law_take : Fn P w K mg base CX0 2 "_law_take" ["_law_coil_here", "_law_some"] (spCo K PTake)) : Fn P w K mg base CX0 3 "_law_any_index" ["_law_coil_here", "_law_many"] (spCo K PAny) := by
  refine fn_mk W.d__law_any_index W.g__law_any_index sc__law_any_index (fun vs H Q E h => ?_) (fun _ _ _ _ _ _ us hl => match us, hl with | [_, _], _ => rfl) (fun cdv A outer s H vs Q E hr h => ?_)
  · obtain ⟨p, ws, ds, N, S, m, rfl, hw, ⟨n, rfl, _⟩, _⟩ := h
    obtain ⟨w1, rfl, _⟩ := hw.one
    rfl
  · refine ⟨_, PSs.nox (pss_cons (ps_if (PW.pt (pw_and (pt_cmpR op_gt (pe_fn F__law_tug (hr.mono (by decide)) rfl pass0 (pa_cons (pv 0) (pa_cons pe_int pa_nil))) pe_int (nomark _)) (pw_and1 (pt_cmpR op_gt (pv 1) pe_int (nomark _))))) (pss_one (ps_ret (pe_fn F__law_tug (hr.mono (by decide)) rfl pass0 (pa_cons (pv 0) (pa_cons (pv 1) pa_nil))))) pss_nil)
  (pss_one (ps_ret (pe_fn F__law_take (hr.mono (by decide)) rfl pass0 (pa_cons (pv 0) (pa_cons (pe_lst (pa_cons (pe_un un_neg pe_int) (pa_cons (pv 1) (pa_cons (pe_op (addU (K := K)) (pv 1) pe_int) (pa_cons pe_non (pa_cons pe_bl (pa_cons pe_bl (pa_cons pe_str (pa_cons (pe_tup (pa_cons pe_int pa_nil)) (pa_cons (pe_lst pa_nil) (pa_cons (pe_op op_pow pe_int pe_int) (pa_cons (pe_un un_neg (pv 1)) pa_nil)))))))))))) pa_nil)))))), ?_⟩
    obtain ⟨p, ws, ds, N, S, m, rfl, hw, ⟨n, rfl, hn, rfl, rfl⟩, hc, hm, q⟩ := h
    obtain ⟨w1, rfl, hw1⟩ := hw.one
    cases hw1
    have hN : ∀ {B : Hp}, EvD K (tVar 1) (start N__law_any_index [.ref p, .int n]) B (.int n) := ev_var rfl (.int _)
    refine tk_run (N := (1 + 1) + 1) (R := fun v B' => Same (cut H p) B' ∧ ∃ d, Odd n d ∧ Rp K B' v d) ?_ hc (by omega) fun v H' c ⟨e, d, hd, hr⟩ => q v d H' e c hd hr
    have hlast : ∀ B', Same (cut H p) B' → TrK p 1 (tRet (tCall (spCo K PTake) [] E0 (tCons (tVar 0) (tCons _ tNil)))) (start N__law_any_index [.ref p, .int n]) B' (fun _ _ => False) (fun v B' => Same (cut H p) B' ∧ ∃ d, Odd n d ∧ Rp K B' v d) := fun B' eB => tk_ret (ek_call (n := 2) rfl (ea_cons (d := .list (odds n)) (ev_lst (sz (by show 11 ≤ 100000; decide)) (ea_cons (ev_negI (ev_int (i := 1))) (ea_cons hN (ea_cons (ev_addI hN (ev_int (i := 1))) (ea_cons ev_non (ea_cons ev_bl (ea_cons ev_bl (ea_cons ev_str (ea_cons (ev_tup s1 (ea_cons ev_int ea_nil)) (ea_cons (ev_lst s0 ea_nil) (ea_cons (ev_powI (i := 10) (j := 20) ⟨by decide, by decide, by decide⟩ ev_int ev_int) (ea_cons (ev_negI hN) ea_nil)))))))))))) ea_nil) (fun d hd => by rw [List.mem_singleton.mp hd]; exact ⟨rfl, fr_odds⟩) ⟨_, odds n, 1, rfl, rfl, by show 0 < 11; decide, by show 11 < 100000; decide, fr_odds, rfl, rfl⟩) fun v d B2 e2 hd hv => ⟨eB.trans e2, d, .inr hd, hv⟩
    have hk : EvK K p 1 (tOp (rI0 fun i j => .bl (decide (j < i))) (tCall (spCo K PTug) [] E0 (tCons (tVar 0) (tCons (tC (.int 7)) tNil))) (tC (.int 0))) (start N__law_any_index [.ref p, .int n]) (cut H p) (fun d => ∃ b, d = .bool b) := ek_imp (ek_opL (n := 0) (f := fun d => match d with | .int k => .bool (decide (0 < k)) | _ => .none) (ek_tug (n := 7) rfl (ev_int (i := 7)) (by decide) (by decide)) (fun x d B' eB ⟨k, hk, e⟩ hx => by subst e; exact ev_gtI (ev_c hx) ev_int) fun d ⟨k, hk, e⟩ => by subst e; rfl) fun d ⟨_, ⟨k, hk, e⟩, ez⟩ => by subst e; exact ⟨_, ez⟩
    refine tk_seq (P := fun σ' B' => σ' = start N__law_any_index [.ref p, .int n] ∧ Same (cut H p) B') (tk_ifC (C := fun b => b = true → 0 < n) (fun m1 H1 eB hc1 hm1 Q1 q1 => hk m1 H1 eB hc1 hm1 _ fun v d H' e c ⟨b, ed⟩ r => ?_) (fun h0 B' e => ?_) fun B' e => tk_le (tk_imp tk_next (fun σ' B2 ⟨a, b⟩ => by subst a b; exact ⟨rfl, e⟩) fun _ _ z => z) (Nat.zero_le 1)) fun σ' B' ⟨hs, e⟩ => by
      subst hs
      exact hlast B' e
    · subst ed
      cases r
      refine ⟨b, rfl, ?_⟩
      cases b with
      | true =>
        have ht : EvT (tTest (tOp (rI0 fun i j => .bl (decide (j < i))) (tVar 1) (tC (.int 0)))) (start N__law_any_index [.ref p, .int n]) (cut H' p) (decide ((0 : Int) < n)) := et_test (ev_gtI hN ev_int)
        exact iteT (ht H' (cut_same p) _ fun H2 e2 => q1 _ H2 (e.trans (cut_mono e2)) (c.mono e2 (Nat.le_refl _)) fun z => by have := of_decide_eq_true z; omega)
      | false => exact iteF (q1 false H' e c fun z => by cases z)
    · exact tk_ret (ek_tug rfl hN (h0 rfl) (by omega)) fun v d B2 e2 hd hv => ⟨e.trans e2, d, .inl hd, hv⟩

end
end K7

set_option Elab.async false
set_option linter.all false
set_option maxRecDepth 100000
set_option maxHeartbeats 4000000
namespace K7
open PySem PySem.Spec PyProof.Rows L2
/-! ### defs that write data out: the stack of what is written out is known to be empty -/
structure FnG (P : Program) (w : World) (K : PySem.W.Frag) (mg : Str → Option Value) (base : Heap) (k : Nat) (f : Addr) (fd : FuncData) (ps : List Str) (sp : Sp) : Prop where
  len : ∀ vs H Q, sp vs H Q E0 → vs.length = ps.length
  run : ∀ (A : Around) (outer : List Env) (s : Shared) (H : Hp) (args : Args) (us : List Value) (vs : List V) (Q : VK), Room k A → A.guards = some [] → Env0 P w K mg base A outer s H → BindsTo s fd args (ps.zip us) → Vals vs us → sp vs H Q E0 →
    codeAny (model P w) A (.call (.ref f) args) (CR CX0 outer P w H s Q E0) s
structure FG (P : Program) (w : World) (K : PySem.W.Frag) (mg : Str → Option Value) (base : Heap) (k : Nat) (x : Str) (ps : List Str) (sp : Sp) : Prop where
  ex : ∃ f fd, FnG P w K mg base k f fd ps sp ∧ mg x = some (.ref f) ∧ PySem.W.keepIn K (.ref f) = true ∧ Binds K fd ps []
section
variable {X : Cx} {k : Nat} {x : Str} {ps : List Str} {sp : Sp} {e : Expr} {es : List Expr} {t : TA} {q pos : Pos}
theorem pe_fg (F : FG X.prog X.w X.K X.mg X.base k x ps sp) (hr : Room k X.A) (hd : X.A.guards = some []) (hg : Gl X x) (ha : PA X (e :: es) t) (hdb : (x == ("__debug__" : Str)) = false := by decide)
    (he : starEach (e :: es) X.env = (false, eval e X.env) :: starEach es X.env := by rfl) (hpl : (backTo pos (starEach es X.env)).any (·.1) = false := by rfl) : PE X (.Call (.Name x q) (e :: es) [] pos) (tCall sp [] E0 t) := by
  obtain ⟨f, fd, ok, is_f, kept, binds⟩ := F.ex
  constructor
  intro pins s σ H Q I h
  refine wpAny_Call_Name_kw (ld_glob I hg is_f (PySem.W.callWith_K (h₀ := X.base) I.ok.mod.kin kept (thn (ha.run pos pins s σ H _ I h) fun us s1 came => ?_) he hpl) hdb)
  obtain ⟨vs, G, J, rv, q⟩ := came
  have q : sp vs G Q E0 := List.append_nil vs ▸ q
  have n : us.length = ps.length := rv.length.symm.trans (ok.len _ _ _ q)
  have b := List.append_nil us ▸ binds s1 us J.kIn ((List.append_nil us).symm ▸ n)
  refine ⟨J.kIn, wpAny_call (codeAny_mono (ok.run _ X.stack s1 G ⟨us, []⟩ us vs Q hr hd J.env0 b rv q) fun r s' res => ?_)⟩
  match r, res with
  | .ok (.ret u), res => exact J.after res
  | .ok .next, res => exact res.elim
  | .ok .brk, res => exact res.elim
  | .ok .cont, res => exact res.elim
  | .error _, res => exact res.elim
end
theorem fng_of {P : Program} {w : World} {K : PySem.W.Frag} {mg : Str → Option Value} {base : Heap} {k : Nat} {f : Addr} {name qual : Str} {params : Arguments} {body : List Stmt} {scope : Scope} {dV kV doc pm cdv ct oc : Value} {an od : Option Addr}
    {osl : Array (Option Value)} {N ps : List Str} {sp : Sp} (lk : K.lookup f = some ⟨oc, od, .func (PySem.W.fnOf name qual params body scope dV kV doc pm an cdv ct), osl⟩) (hcd : PySem.W.codeIn K cdv qual = true) (S : FnScope N ps scope)
    (len : ∀ vs H Q, sp vs H Q E0 → vs.length = ps.length)
    (hbody : ∀ (A : Around) (outer : List Env) (s : Shared) (H : Hp) (vs : List V) (Q : VK), Room k (A.deeper (envOfC qual scope s.heap.objs.size f cdv)) → A.guards = some [] → sp vs H Q E0 →
      ∃ t, PSs (cxOf CX0 P w K mg base N qual scope f cdv A outer s H E0) body t ∧ t { nx := fun _ H' => Q .non H', rt := Q } (L2.start N vs) H) :
    FnG P w K mg base (k + 1) f (PySem.W.fnOf name qual params body scope dV kV doc pm an cdv ct) ps sp :=
  ⟨len, fun A outer s H args us vs Q hr hg e0 hb r h => LamX.run_ofS lk hcd S hr e0 hb r (len _ _ _ h) fun hr' => hbody A outer s H vs Q hr' hg h⟩
/-- repr(x) of data that has no dict in it -/
def rRepr (K : PySem.W.Frag) : List V → Hp → VK → Prop := fun xs H Q => ∃ (a : Addr) (d : PyData), xs = [.ref a] ∧ Dp K H (.ref a) d ∧ d.showable = true ∧ d.hasDict = false ∧ d.depth ≤ 50 ∧ d.shown.length ≤ sizeLine ∧ Q (.str d.shown) H
theorem cr_repr {X : Cx} {K : PySem.W.Frag} (hd : X.A.guards = some []) (hu : X.A.units + 64 < cLine) (hK : X.K = K := by rfl) : CallR X (.builtin "repr") (rRepr K) := by
  cases hK
  intro pins s σ H xs us Q I r h
  obtain ⟨a, d, rfl, hp, hs, hn, hdp, hsz, q⟩ := h
  obtain rfl := Vals.ref1 r
  obtain ⟨as, rd⟩ := Dp.reads I d (.ref a) (.ref a) hp rfl
  exact repr_of_reads' rd hs (fun z => by rw [hn] at z; cases z) hd (by omega) (fun b o e => e) (fun h' u tk hk => ⟨.str d.shown, H, I.kept (t' := tk) hk, ⟨u, rfl⟩, q⟩) hsz
/-! ### list.count, flat items -/
theorem cnt_eqU {x : V} {xs : List V} {us : List Value} (r : Vals xs us) (flat : xs.all flatV = true) : us.countP (L2.eqU x) = xs.countP fun y => eqV y x := by
  induction r with
  | nil => rfl
  | cons one _ ih =>
    obtain ⟨f1, f2⟩ := Bool.and_eq_true_iff.mp ((List.all_cons ..).symm.trans flat)
    rw [List.countP_cons, List.countP_cons, eqU_of one f1, ih f2]
def rCntF (K : PySem.W.Frag) : V → List V → Hp → VK → Prop := fun x xs H Q => ∃ (p : Addr) (ys : List V) (y : V), x = .ref p ∧ xs = [y] ∧ SqL K H p ys ∧ flatV y = true ∧ ys.all flatV = true ∧ Q (.int (ys.countP fun z => eqV z y : Nat)) H
theorem mt_countF {X : Cx} : MtR X "list.count" (rCntF X.K) := by
  intro pins s σ H x xs v us Q I rx rxs h
  rcases h with ⟨p, ys, y, ex, exs, sq, fy, fys, q⟩
  subst ex exs
  cases rx
  obtain ⟨u, is_u, ru⟩ := rxs.one
  subst is_u
  obtain ⟨its, rv, ⟨⟨cl, dc, da, so⟩, n, at_p, c1, c2, c3⟩, _⟩ := I.list sq
  have c1 : cl = .type "list" := c1
  have c3 : da = .seq its.toArray n := c3
  subst c1 c3
  have meets := SeqAt.list_countAt p its.toArray n dc so u (L2.eqU y)
  refine call_meets PySem.F.slot_list_count ⟨_, at_p, rfl⟩ PySem.F.entry_list_count (PySem.F.args_list_count_2 _ _) meets ⟨at_p, fun w hw => mem_eqAt ru fy rv fys w (by simpa using hw), .int (ys.countP fun z => eqV z y : Nat), H, I.tok _, ⟨s.toks, ?_⟩, q⟩
  show Value.int ((its.toArray.toList.countP (L2.eqU y) : Nat) : Int) s.toks = _
  rw [List.toList_toArray, cnt_eqU rv fys]
section
variable {X : Cx} {K : PySem.W.Frag} {ob e : Expr} {to te : TE} {apos cpos : Pos}
theorem cntU (ho : PE X ob to) (he : PE X e te) (hK : X.K = K := by rfl) (hbase : attributeBase ob "count" X.env (eval ob X.env) = eval ob X.env := by rfl)
    (hfew : ((backTo cpos (starEach [e] X.env)).all (fun x => !x.1) && (backToKw cpos (keywordEach [] X.env)).all (fun x => x.1.isSome) && decide ([e].length + ([] : List Keyword).length + (if ([] : List Keyword).isEmpty then 0 else 1) < 30)) = true := by rfl)
    (hline : (apos.endLine == cpos.line) = true := by rfl) (hs : starEach [e] X.env = (false, eval e X.env) :: starEach [] X.env := by rfl) :
    PE X (.Call (.Attribute ob "count" apos) [e] [] cpos) (tBM K "list" (rCntF K) to (tCons te tNil)) := by
  cases hK
  exact pe_bm PySem.F.plainAttrs_list PySem.F.slot_list_count PySem.F.type_list_count mt_countF ho (pa_cons he pa_nil hs) hbase hfew hline hs rfl
end
end K7

set_option Elab.async false
set_option linter.all false
set_option maxRecDepth 100000
set_option maxHeartbeats 4000000
namespace K7
open PySem PySem.Spec PyProof.Rows L2
section
variable {K : PySem.W.Frag} {p : Addr} {σ : L2.St} {B : Hp} {N N1 N2 i j : Nat} {te ta tb : TE} {t u w : TS} {R : VK} {S S1 S2 : PyData → Prop} {P : L2.St → Hp → Prop}
theorem tk_setP {n : Nat} {d e : PyData} (h : EvD K te σ B (.tuple [d, e])) (fd : Fr n d) (fe : Fr n e) : TrK p 0 (tAsg te (gTup K 2 (gCons (gName i) (gCons (gName j) gNil)))) σ B (fun σ' B' => Same B B' ∧ ∃ v w, Rp K B' v d ∧ Rp K B' w e ∧ σ' = (σ.set i (some v)).set j (some w)) R := fun m H eB hc hm D q _ => by
  subst eB
  refine h H (cut_same p) _ fun v H2 e2 hv => ?_
  cases hv with
  | tup hs hr =>
    obtain ⟨x, y, rfl, hx, hy⟩ := hr.two
    have c2 := hc.mono e2 (Nat.le_refl _)
    exact ⟨_, _, rfl, hs, rfl, _, _, rfl, _, _, rfl, rfl, q _ _ c2 ⟨cut_mono e2, x, y, c2.data fd hx, c2.data fe hy, rfl⟩⟩
theorem tk_ifS {c : TT} {b : Bool} (hc : EvT c σ B b) (h1 : b = true → ∀ B', Same B B' → TrK p N (tSeq t w) σ B' P R) (h2 : b = false → ∀ B', Same B B' → TrK p N (tSeq u w) σ B' P R) : TrK p N (tSeq (tIfS c t u) w) σ B P R := fun m H eB hco hm D q q2 => by
  subst eB
  refine hc H (cut_same p) _ fun H2 e2 => ?_
  cases b with
  | true => exact iteT (h1 rfl _ (cut_mono e2) m H2 rfl (hco.mono e2 (Nat.le_refl _)) hm D q q2)
  | false => exact iteF (h2 rfl _ (cut_mono e2) m H2 rfl (hco.mono e2 (Nat.le_refl _)) hm D q q2)
theorem tk_nextS (h : TrK p N w σ B P R) : TrK p N (tSeq tNext w) σ B P R := h
/-- a pair, its right part drawn -/
theorem ek_tupR {n : Nat} {x : Str} (h : EvK K p N tb σ B S) (f : ∀ d, S d → Fr n d) : EvK K p N (tTup (tCons (tC (.str x)) (tCons tb tNil))) σ B (fun r => ∃ d, S d ∧ r = .tuple [.str x, d]) := fun m H eB hc hm Q q =>
  h m H eB hc hm _ fun v d H' e c s r => ⟨by show 2 ≤ sizeLine; rw [sizeLine_eq]; omega, fun t ht => by
    have c2 := c.mono (same_new (o := .tup [.str x, v]) ht) (Nat.le_refl _)
    refine q (.ref t) (.tuple [.str x, d]) _ (e.trans (cut_mono (same_new ht))) c2 ⟨d, s, rfl⟩ (c2.data (n := n + 1) (fr_tup fun y hy => ?_) (.tup (SqT.of upd_same) (.cons (.str x) (.cons ((r.mono (cut_same p)).mono (same_new ht)) .nil))))
    rcases List.mem_cons.mp hy with rfl | hy
    · exact fr_up rfl
    · rw [List.mem_singleton.mp hy]; exact f d s⟩
theorem ek_tup1 {n : Nat} (h : EvK K p N tb σ B S) (f : ∀ d, S d → Fr n d) : EvK K p N (tTup (tCons tb tNil)) σ B (fun r => ∃ d, S d ∧ r = .tuple [d]) := fun m H eB hc hm Q q =>
  h m H eB hc hm _ fun v d H' e c s r => ⟨by show 1 ≤ sizeLine; rw [sizeLine_eq]; omega, fun t ht => by
    have c2 := c.mono (same_new (o := .tup [v]) ht) (Nat.le_refl _)
    refine q (.ref t) (.tuple [d]) _ (e.trans (cut_mono (same_new ht))) c2 ⟨d, s, rfl⟩ (c2.data (n := n + 1) (fr_tup fun y hy => ?_) (.tup (SqT.of upd_same) (.cons ((r.mono (cut_same p)).mono (same_new ht)) .nil)))
    rw [List.mem_singleton.mp hy]; exact f d s⟩
theorem ek_opRR {n n2 : Nat} {r : R2} {d0 : PyData} {f : PyData → PyData} (ha : EvD K ta σ B d0) (f0 : Fr n d0) (hb : ∀ B', Same B B' → EvK K p N tb σ B' S) (k : ∀ v w d B', Rp K B' v d0 → S d → Rp K B' w d → EvD K (tOp r (tC v) (tC w)) σ B' (f d)) (fr : ∀ d, S d → Fr n2 (f d)) : EvK K p N (tOp r ta tb) σ B (fun z => ∃ d, S d ∧ z = f d) := fun m H eB hc hm Q q => by
  subst eB
  refine ha H (cut_same p) _ fun v H1 e1 hv => ?_
  have c1 := hc.mono e1 (Nat.le_refl _)
  exact hb _ (cut_mono e1) m H1 rfl c1 hm _ fun w d H2 e2 c2 s2 r2 => k v w d _ ((c1.data f0 hv).mono e2) s2 r2 H2 (cut_same p) _ fun z H3 e3 hz => q z (f d) H3 (((cut_mono e1).trans e2).trans (cut_mono e3)) (c2.mono e3 (Nat.le_refl _)) ⟨d, s2, rfl⟩ ((c2.mono e3 (Nat.le_refl _)).data (fr d s2) hz)
end
theorem fr_tws (ws : List Str) : Fr 1 (tws ws) := fun x hx => by obtain ⟨w, _, rfl⟩ := List.mem_map.mp hx; rfl
theorem fr_two {a b : PyData} (ha : scD a = true) (hb : scD b = true) : Fr 1 (.tuple [a, b]) := fun x hx => by
  rcases List.mem_cons.mp hx with rfl | hx
  · exact ha
  · rw [List.mem_singleton.mp hx]
    exact hb
theorem fr_wish (x : Wish) : Fr 1 x.data := by
  cases x <;> exact fr_two rfl rfl
theorem fr_wsD (l : List Wish) : Fr 2 (wsD l) := fun x hx => by obtain ⟨w, _, rfl⟩ := List.mem_map.mp hx; exact fr_wish w
theorem fr_le : ∀ {n m : Nat} {d : PyData}, n ≤ m → Fr n d → Fr m d
  | 0, m, d, _, h => fr_up h
  | n + 1, 0, _, h, _ => absurd h (Nat.not_succ_le_zero _)
  | n + 1, m + 1, d, l, h => by
    have l' : n ≤ m := Nat.le_of_succ_le_succ l
    cases d with
    | list ds => exact ⟨h.1, fun x hx => fr_le l' (h.2 x hx)⟩
    | tuple ds => exact fun x hx => fr_le l' (h x hx)
    | dict kvs => exact fun kv hk => fr_le l' (h kv hk)
    | _ => trivial
theorem lot_thg {ws : List Str} (g : Gw ws) (ne : ws ≠ []) : Lot (thg ws) := by
  refine ⟨?_, ?_, ?_, ?_⟩
  · rw [cods_thg]
    intro e
    obtain ⟨w, hw⟩ := List.exists_mem_of_ne_nil ws ne
    obtain ⟨c, hc⟩ := List.exists_mem_of_ne_nil _ (g.lot w hw).ne
    have hm : c ∈ lets (ws.flatMap cods) := mem_lets.mpr ⟨(g.lot w hw).az c hc, List.mem_flatMap.mpr ⟨w, hw, hc⟩⟩
    rw [e] at hm
    cases hm
  · rw [cods_thg]; exact lets_up _
  · rw [cods_thg]; exact fun c hc => (mem_lets.mp hc).1
  · rw [cods_thg]; have := g.things; omega
theorem Gw.more {ws vs : List Str} {z : Str} (g : Gw ws) (hz : Lot z) (hs : ∀ c ∈ cods z, c ∈ cods (thg ws)) (hl : vs.length ≤ 6) (hv : ∀ w ∈ vs, w ∈ ws ∨ w = z) : Gw vs := by
  obtain ⟨Ls, h1, h2⟩ := g.few
  refine ⟨hl, fun w hw => ?_, Ls, h1, fun w hw c hc => ?_⟩
  · rcases hv w hw with h | rfl
    · exact g.lot w h
    · exact hz
  · rcases hv w hw with h | rfl
    · exact h2 w h c hc
    · have := hs c hc
      rw [cods_thg] at this
      obtain ⟨u, hu, hcu⟩ := List.mem_flatMap.mp (mem_lets.mp this).2
      exact h2 u hu c hcu
theorem chg_mem {ws : List Str} {i : Nat} {z : Str} : ∀ w ∈ chg ws i z, w ∈ ws ∨ w = z := fun w hw => by
  unfold chg at hw
  rcases List.mem_append.mp hw with h | h
  · rcases List.mem_append.mp h with h | h
    · exact .inl (List.mem_of_mem_take h)
    · exact .inr (List.mem_singleton.mp h)
  · exact .inl (List.mem_of_mem_drop h)
theorem chg_len {ws : List Str} {i : Nat} {z : Str} (h : i < ws.length) : (chg ws i z).length = ws.length := by
  unfold chg
  rw [List.length_append, List.length_append, List.length_take, List.length_drop]
  show min i ws.length + 1 + _ = _
  omega
/-- a deed that is drawn -/
def DeedOk (c : S7) (e : Deed) : Prop := e.ok c ∧ (∀ d, e = .lift d → Odd c.2.length d) ∧ ∀ z, e = .put z → c.1.length ≤ 4
def PDeed : List PyData → Nat → (PyData → Prop) → Prop := fun ds N S => ∃ (c : S7) (ps : List S7), ds = [stsD (ps ++ [c])] ∧ c.Ok ∧ c.1.length ≤ 5 ∧ N = 5 ∧ S = fun r => ∃ e : Deed, r = e.data ∧ DeedOk c e
section
variable {P : Program} {w : World} {K : PySem.W.Frag} {mg : Str → Option Value} {base : Heap}
theorem odd_nd {n : Nat} {d : PyData} (h : Odd n d) : noDict d = true := by
  rcases h with ⟨k, _, rfl⟩ | h
  · rfl
  · simp only [odds, List.mem_cons, List.not_mem_nil, or_false] at h
    rcases h with rfl | rfl | rfl | rfl | rfl | rfl | rfl | rfl | rfl | rfl | rfl <;> rfl
theorem odd_fr {n : Nat} {d : PyData} (h : Odd n d) : Fr 1 d := by
  rcases h with ⟨k, _, rfl⟩ | h
  · trivial
  · exact fr_odds d h

theorem ok__law_deed (W : Wr P w K mg base) (F__law_tug : Fn P w K mg base CX0 1 "_law_tug" ["_law_coil_here", "_law_size"] (spCo K PTug)) (F__law_take : Fn P w K mg base CX0 2 "_law_take" ["_law_coil_here", "_law_some"] (spCo K PTake)) (F__law_any_index : Fn P w K mg base CX0 3 "_law_any_index" ["_law_coil_here", "_law_many"] (spCo K PAny)) (F__law_word : Fn P w K mg base CX0 2 "_law_word" ["_law_coil_here", "_law_letters_here"] (spCo K PWord)) (F__law_letters_of : Fn P w K mg base CX0 1 "_law_letters_of" ["_law_words_here"] (spD K PLettersOf)) : Fn P w K mg base CX0 5 "_law_deed" ["_law_coil_here", "_law_stands"] (spCo K PDeed) := by
  refine fn_mk W.d__law_deed W.g__law_deed sc__law_deed (fun vs H Q E h => ?_) (fun _ _ _ _ _ _ us hl => match us, hl with | [_, _], _ => rfl) (fun cdv A outer s H vs Q E hr h => ?_)
  · obtain ⟨p, ws, ds, N, S, m, rfl, hw, ⟨c, ps, rfl, _⟩, _⟩ := h
    obtain ⟨w1, rfl, _⟩ := hw.one
    rfl
  · refine ⟨_, PSs.nox (pss_cons (ps_asg (pe_ix (ixU (K := K)) (pv 1) (pe_un un_neg pe_int) (fun _ _ => rfl)) (gtupU (K := K) (n := 2) rfl (pgs_cons (nameU (i := 2) sc__law_deed.nd) (pgs_cons (nameU (i := 3) sc__law_deed.nd) pgs_nil))))
  (pss_cons (ps_par (i := 4) (j := 5) rfl sc__law_deed.nd rfl rfl (by decide) rfl rfl (pa_cons (pe_fn F__law_tug (hr.mono (by decide)) rfl pass0 (pa_cons (pv 0) (pa_cons pe_int pa_nil))) (pa_cons (pe_fn F__law_tug (hr.mono (by decide)) rfl pass0 (pa_cons (pv 0) (pa_cons (pe_callB (lenU (K := K)) rfl W.n_len bt_len (pa_cons (pv 2) pa_nil)) pa_nil))) pa_nil)) rfl)
  (pss_cons (ps_if (pt_cmpR op_ltU (pv 4) pe_int (nomark _)) (pss_one (ps_ret (pe_tup (pa_cons pe_str pa_nil)))) pss_nil)
  (pss_cons (ps_if (pt_cmpR (eqU (K := K) hr.units) (pv 4) pe_int (nomark _)) (pss_one (ps_ret (pe_tup (pa_cons pe_str (pa_cons (pv 5) (pa_cons (pe_ix (ixU (K := K)) (pv 2) (pv 5) (fun _ _ => rfl)) pa_nil)))))) pss_nil)
  (pss_cons (ps_if (pt_cmpR (eqU (K := K) hr.units) (pv 4) pe_int (nomark _)) (pss_one (ps_ret (pe_tup (pa_cons pe_str (pa_cons (pe_fn F__law_take (hr.mono (by decide)) rfl pass0 (pa_cons (pv 0) (pa_cons (pe_lst (pa_cons (pe_tup (pa_cons pe_str (pa_cons pe_int pa_nil))) (pa_cons (pe_tup (pa_cons pe_str (pa_cons pe_int pa_nil))) (pa_cons (pe_tup (pa_cons pe_str (pa_cons (pe_ix (ixU (K := K)) (pv 2) (pv 5) (fun _ _ => rfl)) pa_nil))) pa_nil)))) pa_nil))) pa_nil))))) pss_nil)
  (pss_cons (ps_if (pt_cmpR (eqU (K := K) hr.units) (pv 4) pe_int (nomark _)) (pss_one (ps_ret (pe_tup (pa_cons pe_str (pa_cons (pe_fn F__law_any_index (hr.mono (by decide)) rfl pass0 (pa_cons (pv 0) (pa_cons (pe_callB (lenU (K := K)) rfl W.n_len bt_len (pa_cons (pv 3) pa_nil)) pa_nil))) pa_nil))))) pss_nil)
  (pss_cons (ps_if (PW.pt (pw_or (pt_cmpR (eqU (K := K) hr.units) (pv 4) pe_int (nomark _)) (pw_or1 (pt_cmpR op_gt (pe_callB (lenU (K := K)) rfl W.n_len bt_len (pa_cons (pv 2) pa_nil)) pe_int (nomark _))))) (pss_one (ps_ret (pe_tup (pa_cons pe_str (pa_cons (pv 5) pa_nil))))) pss_nil)
  (pss_one (ps_ret (pe_op (addU (K := K)) (pe_op (addU (K := K)) (pe_tup (pa_cons (pe_ix (ixU (K := K)) (pe_lst (pa_cons pe_str (pa_cons pe_str pa_nil))) (pe_op op_fdiv (pv 4) pe_int) (fun _ _ => rfl)) pa_nil)) (pe_ifExp (pt_cmpR (eqU (K := K) hr.units) (pv 4) pe_int (nomark _)) (pe_tup (pa_cons (pv 5) pa_nil)) (pe_tup pa_nil))) (pe_tup (pa_cons (pe_fn F__law_word (hr.mono (by decide)) rfl pass0 (pa_cons (pv 0) (pa_cons (pe_fn F__law_letters_of (hr.mono (by decide)) rfl pass0 (pa_cons (pv 2) pa_nil)) pa_nil))) pa_nil)))))))))))), ?_⟩
    obtain ⟨p, ws, ds, N, S, m, rfl, hw, ⟨c, ps, rfl, hok, h5, rfl, rfl⟩, hc, hm, q⟩ := h
    obtain ⟨w1, rfl, hw1⟩ := hw.one
    have hg := hok.g
    have hle := hok.le
    have hpos : 0 < c.1.length := List.length_pos_iff.mpr hok.ne
    refine tk_run (N := 0 + ((1 + 1) + 3)) (R := fun v B' => Same (cut H p) B' ∧ ∃ e : Deed, Rp K B' v e.data ∧ DeedOk c e) ?_ hc (by omega) fun v H' cc ⟨e, dd, hr, hd⟩ => q v dd.data H' e cc ⟨dd, rfl, hd⟩ hr
    refine tk_seq (tk_setP (n := 2) (ev_ixL (atI_last stD ps c) (ev_var rfl hw1) (ev_negI (ev_int (i := 1)))) (fr_le (by decide) (fr_tws _)) (fr_wsD _)) fun σ1 B1 ⟨e1, a, b, ha, hb, hs⟩ => ?_
    subst hs
    have hlW : ∀ {σ : L2.St} {B' : Hp}, σ[2]? = some (some a) → Same B1 B' → EvD K (tCB (rLen K) (tCons (tVar 2) tNil)) σ B' (.int c.1.length) := fun e0 e => (ev_lenT (ds := c.1.map .str) (ev_var e0 (ha.mono e))).as (by rw [List.length_map])
    refine tk_seq (tk_par2 (ek_tug (n := 9) rfl (ev_int (i := 9)) (by decide) (by decide)) (fun B2 e2 => ek_tug (n := c.1.length) rfl (hlW rfl e2) hpos (by omega)) tug_sc) fun σ2 B2 ⟨e2, v4, v5, d4, d5, ⟨k, hk, hd4⟩, ⟨at_, hat, hd5⟩, hv4, hv5, hs⟩ => ?_
    subst hd4 hd5
    cases hv4
    cases hv5
    subst hs
    have E2 : Same (cut H p) B2 := e1.trans e2
    generalize hσ : ((((start N__law_deed [.ref p, w1]).set 2 (some a)).set 3 (some b)).set 4 (some (.int (k : Nat)))).set 5 (some (.int (at_ : Nat))) = σ
    have s0' : σ[0]? = some (some (.ref p)) := by rw [← hσ]; rfl
    have s2' : σ[2]? = some (some a) := by rw [← hσ]; rfl
    have s3' : σ[3]? = some (some b) := by rw [← hσ]; rfl
    have s4' : σ[4]? = some (some (.int (k : Nat))) := by rw [← hσ]; rfl
    have s5' : σ[5]? = some (some (.int (at_ : Nat))) := by rw [← hσ]; rfl
    clear hσ
    have hK : ∀ {B' : Hp}, EvD K (tVar 4) σ B' (.int (k : Nat)) := ev_var s4' (.int _)
    have hA : ∀ {B' : Hp}, EvD K (tVar 5) σ B' (.int (at_ : Nat)) := ev_var s5' (.int _)
    have hW : ∀ {B' : Hp}, Same B2 B' → EvD K (tVar 2) σ B' (tws c.1) := fun e => ev_var s2' (ha.mono (e2.trans e))
    obtain ⟨z, hz⟩ : ∃ z, c.1[at_]? = some z := ⟨c.1[at_], List.getElem?_eq_getElem hat⟩
    have hzm := List.mem_of_getElem? hz
    have hwat : ∀ {B' : Hp}, Same B2 B' → EvD K (tOp (rIx K) (tVar 2) (tVar 5)) σ B' (.str z) := fun e => ev_ixT (tws_at hz) (hW e) hA
    refine tk_ifS (et_test (ev_ltI hK (ev_int (i := 2)))) (fun _ B3 e3 => tk_le (tk_ret0 (ek_ev (n := 1) (d := Deed.data .undo) (ev_tup s1 (ea_cons ev_str ea_nil)) (fr_tup fun x hx => by rw [List.mem_singleton.mp hx]; rfl)) fun v d B4 e4 hd hv => ⟨(E2.trans e3).trans e4, .undo, hd ▸ hv, trivial, fun d z => (by cases z), fun d z => (by cases z)⟩) (Nat.zero_le 3)) fun _ B3 e3 => tk_nextS ?_
    have gch : ∀ {i : Nat} {y : Str}, i < c.1.length → Lot y → (∀ cc ∈ cods y, cc ∈ cods (thg c.1)) → Gw (chg c.1 i y) := fun hi hy hs => hg.more hy hs (by rw [chg_len hi]; omega) chg_mem
    have zsub : ∀ cc ∈ cods z, cc ∈ cods (thg c.1) := fun cc hcc => by rw [cods_thg]; exact mem_lets.mpr ⟨(hg.lot z hzm).az cc hcc, List.mem_flatMap.mpr ⟨z, hzm, hcc⟩⟩
    refine tk_ifS (et_test (ev_eqI hK (ev_int (i := 2)))) (fun _ B4 e4 => tk_le (tk_ret0 (ek_ev (n := 1) (d := Deed.data (.change at_ z)) (ev_tup s3 (ea_cons ev_str (ea_cons hA (ea_cons (hwat (e3.trans e4)) ea_nil)))) (fr_tup fun x hx => ?_)) fun v d B5 e5 hd hv => ⟨((E2.trans e3).trans e4).trans e5, .change at_ z, hd ▸ hv, ⟨hat, gch hat (hg.lot z hzm) zsub⟩, fun d z => (by cases z), fun d z => (by cases z)⟩) (Nat.zero_le 3)) fun _ B4 e4 => tk_nextS ?_
    · rcases List.mem_cons.mp hx with rfl | hx
      · rfl
      · rcases List.mem_cons.mp hx with rfl | hx
        · rfl
        · rw [List.mem_singleton.mp hx]; rfl
    have E4 := (E2.trans e3).trans e4
    have W4 := e3.trans e4
    refine tk_ifS (et_test (ev_eqI hK (ev_int (i := 3)))) (fun _ B5 e5 => tk_le (tk_ret0 (ek_tupR (n := 1) (S := fun d => ∃ x : Wish, d = x.data ∧ x.ok) (ek_imp (ek_call (n := 2) s0' (ea_cons (d := .list [Wish.few.data, Wish.folds.data, (Wish.has z).data]) (ev_lst s3 (ea_cons (ev_tup s2 (ea_cons ev_str (ea_cons ev_int ea_nil))) (ea_cons (ev_tup s2 (ea_cons ev_str (ea_cons ev_int ea_nil))) (ea_cons (ev_tup s2 (ea_cons ev_str (ea_cons (hwat (W4.trans e5)) ea_nil))) ea_nil)))) ea_nil) (fun d hd => ?_) ⟨_, _, 1, rfl, rfl, by show 0 < 3; decide, by show 3 < 100000; decide, fun x hx => ?_, rfl, rfl⟩) fun d hd => ?_) fun d ⟨x, ex, _⟩ => ex ▸ fr_wish x) fun v d B6 e6 ⟨d', ⟨x, ex, hx⟩, hd⟩ hv => ⟨(E4.trans e5).trans e6, .promise x, by subst hd ex; exact hv, hx, fun d z => (by cases z), fun d z => (by cases z)⟩) (by decide)) fun _ B5 e5 => tk_nextS ?_
    · rw [List.mem_singleton.mp hd]
      refine ⟨rfl, fun x hx => ?_⟩
      rcases List.mem_cons.mp hx with rfl | hx
      · exact fr_wish _
      · rcases List.mem_cons.mp hx with rfl | hx
        · exact fr_wish _
        · rw [List.mem_singleton.mp hx]; exact fr_wish _
    · rcases List.mem_cons.mp hx with rfl | hx
      · exact fr_wish _
      · rcases List.mem_cons.mp hx with rfl | hx
        · exact fr_wish _
        · rw [List.mem_singleton.mp hx]; exact fr_wish _
    · rcases List.mem_cons.mp hd with rfl | hd
      · exact ⟨.few, rfl, trivial⟩
      · rcases List.mem_cons.mp hd with rfl | hd
        · exact ⟨.folds, rfl, trivial⟩
        · rw [List.mem_singleton.mp hd]; exact ⟨.has z, rfl, hg.lot z hzm⟩
    have E5 := E4.trans e5
    have W5 := W4.trans e5
    have hlX : ∀ {B' : Hp}, Same B2 B' → EvD K (tCB (rLen K) (tCons (tVar 3) tNil)) σ B' (.int c.2.length) := fun e => (ev_lenT (ds := c.2.map Wish.data) (ev_var s3' (hb.mono (e2.trans e)))).as (by rw [List.length_map])
    refine tk_ifS (et_test (ev_eqI hK (ev_int (i := 4)))) (fun _ B6 e6 => tk_ret0 (ek_tupR (n := 1) (S := Odd c.2.length) (ek_call (n := 0) s0' (ea_cons (hlX (W5.trans e6)) ea_nil) (fun d hd => by rw [List.mem_singleton.mp hd]; rfl) ⟨c.2.length, rfl, by omega, rfl, rfl⟩) fun d hd => odd_fr hd) fun v d B7 e7 ⟨d', hd', hd⟩ hv => ⟨(E5.trans e6).trans e7, .lift d', by subst hd; exact hv, odd_nd hd', fun d z => (by cases z; exact hd'), fun d z => (by cases z)⟩) fun _ B6 e6 => tk_nextS ?_
    have E6 := E5.trans e6
    have W6 := W5.trans e6
    have htk : ∀ (u : TS) B7, Same B6 B7 → TrK p 0 (tSeq (tRet (tTup (tCons (tC (.str "take")) (tCons (tVar 5) tNil)))) u) σ B7 (fun _ _ => False) (fun v B' => Same (cut H p) B' ∧ ∃ e : Deed, Rp K B' v e.data ∧ DeedOk c e) := fun u B7 e7 => tk_ret0 (ek_ev (n := 1) (d := Deed.data (.take at_)) (ev_tup s2 (ea_cons ev_str (ea_cons hA ea_nil))) (fr_two rfl rfl)) fun v d B8 e8 hd hv => ⟨(E6.trans e7).trans e8, .take at_, hd ▸ hv, hat, fun d z => (by cases z), fun d z => (by cases z)⟩
    refine tk_ifS (b := decide (k = 5) || decide (4 < c.1.length)) (et_or (b := decide (k = 5)) (c := decide (4 < c.1.length)) ((et_test (ev_eqI hK (ev_int (i := 5)))).as (decide_eq_decide.mpr (by omega))) fun _ => (et_test (ev_gtI (hlW s2' ((e2.trans W6))) (ev_int (i := 4)))).as (decide_eq_decide.mpr (by omega))) (fun _ B7 e7 => tk_le (htk _ B7 e7) (Nat.zero_le 3)) fun hb7 B7 e7 => tk_nextS ?_
    have hl4 : c.1.length ≤ 4 := by
      have := (Bool.or_eq_false_iff.mp hb7).2
      have := of_decide_eq_false this
      omega
    have E7 := E6.trans e7
    have W7 := W6.trans e7
    have hzt := lot_thg hg hok.ne
    have h4t : (cods (thg c.1)).length ≤ 4 := by rw [cods_thg]; exact hg.things
    have hw : ∀ B8, Same B7 B8 → EvK K p 1 (tTup (tCons (tCall (spCo K PWord) [] E0 (tCons (tVar 0) (tCons (tCall (spD K PLettersOf) [] E0 (tCons (tVar 2) tNil)) tNil))) tNil)) σ B8 (fun r => ∃ d, Of (thg c.1) d ∧ r = .tuple [d]) := fun B8 e8 => ek_tup1 (n := 0) (ek_call (n := 0) s0' (ea_cons (ev_call (P := PLettersOf) (ea_cons (hW (W7.trans e8)) ea_nil) ⟨c.1, rfl, hg, rfl⟩) ea_nil) (fun d hd => by rw [List.mem_singleton.mp hd]; rfl) ⟨thg c.1, rfl, hzt, h4t, rfl, rfl⟩) fun d ⟨w, ew, _⟩ => by rw [ew]; rfl
    by_cases h8 : k = 8
    · subst h8
      refine tk_le (tk_ret (ek_opRR (n := 1) (n2 := 1) (d0 := .tuple [.str "change", .int (at_ : Nat)]) (S := fun r => ∃ d, Of (thg c.1) d ∧ r = .tuple [d]) (f := fun d => match d with | .tuple [x] => .tuple [.str "change", .int (at_ : Nat), x] | _ => .none) ((ev_catT (ds := [.str "change"]) (es := [.int (at_ : Nat)]) (sz (by show 2 ≤ 100000; decide)) (ev_tup s1 (ea_cons (ev_ixL (i := 1) (ds := [.str "put", .str "change"]) rfl (ev_lst s2 (ea_cons ev_str (ea_cons ev_str ea_nil))) ((ev_fdivI (i := 8) (j := 8) ⟨by decide, by decide⟩ hK ev_int).as rfl)) ea_nil)) (ev_if (b := true) ((et_test (ev_eqI hK (ev_int (i := 8)))).as rfl) (fun _ => ev_tup s1 (ea_cons hA ea_nil)) fun z => by cases z)).as rfl) (fr_two rfl rfl) hw (fun v w d B' hv ⟨x, hx, ed⟩ hw => ?_) fun d ⟨x, ⟨u, eu, _⟩, ed⟩ => ?_) fun v d B8 e8 ⟨d', ⟨x, ⟨u, eu, hu, hus⟩, ed⟩, hd⟩ hv => ⟨E7.trans e8, .change at_ u, by subst ed eu hd; exact hv, ⟨hat, gch hat hu hus⟩, fun d z => (by cases z), fun d z => (by cases z)⟩) (by decide)
      · subst ed
        exact ev_catT (ds := [.str "change", .int (at_ : Nat)]) (es := [x]) (sz (by show 3 ≤ 100000; decide)) (ev_c hv) (ev_c hw)
      · subst ed eu
        intro y hy
        rcases List.mem_cons.mp hy with rfl | hy
        · rfl
        · rcases List.mem_cons.mp hy with rfl | hy
          · rfl
          · rw [List.mem_singleton.mp hy]; rfl
    · have hd0 : (k : Int) / 8 = 0 := by omega
      refine tk_le (tk_ret (ek_opRR (n := 1) (n2 := 1) (d0 := .tuple [.str "put"]) (S := fun r => ∃ d, Of (thg c.1) d ∧ r = .tuple [d]) (f := fun d => match d with | .tuple [x] => .tuple [.str "put", x] | _ => .none) ((ev_catT (ds := [.str "put"]) (es := []) (sz (by show 1 ≤ 100000; decide)) (ev_tup s1 (ea_cons (ev_ixL (i := 0) (ds := [.str "put", .str "change"]) rfl (ev_lst s2 (ea_cons ev_str (ea_cons ev_str ea_nil))) ((ev_fdivI (i := (k : Nat)) (j := 8) ⟨by decide, by decide⟩ hK ev_int).as (by rw [hd0]))) ea_nil)) (ev_if (b := false) ((et_test (ev_eqI hK (ev_int (i := 8)))).as (decide_eq_false (by omega))) (fun z => by cases z) fun _ => ev_tup s0 ea_nil)).as rfl) (fun x hx => by rw [List.mem_singleton.mp hx]; rfl) hw (fun v w d B' hv ⟨x, hx, ed⟩ hw => ?_) fun d ⟨x, ⟨u, eu, _⟩, ed⟩ => ?_) fun v d B8 e8 ⟨d', ⟨x, ⟨u, eu, hu, hus⟩, ed⟩, hd⟩ hv => ⟨E7.trans e8, .put u, by subst ed eu hd; exact hv, hg.more hu hus (by rw [List.length_append]; show _ + 1 ≤ _; omega) (fun w hw => by
          rcases List.mem_append.mp hw with h | h
          · exact .inl h
          · exact .inr (List.mem_singleton.mp h)), fun d z => (by cases z), fun d z => hl4⟩) (by decide)
      · subst ed
        exact ev_catT (ds := [.str "put"]) (es := [x]) (sz (by show 2 ≤ 100000; decide)) (ev_c hv) (ev_c hw)
      · subst ed eu
        exact fr_two rfl rfl

end
end K7

set_option Elab.async false
set_option linter.all false
set_option maxRecDepth 100000
set_option maxHeartbeats 4000000
namespace K7
open PySem PySem.Spec PyProof.Rows L2
section
variable {K : PySem.W.Frag} {σ : L2.St} {H H' : Hp} {a : Addr} {ns : List Int} {tb : TE}
theorem same_l {xs : List V} (e : Same H H') (h : SqL K H a xs) : SqL K H' a xs := by
  rcases h with (h | ⟨o, h⟩) | h
  · exact .inl (.inl (e _ _ h))
  · exact .inl (.inr ⟨o, e _ _ h⟩)
  · exact .inr h
theorem ev_slQ {i : Nat} {j : Int} (hi : σ[i]? = some (some (.ref a))) (hs : SqL K H a (ns.map V.int)) (hb : EvD K tb σ H (.int j)) : ∃ ms : List Int, ms.length ≤ ns.length ∧ EvD K (tSl (rSlU K) (tVar i) tNoPart (tPart tb)) σ H (.list (ms.map .int)) := by
  refine ⟨(ns.drop (HT.sIx ns.length 0 none)).take (HT.sIx ns.length ns.length (some j) - HT.sIx ns.length 0 none), ?_, fun H1 e1 Q q => ?_⟩
  · rw [List.length_take, List.length_drop]; omega
  · have hc : cutV (ns.map V.int) none (some j) = ((ns.drop (HT.sIx ns.length 0 none)).take (HT.sIx ns.length ns.length (some j) - HT.sIx ns.length 0 none)).map V.int := by
      unfold cutV
      rw [List.length_map, List.map_take, List.map_drop]
    refine ⟨.ref a, hi, ?_⟩
    have ho := eo_some (K := K) hb H1 e1 (fun o H2 => rSlU K (.ref a) none o H2 Q) fun H2 e2 => .inl ⟨a, _, rfl, same_l (e1.trans e2) hs, fun p hp => by
      rw [hc]
      exact q _ _ (e2.trans (same_new hp)) (.lst upd_same (rpAll_ints _))⟩
    exact ho
theorem ev_lenQ {i : Nat} (hi : σ[i]? = some (some (.ref a))) (hs : SqL K H a (ns.map V.int)) : EvD K (tCB (rLen K) (tCons (tVar i) tNil)) σ H (.int ns.length) := fun H1 e1 Q q =>
  ⟨.ref a, hi, .ref a, _, rfl, .inl ⟨_, same_l e1 hs, rfl⟩, by rw [List.length_map]; exact q _ H1 (Same.refl _) (.int _)⟩
theorem ev_ixQ {i j : Nat} {x : Int} {tb : TE} (hi : σ[i]? = some (some (.ref a))) (hs : SqL K H a (ns.map V.int)) (hx : ns[j]? = some x) (hb : EvD K tb σ H (.int j)) : EvD K (tOp (rIx K) (tVar i) tb) σ H (.int x) := fun H1 e1 Q q =>
  ⟨.ref a, hi, hb H1 e1 _ fun v H2 e2 hv => by
    cases hv
    exact .inl ⟨a, _, _, .int x, rfl, rfl, same_l (e1.trans e2) hs, atI_nat (by rw [List.getElem?_map, hx]; rfl), q _ H2 e2 (.int x)⟩⟩
theorem tr_retNew {ts : TA} {ds : List PyData} {P : L2.St → Hp → Prop} {R : VK} (h : EvA K ts σ H ds) (hz : ds.length ≤ sizeLine) (k : ∀ l vs H', H l = none → Same H H' → H' l = some (.lst vs) → RpAll K H' vs ds → R (.ref l) H') : Tr (tRet (tLst ts)) σ H P R := fun D _ q2 =>
  h H (Same.refl _) _ fun vs H1 e1 hv => ⟨by rw [hv.length]; exact hz, fun l hl => q2 _ _ (k l vs _ (e1.free hl) (e1.trans (same_new hl)) upd_same (hv.mono (same_new hl)))⟩
end
section
variable {P : Program} {w : World} {K : PySem.W.Frag} {mg : Str → Option Value} {base : Heap}
def spCoil (K : PySem.W.Frag) : Sp := fun vs H Q _ => ∃ (a : Addr) (k : Nat) (ns : List Int), vs = [.ref a, .int k] ∧ SqL K H a (ns.map V.int) ∧ ns.length ≤ 63 ∧ k < 4 ∧ ∀ p H', H p = none → Same H H' → CoilAt 0 H' p → Q (.ref p) H'

theorem ok__law_coil (W : Wr P w K mg base)  : Fn P w K mg base CX0 1 "_law_coil" ["_law_script", "_law_turn"] (spCoil K) := by
  refine fn_mk W.d__law_coil W.g__law_coil sc__law_coil (fun vs H Q E h => ?_) (fun _ _ _ _ _ _ us hl => match us, hl with | [_, _], _ => rfl) (fun cdv A outer s H vs Q E hr h => ?_)
  · obtain ⟨a, k, ns, rfl, _⟩ := h
    rfl
  · refine ⟨_, PSs.nox (pss_cons (setU (i := 2) sc__law_coil.nd (pe_op (addU (K := K)) pe_int (pe_op op_mul pe_int (pv 1))))
  (pss_cons (ps_for PassesOwn.never rfl (lstU (K := K) (pe_slice (slU (K := K)) (pv 0) po_none (po_some pe_int))) (nameU (i := 3) sc__law_coil.nd) (pss_one (setU (i := 2) sc__law_coil.nd (pe_op op_mod (pe_callTy call_int1 rfl W.n_int bt_int (pa_cons (pe_op (addU (K := K)) (pe_op (addU (K := K)) (pe_op op_mul (pv 2) pe_int) (pe_op op_mul (pe_callTy call_int1 rfl W.n_int bt_int (pa_cons (pv 3) pa_nil)) pe_int)) pe_int) pa_nil)) pe_int))))
  (pss_cons (setU (i := 4) sc__law_coil.nd (pe_ifExp (pt_cmpR op_ltU (pv 1) (pe_callB (lenU (K := K)) rfl W.n_len bt_len (pa_cons (pv 0) pa_nil)) (nomark _)) (pe_callTy call_int1 rfl W.n_int bt_int (pa_cons (pe_ix (ixU (K := K)) (pv 0) (pv 1) (fun _ _ => rfl)) pa_nil)) (pe_op (addU (K := K)) (pe_op op_mul pe_int (pv 1)) pe_int)))
  (pss_cons (setU (i := 5) sc__law_coil.nd (pe_ifExp (PW.pt (pw_or (pt_cmpR op_ltU (pv 4) pe_int (nomark _)) (pw_or1 (pt_cmpR op_geU (pv 4) (pe_op op_pow pe_int pe_int) (nomark _))))) (pe_callB call_abs rfl W.n_abs bt_abs (pa_cons (pv 4) pa_nil)) pe_int))
  (pss_one (ps_ret (pe_lst (pa_cons (pv 5) (pa_cons (pe_op op_mod (pe_callTy call_int1 rfl W.n_int bt_int (pa_cons (pe_op (addU (K := K)) (pe_op op_mul (pv 2) pe_int) (pv 4)) pa_nil)) pe_int) (pa_cons pe_int pa_nil)))))))))), ?_⟩
    obtain ⟨a, k, ns, rfl, hs, hl, hk, q⟩ := h
    refine tr_run (R := fun v H' => ∃ p, v = .ref p ∧ H p = none ∧ Same H H' ∧ CoilAt 0 H' p) (tr_seq (tr_set (K := K) (Same.refl _) (ev_addI (ev_int (i := 1618033)) (ev_mulI (i := 271829) (.inl ⟨by decide, by decide⟩) ev_int (ev_var rfl (.int k))))) fun σ1 H1 ⟨e1, v, hv, hs1⟩ => ?_) fun v H' ⟨p, ev, h1, h2, h3⟩ => ev ▸ q p H' h1 h2 h3
    cases hv
    subst hs1
    obtain ⟨ms, hml, hsl⟩ := ev_slQ (i := 0) (σ := (start N__law_coil [.ref a, .int k]).set 2 (some (.int (1618033 + 271829 * (k : Int))))) rfl (same_l e1 hs) (ev_int (i := 59))
    refine tr_seq (tr_es (Same.refl _) (es_forN (K := K) (ei_list hsl) (fun i σ' _ => σ'.length = 6 ∧ σ'[0]? = some (some (.ref a)) ∧ σ'[1]? = some (some (.int k)) ∧ ∃ x : Int, σ'[2]? = some (some (.int x))) (fun H' e => ⟨rfl, rfl, rfl, _, rfl⟩) (fun i d v σ' H' hd e ⟨h6, h0, h1, x, hx⟩ hv => ?_) fun i σ' H1 H2 e p => p)) fun σ2 H2 ⟨e2, h6, h0, h1, x, hx⟩ => ?_
    · rw [List.getElem?_map] at hd
      obtain ⟨y, hy, rfl⟩ := Option.map_eq_some_iff.mp hd
      cases hv
      refine es_imp (es_set (ev_modI (by decide) (ev_intI (ev_addI (ev_addI (ev_mulI (i := x) (j := 60013) (.inr ⟨by decide, by decide⟩) (ev_var (by rw [set_off (by decide)]; exact hx) (.int x)) ev_int) (ev_mulI (i := y) (j := 7) (.inr ⟨by decide, by decide⟩) (ev_intI (ev_var (List.getElem?_set_self (by omega)) (.int y))) ev_int)) (ev_int (i := 83)))) (ev_int (i := 2147483587)))) ?_
      rintro σ3 H3 ⟨v3, hv3, rfl⟩
      cases hv3
      exact ⟨by rw [List.length_set, List.length_set]; exact h6, by rw [set_off (by decide), set_off (by decide)]; exact h0, by rw [set_off (by decide), set_off (by decide)]; exact h1, _, List.getElem?_set_self (by rw [List.length_set]; omega)⟩
    have hs2 := same_l (e1.trans e2) hs
    have hown : ∃ y : Int, EvD K (tIf (tTest (tOp rLtU (tVar 1) (tCB (rLen K) (tCons (tVar 0) tNil)))) (tCB rInt1 (tCons (tOp (rIx K) (tVar 0) (tVar 1)) tNil)) (tOp (rAddU K) (tOp (rI CMul fun i j => .int (i * j)) (tC (.int 13)) (tVar 1)) (tC (.int 5)))) σ2 H2 (.int y) := by
      have ht : EvT (tTest (tOp rLtU (tVar 1) (tCB (rLen K) (tCons (tVar 0) tNil)))) σ2 H2 (decide ((k : Int) < ns.length)) := et_test (ev_ltI (ev_var h1 (.int k)) (ev_lenQ h0 hs2))
      by_cases hkl : k < ns.length
      · rw [decide_eq_true (by omega)] at ht
        exact ⟨ns[k], ev_if ht (fun _ => ev_intI (ev_ixQ h0 hs2 (List.getElem?_eq_getElem hkl) (ev_var h1 (.int k)))) fun z => by cases z⟩
      · rw [decide_eq_false (by omega)] at ht
        exact ⟨_, ev_if ht (fun z => by cases z) fun _ => ev_addI (ev_mulI (i := 13) (.inl ⟨by decide, by decide⟩) ev_int (ev_var h1 (.int k))) ev_int⟩
    obtain ⟨y, hown⟩ := hown
    refine tr_seq (tr_set (Same.refl _) hown) fun σ3 H3 ⟨e3, v3, hv3, hs3⟩ => ?_
    cases hv3
    subst hs3
    have y4 : (σ2.set 4 (some (.int y)))[4]? = some (some (.int y)) := List.getElem?_set_self (by omega)
    have hy : ∀ {H' : Hp}, EvD K (tVar 4) (σ2.set 4 (some (.int y))) H' (.int y) := ev_var y4 (.int y)
    have hheld : ∃ z : Int, ∀ t : Int, t = (10 : Int) ^ (18 : Int).toNat → EvD K (tIf (tOr (tTest (tOp rLtU (tVar 4) (tC (.int 0)))) (tTest (tOp rGeU (tVar 4) (tOp (rI CPow fun i j => .int (i ^ j.toNat)) (tC (.int 10)) (tC (.int 18)))))) (tCB (fun xs H Q => ∃ i, xs = [.int i] ∧ Q (.int (if i < 0 then -i else i)) H) (tCons (tVar 4) tNil)) (tC (.int 0))) (σ2.set 4 (some (.int y))) H3 (.int z) := by
      have ht : EvT (tOr (tTest (tOp rLtU (tVar 4) (tC (.int 0)))) (tTest (tOp rGeU (tVar 4) (tOp (rI CPow fun i j => .int (i ^ j.toNat)) (tC (.int 10)) (tC (.int 18)))))) (σ2.set 4 (some (.int y))) H3 (decide (y < 0) || decide ((10 : Int) ^ (18 : Int).toNat ≤ y)) := et_or (et_test (ev_ltI hy (ev_int (i := 0)))) fun _ => et_test (ev_geI hy (ev_powI (i := 10) (j := 18) ⟨by decide, by decide, by decide⟩ ev_int ev_int))
      cases hb : (decide (y < 0) || decide ((10 : Int) ^ (18 : Int).toNat ≤ y)) with
      | true =>
        rw [hb] at ht
        exact ⟨_, fun _ _ => ev_if ht (fun _ => ev_abs hy) fun z => by cases z⟩
      | false =>
        rw [hb] at ht
        exact ⟨0, fun _ _ => ev_if ht (fun z => by cases z) fun _ => ev_int⟩
    obtain ⟨z, hheld⟩ := hheld
    refine tr_seq (tr_set (Same.refl _) (hheld _ rfl)) fun σ4 H4 ⟨e4, v4, hv4, hs4⟩ => ?_
    cases hv4
    subst hs4
    have z5 : ((σ2.set 4 (some (.int y))).set 5 (some (.int z)))[5]? = some (some (.int z)) := List.getElem?_set_self (by rw [List.length_set]; omega)
    have x2 : ((σ2.set 4 (some (.int y))).set 5 (some (.int z)))[2]? = some (some (.int x)) := by rw [set_off (by decide), set_off (by decide)]; exact hx
    have y4' : ((σ2.set 4 (some (.int y))).set 5 (some (.int z)))[4]? = some (some (.int y)) := by rw [set_off (by decide)]; exact y4
    refine tr_retNew (ea_cons (K := K) (ev_var z5 (.int z)) (ea_cons (ev_modI (by decide) (ev_intI (ev_addI (ev_mulI (i := x) (j := 3) (.inr ⟨by decide, by decide⟩) (ev_var x2 (.int x)) ev_int) (ev_var y4' (.int y)))) (ev_int (i := 2147483563))) (ea_cons (ev_int (i := 0)) ea_nil))) s3 fun l vs H5 hl e5 hv5 hvs => ?_
    obtain ⟨u1, u2, u3, rfl, r1, r2, r3⟩ := hvs.three
    cases r1
    cases r2
    cases r3
    have eA := ((e1.trans e2).trans e3).trans e4
    exact ⟨l, rfl, eA.free hl, eA.trans e5, _, _, _, hv5, by omega, by omega⟩

end
end K7

set_option Elab.async false
set_option linter.all false
set_option maxRecDepth 100000
set_option maxHeartbeats 400000
theorem L2H.RoomH.units {k : Nat} {A : PySem.Around} (r : L2H.RoomH k A) : A.units + 64 < PySem.cLine := by have := r.un; omega
namespace K7
open PySem PySem.Spec PyProof.Rows L2
section
variable {K : PySem.W.Frag} {σ : L2.St} {H : Hp} {ta tb : TE} {a : Addr} {d : Option Addr}
theorem ev_inLI {x : Int} {ws : List Int} (ha : EvD K ta σ H (.int x)) (hb : EvD K tb σ H (.list (ws.map .int))) : EvD K (tOp (rInU K) ta tb) σ H (.bool (decide (x ∈ ws))) :=
  ev_op2 ha hb fun v w H1 e1 hv hw Q q => by
    cases hv
    cases hw with
    | lst hs hr =>
      have e := hr.ints
      subst e
      refine .inr ⟨_, _, rfl, .inl (SqL.of hs), rfl, flat_ints ws, ?_⟩
      rw [if_neg Bool.false_ne_true, inV_ints]
      exact q _ H1 (Same.refl H1) (.bl _)
theorem DictAt.mono {H' : Hp} (h : DictAt H d) (e : Same H H') : DictAt H' d := by
  rcases h with h | ⟨dd, fs, h1, h2⟩
  · exact .inl h
  · exact .inr ⟨dd, fs, h1, e _ _ h2⟩
theorem ev_isV {D C : Addr} {b : Bool} (hi : σ[0]? = some (some (.ref a))) (hk : PySem.W.kitOne K (.ref D) (.ref C) = some b) (hd : DictAt H d) : EvD K (tCB (rIsV K D a d) (tCons (tVar 0) (tCons (tC (.ref C)) tNil))) σ H (.bool b) := fun H1 e1 Q q =>
  ⟨.ref a, hi, .ref C, .ref C, b, rfl, fun u r => r, hk, hd.mono e1, q _ H1 (Same.refl _) (.bl b)⟩
theorem ev_isVT {D : Addr} {b : Bool} {n : String} (hi : σ[0]? = some (some (.ref a))) (hk : PySem.W.kitOne K (.ref D) (.type n) = some b) (hd : DictAt H d) : EvD K (tCB (rIsV K D a d) (tCons (tVar 0) (tCons (tC (.ty n)) tNil))) σ H (.bool b) := fun H1 e1 Q q =>
  ⟨.ref a, hi, .ty n, .type n, b, rfl, fun u r => r, hk, hd.mono e1, q _ H1 (Same.refl _) (.bl b)⟩
theorem ev_cntB {b : Bool} {bs : List Bool} (ha : EvD K ta σ H (.list (bs.map .bool))) (hb : EvD K tb σ H (.bool b)) : EvD K (tBM K "list" (rCntF K) ta (tCons tb tNil)) σ H (.int (bs.countP (· == b) : Nat)) := fun H1 e1 Q q =>
  ha H1 e1 _ fun v H2 e2 hv => by
    cases hv with
    | lst hs hr =>
      have e := hr.bools
      subst e
      refine ⟨.inl ⟨rfl, _, SqL.of hs⟩, hb H2 (e1.trans e2) _ fun w H3 e3 hw => ?_⟩
      cases hw
      refine ⟨_, bs.map .bl, .bl b, rfl, rfl, SqL.of (e3 _ _ hs), rfl, flat_bools bs, ?_⟩
      rw [List.countP_map]
      exact q _ H3 (e2.trans e3) (.int _)
theorem ev_lixB {b : Bool} {bs : List Bool} {j : Nat} (hj : bs[j]? = some b) (hno : (bs.take j).all (fun c => !(c == b)) = true) (ha : EvD K ta σ H (.list (bs.map .bool))) (hb : EvD K tb σ H (.bool b)) : EvD K (tBM K "list" (rIndex K) ta (tCons tb tNil)) σ H (.int (j : Nat)) := fun H1 e1 Q q =>
  ha H1 e1 _ fun v H2 e2 hv => by
    cases hv with
    | lst hs hr =>
      have e := hr.bools
      subst e
      refine ⟨.inl ⟨rfl, _, SqL.of hs⟩, hb H2 (e1.trans e2) _ fun w H3 e3 hw => ?_⟩
      cases hw
      refine ⟨_, bs.map .bl, .bl b, j, .bl b, rfl, rfl, SqL.of (e3 _ _ hs), rfl, flat_bools bs, by rw [List.getElem?_map, hj]; rfl, by simp [eqV], fun m z' hm hz => ?_, q _ H3 (e2.trans e3) (.int _)⟩
      rw [List.getElem?_map] at hz
      obtain ⟨c, hc, rfl⟩ := Option.map_eq_some_iff.mp hz
      have hm2 : c ∈ bs.take j := List.mem_of_getElem? (i := m) (by rw [List.getElem?_take_of_lt hm]; exact hc)
      have := List.all_eq_true.mp hno c hm2
      simpa [eqV] using this
theorem ev_chainL {tc : TE} {i j k : Int} (ha : EvD K ta σ H (.int i)) (hb : EvD K tb σ H (.int j)) (hc : EvD K tc σ H (.int k)) : EvD K (tChain rLtU rLtU ta tb tc) σ H (.bool (decide (i < j) && decide (j < k))) := fun H1 e1 Q qq =>
  ha H1 e1 _ fun v H2 e2 hv => hb H2 (e1.trans e2) _ fun w H3 e3 hw => by
    cases hv; cases hw
    refine .inl ⟨i, j, rfl, rfl, decide (i < j), rfl, ?_⟩
    cases hp : decide (i < j) with
    | true =>
      refine iteT (hc H3 ((e1.trans e2).trans e3) _ fun z H4 e4 hz => ?_)
      cases hz
      exact .inl ⟨j, k, rfl, rfl, by rw [hp] at qq; simpa using qq _ H4 ((e2.trans e3).trans e4) (.bl _)⟩
    | false => exact iteF (by rw [hp] at qq; simpa using qq _ H3 (e2.trans e3) (.bl _))
theorem ev_neSame {d : PyData} (sd : SeqAt.shaped d = true) (ha : EvD K ta σ H d) (hb : EvD K tb σ H d) : EvD K (tOp (rNeU K) ta tb) σ H (.bool false) := (ev_neG sd sd ha hb).as (by rw [SeqAt.eqv_refl _ (SeqAt.canLay_of_shaped sd)]; rfl)
theorem tr_ifS {c : TT} {t u w : TS} {Hb : Hp} {b : Bool} {P : L2.St → Hp → Prop} {R : VK} (hb : Same Hb H) (hc : EvT c σ Hb b) (h1 : b = true → ∀ H', Same H H' → Tr (tSeq t w) σ H' P R) (h2 : b = false → ∀ H', Same H H' → Tr (tSeq u w) σ H' P R) : Tr (tSeq (tIfS c t u) w) σ H P R := fun D q q2 => hc H hb _ fun H2 e2 => by
  cases b with
  | true => exact iteT (h1 rfl H2 e2 D q q2)
  | false => exact iteF (h2 rfl H2 e2 D q q2)
theorem tr_nextS {w : TS} {P : L2.St → Hp → Prop} {R : VK} (h : Tr w σ H P R) : Tr (tSeq tNext w) σ H P R := h
theorem tr_retS {te : TE} {u : TS} {P : L2.St → Hp → Prop} {R : VK} (h : Tr (tRet te) σ H (fun _ _ => False) R) : Tr (tSeq (tRet te) u) σ H P R := fun D _ q2 => h { D with nx := u D } (fun _ _ z => z.elim) q2
theorem tr_retT {ts : TA} {ds : List PyData} {Hb : Hp} {P : L2.St → Hp → Prop} {R : VK} (h : EvA K ts σ Hb ds) (hb : Same Hb H) (hz : ds.length ≤ sizeLine) (k : ∀ t vs H', Same H H' → H' t = some (.tup vs) → RpAll K H' vs ds → R (.ref t) H') : Tr (tRet (tTup ts)) σ H P R := fun D _ q2 =>
  h H hb _ fun vs H1 e1 hv => ⟨by rw [hv.length]; exact hz, fun t ht => q2 _ _ (k t vs _ (e1.trans (same_new ht)) upd_same (hv.mono (same_new ht)))⟩
theorem tr_retX {f x : Str} {v : V} {dd : Addr} {Hb : Hp} {P : L2.St → Hp → Prop} {R : VK} (ha : EvD K ta σ Hb (.str x)) (hb : Same Hb H) (h0 : σ[0]? = some (some (.ref a))) (hdd : H dd = some (.xd [(f, v)])) (k : ∀ t H', Same H H' → H' t = some (.tup [.str x, v]) → R (.ref t) H') : Tr (tRet (tTup (tCons ta (tCons (tXv a dd f (tVar 0)) tNil)))) σ H P R := fun D _ q2 =>
  ha H hb _ fun w H1 e1 hw => by
    cases hw
    exact ⟨.ref a, h0, rfl, _, v, e1 _ _ hdd, by simp [List.lookup], by show 2 ≤ sizeLine; rw [sizeLine_eq]; omega, fun t ht => q2 _ _ (k t _ (e1.trans (same_new ht)) upd_same)⟩
end

section
variable {P : Program} {w : World} {K : PySem.W.Frag} {mg : Str → Option Value} {base : Heap}
def spSort (K : PySem.W.Frag) : SpV := fun p vs H Q => vs = [.ref p.1] ∧ (∃ us, p.2.data = .fields us) ∧
  ((∃ dd v, Zc (.ref (He.ga K "InvalidNumber")) (some dd) p.2 ∧ H dd = some (.xd [("given", v)]) ∧ ∀ t H', Same H H' → H' t = some (.tup [.str "number", v]) → Q (.ref t) H') ∨
   (∃ dd v, Zc (.ref (He.ga K "Broken")) (some dd) p.2 ∧ H dd = some (.xd [("index", v)]) ∧ ∀ t H', Same H H' → H' t = some (.tup [.str "broken", v]) → Q (.ref t) H') ∨
   (Zc (.ref (He.ga K "TooFew")) none p.2 ∧ ∀ t H', Same H H' → H' t = some (.tup [.str "few", .non]) → Q (.ref t) H') ∨
   (Zc (.ref (He.ga K "NothingToUndo")) none p.2 ∧ ∀ t H', Same H H' → H' t = some (.tup [.str "undo", .non]) → Q (.ref t) H'))
theorem W6 (W : Wr P w K mg base) {x : Str} (h : x ∈ (["InvalidNumber", "Broken", "TooFew", "NothingToUndo"] : List Str)) : ecB K x = true ∧ KitOk K x := by
  have := List.all_eq_true.mp (W.ex 6) x h
  obtain ⟨h1, h2⟩ := He.ba this
  exact ⟨h1, kitB_ok h2⟩

theorem ok__law_sort (W : Wr P w K mg base) : FV P w K mg base 1 "_law_sort" ["_law_e"] (spSort K) := by
  obtain ⟨fd, F⟩ := W.d__law_sort
  have hb := F.bindsN (ps := ["_law_e"]) (fun _ _ _ _ _ _ us hl => match us, hl with | [_], _ => rfl)
  have hkp := F.kp
  obtain ⟨oc, od, dV, kV, doc, pm, an, cdv, ct, osl, rfl, lk, hcd, _, _⟩ := F.ex
  refine ⟨_, _, fnv_of (k := 0) lk hcd sc__law_sort (fun p vs H Q h => by obtain ⟨rfl, _⟩ := h; rfl) (fun A outer s H vs Q pp hr h => ?_), W.g__law_sort, hkp, hb⟩
  obtain ⟨a, oe⟩ := pp
  obtain ⟨rfl, hf, h⟩ := h
  have hp : (a, oe) ∈ [(a, oe)] := List.mem_cons_self
  rcases h with ⟨dd, v, hz, hdd, q⟩ | ⟨dd, v, hz, hdd, q⟩ | ⟨hz, q⟩ | ⟨hz, q⟩
  · obtain ⟨hec, hkit⟩ := W6 (x := "InvalidNumber") W (by decide)
    have hda : DictAt H (some dd) := .inr ⟨dd, _, rfl, hdd⟩
    refine ⟨_, (pss_cons (setU (i := 1) sc__law_sort.nd (pe_lst (pa_cons (pe_callB (call_isV (ecB_ok hec) hp hz hf) rfl W.n_isinstance bt_isinstance (pa_cons (pv 0) (pa_cons (pe_glob (v := .ref (He.ga K "InvalidLot")) rfl W.g_InvalidLot rfl) pa_nil))) (pa_cons (pe_callB (call_isV (ecB_ok hec) hp hz hf) rfl W.n_isinstance bt_isinstance (pa_cons (pv 0) (pa_cons (pe_glob (v := .ref (He.ga K "InvalidNumber")) rfl W.g_InvalidNumber rfl) pa_nil))) (pa_cons (pe_callB (call_isV (ecB_ok hec) hp hz hf) rfl W.n_isinstance bt_isinstance (pa_cons (pv 0) (pa_cons (pe_glob (v := .ref (He.ga K "InvalidWish")) rfl W.g_InvalidWish rfl) pa_nil))) pa_nil)))))
  (pss_cons (setU (i := 1) sc__law_sort.nd (pe_op (addU (K := K)) (pv 1) (pe_lst (pa_cons (pe_callB (call_isV (ecB_ok hec) hp hz hf) rfl W.n_isinstance bt_isinstance (pa_cons (pv 0) (pa_cons (pe_glob (v := .ref (He.ga K "InvalidCommand")) rfl W.g_InvalidCommand rfl) pa_nil))) (pa_cons (pe_callB (call_isV (ecB_ok hec) hp hz hf) rfl W.n_isinstance bt_isinstance (pa_cons (pv 0) (pa_cons (pe_glob (v := .ref (He.ga K "NotLots")) rfl W.g_NotLots rfl) pa_nil))) (pa_cons (pe_callB (call_isV (ecB_ok hec) hp hz hf) rfl W.n_isinstance bt_isinstance (pa_cons (pv 0) (pa_cons (pe_glob (v := .ref (He.ga K "NothingToUndo")) rfl W.g_NothingToUndo rfl) pa_nil))) pa_nil))))))
  (pss_cons (setU (i := 1) sc__law_sort.nd (pe_op (addU (K := K)) (pv 1) (pe_lst (pa_cons (pe_callB (call_isV (ecB_ok hec) hp hz hf) rfl W.n_isinstance bt_isinstance (pa_cons (pv 0) (pa_cons (pe_glob (v := .ref (He.ga K "TooMany")) rfl W.g_TooMany rfl) pa_nil))) (pa_cons (pe_callB (call_isV (ecB_ok hec) hp hz hf) rfl W.n_isinstance bt_isinstance (pa_cons (pv 0) (pa_cons (pe_glob (v := .ref (He.ga K "TooFew")) rfl W.g_TooFew rfl) pa_nil))) (pa_cons (pe_callB (call_isV (ecB_ok hec) hp hz hf) rfl W.n_isinstance bt_isinstance (pa_cons (pv 0) (pa_cons (pe_glob (v := .ref (He.ga K "Broken")) rfl W.g_Broken rfl) pa_nil))) pa_nil))))))
  (pss_cons (setU (i := 2) sc__law_sort.nd (pe_lst (pa_cons (pe_callB (call_isV (ecB_ok hec) hp hz hf) rfl W.n_isinstance bt_isinstance (pa_cons (pv 0) (pa_cons (pe_glob (v := .ref (He.ga K "InvalidText")) rfl W.g_InvalidText rfl) pa_nil))) (pa_cons (pe_callB (call_isV (ecB_ok hec) hp hz hf) rfl W.n_isinstance bt_isinstance (pa_cons (pv 0) (pa_cons (pe_glob (v := .ref (He.ga K "InvalidFamily")) rfl W.g_InvalidFamily rfl) pa_nil))) (pa_cons (pe_callB (call_isV (ecB_ok hec) hp hz hf) rfl W.n_isinstance bt_isinstance (pa_cons (pv 0) (pa_cons (pe_glob (v := .ref (He.ga K "InvalidTwins")) rfl W.g_InvalidTwins rfl) pa_nil))) pa_nil)))))
  (pss_cons (setU (i := 2) sc__law_sort.nd (pe_op (addU (K := K)) (pv 2) (pe_lst (pa_cons (pe_callB (call_isV (ecB_ok hec) hp hz hf) rfl W.n_isinstance bt_isinstance (pa_cons (pv 0) (pa_cons (pe_glob (v := .ref (He.ga K "InvalidBalance")) rfl W.g_InvalidBalance rfl) pa_nil))) (pa_cons (pe_callB (call_isV (ecB_ok hec) hp hz hf) rfl W.n_isinstance bt_isinstance (pa_cons (pv 0) (pa_cons (pe_glob (v := .ref (He.ga K "InvalidThings")) rfl W.g_InvalidThings rfl) pa_nil))) (pa_cons (pe_callB (call_isV (ecB_ok hec) hp hz hf) rfl W.n_isinstance bt_isinstance (pa_cons (pv 0) (pa_cons (pe_glob (v := .ref (He.ga K "InvalidLots")) rfl W.g_InvalidLots rfl) pa_nil))) pa_nil))))))
  (pss_cons (setU (i := 2) sc__law_sort.nd (pe_op (addU (K := K)) (pv 2) (pe_lst (pa_cons (pe_callB (call_isV (ecB_ok hec) hp hz hf) rfl W.n_isinstance bt_isinstance (pa_cons (pv 0) (pa_cons (pe_glob (v := .ref (He.ga K "InvalidIndexes")) rfl W.g_InvalidIndexes rfl) pa_nil))) (pa_cons (pe_callB (call_isV (ecB_ok hec) hp hz hf) rfl W.n_isinstance bt_isinstance (pa_cons (pv 0) (pa_cons (pe_glob (v := .ref (He.ga K "UnknownThing")) rfl W.g_UnknownThing rfl) pa_nil))) (pa_cons (pe_callB (call_isV (ecB_ok hec) hp hz hf) rfl W.n_isinstance bt_isinstance (pa_cons (pv 0) (pa_cons (pe_glob (v := .ref (He.ga K "TooWide")) rfl W.g_TooWide rfl) pa_nil))) pa_nil))))))
  (pss_cons (setU (i := 3) sc__law_sort.nd (pe_lst (pa_cons (pe_callB (call_isV (ecB_ok hec) hp hz hf) rfl W.n_isinstance bt_isinstance (pa_cons (pv 0) (pa_cons (pe_glob (v := .ref (He.ga K "WrongValue")) rfl W.g_WrongValue rfl) pa_nil))) (pa_cons (pe_callB (call_isV (ecB_ok hec) hp hz hf) rfl W.n_isinstance bt_isinstance (pa_cons (pv 0) (pa_cons (pe_glob (v := .ref (He.ga K "WrongName")) rfl W.g_WrongName rfl) pa_nil))) (pa_cons (pe_callB (call_isV (ecB_ok hec) hp hz hf) rfl W.n_isinstance bt_isinstance (pa_cons (pv 0) (pa_cons (pe_glob (v := .ref (He.ga K "NotPossible")) rfl W.g_NotPossible rfl) pa_nil))) pa_nil)))))
  (pss_cons (setU (i := 4) sc__law_sort.nd (pe_lst (pa_cons (pe_callB (call_isV (ecB_ok hec) hp hz hf) rfl W.n_isinstance bt_isinstance (pa_cons (pv 0) (pa_cons (pe_bltn (v := .ty "ValueError") rfl W.n_ValueError bt_ValueError rfl) pa_nil))) (pa_cons (pe_callB (call_isV (ecB_ok hec) hp hz hf) rfl W.n_isinstance bt_isinstance (pa_cons (pv 0) (pa_cons (pe_bltn (v := .ty "LookupError") rfl W.n_LookupError bt_LookupError rfl) pa_nil))) (pa_cons (pe_callB (call_isV (ecB_ok hec) hp hz hf) rfl W.n_isinstance bt_isinstance (pa_cons (pv 0) (pa_cons (pe_bltn (v := .ty "ArithmeticError") rfl W.n_ArithmeticError bt_ArithmeticError rfl) pa_nil))) pa_nil)))))
  (pss_cons (setU (i := 5) sc__law_sort.nd (pe_ifExp (PW.pt (pw_and (pt_cmpR (eqU (K := K) hr.units) (cntU (K := K) (pv 1) pe_bl) pe_int (nomark _)) (pw_and1 (pt_cmpR (niU (K := K)) pe_bl (pv 2) (by rfl))))) (lixU (K := K) (pv 1) pe_bl) pe_int))
  (pss_cons (ps_if (PW.pt (pw_or (pt_cmpR (neU (K := K) hr.units) (pv 3) (pv 4) (nomark _)) (pw_or1 (pt_cmpR (neU (K := K) hr.units) (pv 3) (pe_lst (pa_cons (pe_cmpR op_ltU (pv 5) pe_int (nomark _)) (pa_cons pe_bl (pa_cons (pe_chain op_ltU op_ltU pe_int (pv 5) pe_int) pa_nil)))) (nomark _))))) (pss_one ps_never) pss_nil)
  (pss_cons (ps_if (pt_cmpR (inU (K := K)) (pv 5) (pe_lst (pa_cons pe_int (pa_cons pe_int pa_nil))) (by rfl)) (pss_one ps_never) pss_nil)
  (pss_cons (ps_if (pt_cmpR (eqU (K := K) hr.units) (pv 5) pe_int (nomark _)) (pss_one ps_never) pss_nil)
  (pss_one (ps_ret (pe_tup (pa_cons (pe_ix (ixU (K := K)) (pe_lst (pa_cons pe_str (pa_cons pe_str (pa_cons pe_str (pa_cons pe_str (pa_cons pe_str (pa_cons pe_str (pa_cons pe_str pa_nil)))))))) (pv 5) (fun _ _ => rfl)) (pa_cons (pe_xv (ecB_xf hec) (xt_InvalidNumber W).nof hp hz hf (pv 0)) pa_nil))))))))))))))))), ?_⟩
    refine tr_run (R := fun u H' => ∃ t, u = .ref t ∧ Same H H' ∧ H' t = some (.tup [.str "number", v])) ?_ fun u H' ⟨t, e, h1, h2⟩ => e ▸ q t H' h1 h2
    · skip
      have E : Same H H := Same.refl H
      refine tr_seq (tr_set (K := K) (d := .list (([false, true, false] : List Bool).map .bool)) (Same.refl _) (ev_lst s3 (ea_cons (ev_isV rfl ((hkit.own "InvalidLot" (by decide)).trans (by decide)) (hda.mono E)) (ea_cons (ev_isV rfl ((hkit.own "InvalidNumber" (by decide)).trans (by decide)) (hda.mono E)) (ea_cons (ev_isV rfl ((hkit.own "InvalidWish" (by decide)).trans (by decide)) (hda.mono E)) ea_nil))))) fun σ1 H1 ⟨e1, l1, h1, s_1⟩ => ?_
      subst s_1
      replace E := E.trans e1
      refine tr_seq (tr_set (K := K) (d := .list (([false, true, false, false, false, false] : List Bool).map .bool)) (Same.refl _) (ev_catL (ds := ([false, true, false] : List Bool).map .bool) (es := ([false, false, false] : List Bool).map .bool) (sz (by show 6 ≤ 100000; decide)) (ev_var rfl h1) (ev_lst s3 (ea_cons (ev_isV rfl ((hkit.own "InvalidCommand" (by decide)).trans (by decide)) (hda.mono E)) (ea_cons (ev_isV rfl ((hkit.own "NotLots" (by decide)).trans (by decide)) (hda.mono E)) (ea_cons (ev_isV rfl ((hkit.own "NothingToUndo" (by decide)).trans (by decide)) (hda.mono E)) ea_nil)))))) fun σ2 H2 ⟨e2, l2, h2, s_2⟩ => ?_
      subst s_2
      replace E := E.trans e2
      refine tr_seq (tr_set (K := K) (d := .list (([false, true, false, false, false, false, false, false, false] : List Bool).map .bool)) (Same.refl _) (ev_catL (ds := ([false, true, false, false, false, false] : List Bool).map .bool) (es := ([false, false, false] : List Bool).map .bool) (sz (by show 9 ≤ 100000; decide)) (ev_var rfl h2) (ev_lst s3 (ea_cons (ev_isV rfl ((hkit.own "TooMany" (by decide)).trans (by decide)) (hda.mono E)) (ea_cons (ev_isV rfl ((hkit.own "TooFew" (by decide)).trans (by decide)) (hda.mono E)) (ea_cons (ev_isV rfl ((hkit.own "Broken" (by decide)).trans (by decide)) (hda.mono E)) ea_nil)))))) fun σ3 H3 ⟨e3, l3, h3, s_3⟩ => ?_
      subst s_3
      replace E := E.trans e3
      refine tr_seq (tr_set (K := K) (d := .list (([false, false, false] : List Bool).map .bool)) (Same.refl _) (ev_lst s3 (ea_cons (ev_isV rfl ((hkit.own "InvalidText" (by decide)).trans (by decide)) (hda.mono E)) (ea_cons (ev_isV rfl ((hkit.own "InvalidFamily" (by decide)).trans (by decide)) (hda.mono E)) (ea_cons (ev_isV rfl ((hkit.own "InvalidTwins" (by decide)).trans (by decide)) (hda.mono E)) ea_nil))))) fun σ4 H4 ⟨e4, l4, h4, s_4⟩ => ?_
      subst s_4
      replace E := E.trans e4
      refine tr_seq (tr_set (K := K) (d := .list (([false, false, false, false, false, false] : List Bool).map .bool)) (Same.refl _) (ev_catL (ds := ([false, false, false] : List Bool).map .bool) (es := ([false, false, false] : List Bool).map .bool) (sz (by show 6 ≤ 100000; decide)) (ev_var rfl h4) (ev_lst s3 (ea_cons (ev_isV rfl ((hkit.own "InvalidBalance" (by decide)).trans (by decide)) (hda.mono E)) (ea_cons (ev_isV rfl ((hkit.own "InvalidThings" (by decide)).trans (by decide)) (hda.mono E)) (ea_cons (ev_isV rfl ((hkit.own "InvalidLots" (by decide)).trans (by decide)) (hda.mono E)) ea_nil)))))) fun σ5 H5 ⟨e5, l5, h5, s_5⟩ => ?_
      subst s_5
      replace E := E.trans e5
      refine tr_seq (tr_set (K := K) (d := .list (([false, false, false, false, false, false, false, false, false] : List Bool).map .bool)) (Same.refl _) (ev_catL (ds := ([false, false, false, false, false, false] : List Bool).map .bool) (es := ([false, false, false] : List Bool).map .bool) (sz (by show 9 ≤ 100000; decide)) (ev_var rfl h5) (ev_lst s3 (ea_cons (ev_isV rfl ((hkit.own "InvalidIndexes" (by decide)).trans (by decide)) (hda.mono E)) (ea_cons (ev_isV rfl ((hkit.own "UnknownThing" (by decide)).trans (by decide)) (hda.mono E)) (ea_cons (ev_isV rfl ((hkit.own "TooWide" (by decide)).trans (by decide)) (hda.mono E)) ea_nil)))))) fun σ6 H6 ⟨e6, l6, h6, s_6⟩ => ?_
      subst s_6
      replace E := E.trans e6
      refine tr_seq (tr_set (K := K) (d := .list (([true, false, false] : List Bool).map .bool)) (Same.refl _) (ev_lst s3 (ea_cons (ev_isV rfl ((hkit.own "WrongValue" (by decide)).trans (by decide)) (hda.mono E)) (ea_cons (ev_isV rfl ((hkit.own "WrongName" (by decide)).trans (by decide)) (hda.mono E)) (ea_cons (ev_isV rfl ((hkit.own "NotPossible" (by decide)).trans (by decide)) (hda.mono E)) ea_nil))))) fun σ7 H7 ⟨e7, l7, h7, s_7⟩ => ?_
      subst s_7
      replace E := E.trans e7
      refine tr_seq (tr_set (K := K) (d := .list (([true, false, false] : List Bool).map .bool)) (Same.refl _) (ev_lst s3 (ea_cons (ev_isVT rfl (hkit.ve.trans (by decide)) (hda.mono E)) (ea_cons (ev_isVT rfl (hkit.le.trans (by decide)) (hda.mono E)) (ea_cons (ev_isVT rfl (hkit.ae.trans (by decide)) (hda.mono E)) ea_nil))))) fun σ8 H8 ⟨e8, l8, h8, s_8⟩ => ?_
      subst s_8
      replace E := E.trans e8
      refine tr_seq (tr_set (K := K) (d := .int ((1 : Nat) : Int)) (Same.refl _) (ev_if (b := true) (et_and (b := true) (c := true) ((et_test (ev_eqI (ev_cntB (b := true) (bs := [false, true, false, false, false, false, false, false, false]) (ev_var rfl (((((h3.mono e4).mono e5).mono e6).mono e7).mono e8)) ev_bl) (ev_int (i := 1)))).as (by decide)) fun _ => (et_test (ev_niLB (x := true) (ws := [false, false, false, false, false, false, false, false, false]) ev_bl (ev_var rfl ((h6.mono e7).mono e8)))).as (by decide)) (fun _ => ev_lixB (b := true) (bs := [false, true, false, false, false, false, false, false, false]) (j := 1) rfl (by decide) (ev_var rfl (((((h3.mono e4).mono e5).mono e6).mono e7).mono e8)) ev_bl) fun z => by cases z)) fun σ9 H9 ⟨e9, l9, h9, s_9⟩ => ?_
      subst s_9
      replace E := E.trans e9
      cases h9
      refine tr_ifS (b := false) (Same.refl _) (et_or (b := false) (c := false) (et_test (ev_neSame (by decide +kernel) (ev_var (d := .list (([true, false, false] : List Bool).map .bool)) rfl ((h7.mono e8).mono e9)) (ev_var (d := .list (([true, false, false] : List Bool).map .bool)) rfl (h8.mono e9)))) fun _ => et_test (ev_neSame (by decide +kernel) (ev_var (d := .list (([true, false, false] : List Bool).map .bool)) rfl ((h7.mono e8).mono e9)) (ev_lst (ds := ([true, false, false] : List Bool).map .bool) s3 (ea_cons ((ev_ltI (ev_var (d := .int ((1 : Nat) : Int)) rfl (.int _)) (ev_int (i := 5))).as (e := .bool true) (congrArg PyData.bool (by decide))) (ea_cons ev_bl (ea_cons ((ev_chainL (ev_int (i := 4)) (ev_var (d := .int ((1 : Nat) : Int)) rfl (.int _)) (ev_int (i := 9))).as (e := .bool false) (congrArg PyData.bool (by decide))) ea_nil)))))) (fun z => by cases z) fun _ H10 e10 => tr_nextS ?_
      replace E := E.trans e10
      refine tr_ifS (b := false) (Same.refl _) ((et_test (ev_inLI (x := 1) (ws := [5, 7]) (ev_var (d := .int ((1 : Nat) : Int)) rfl (.int _)) (ev_lst s2 (ea_cons ev_int (ea_cons ev_int ea_nil))))).as (by decide)) (fun z => by cases z) fun _ H11 e11 => tr_nextS ?_
      refine tr_ifS (b := false) (Same.refl _) ((et_test (ev_eqI (ev_var (d := .int ((1 : Nat) : Int)) rfl (.int _)) (ev_int (i := 8)))).as (by decide)) ?_ ?_
      · exact fun z => by cases z
      · exact fun _ H12 e12 => tr_nextS (tr_retX (x := "number") (ev_ixL (i := 1) (d := .str "number") rfl (ev_lst (ds := [.str "lot", .str "number", .str "wish", .str "command", .str "lots", .str "", .str "many"]) (sz (by show 7 ≤ 100000; decide)) (ea_cons ev_str (ea_cons ev_str (ea_cons ev_str (ea_cons ev_str (ea_cons ev_str (ea_cons ev_str (ea_cons ev_str ea_nil)))))))) (ev_var (d := .int ((1 : Nat) : Int)) rfl (.int _))) (Same.refl _) rfl (((E.trans e11).trans e12) _ _ hdd) fun t H13 e13 ht => ⟨t, rfl, ((E.trans e11).trans e12).trans e13, ht⟩)
  · obtain ⟨hec, hkit⟩ := W6 (x := "Broken") W (by decide)
    have hda : DictAt H (some dd) := .inr ⟨dd, _, rfl, hdd⟩
    refine ⟨_, (pss_cons (setU (i := 1) sc__law_sort.nd (pe_lst (pa_cons (pe_callB (call_isV (ecB_ok hec) hp hz hf) rfl W.n_isinstance bt_isinstance (pa_cons (pv 0) (pa_cons (pe_glob (v := .ref (He.ga K "InvalidLot")) rfl W.g_InvalidLot rfl) pa_nil))) (pa_cons (pe_callB (call_isV (ecB_ok hec) hp hz hf) rfl W.n_isinstance bt_isinstance (pa_cons (pv 0) (pa_cons (pe_glob (v := .ref (He.ga K "InvalidNumber")) rfl W.g_InvalidNumber rfl) pa_nil))) (pa_cons (pe_callB (call_isV (ecB_ok hec) hp hz hf) rfl W.n_isinstance bt_isinstance (pa_cons (pv 0) (pa_cons (pe_glob (v := .ref (He.ga K "InvalidWish")) rfl W.g_InvalidWish rfl) pa_nil))) pa_nil)))))
  (pss_cons (setU (i := 1) sc__law_sort.nd (pe_op (addU (K := K)) (pv 1) (pe_lst (pa_cons (pe_callB (call_isV (ecB_ok hec) hp hz hf) rfl W.n_isinstance bt_isinstance (pa_cons (pv 0) (pa_cons (pe_glob (v := .ref (He.ga K "InvalidCommand")) rfl W.g_InvalidCommand rfl) pa_nil))) (pa_cons (pe_callB (call_isV (ecB_ok hec) hp hz hf) rfl W.n_isinstance bt_isinstance (pa_cons (pv 0) (pa_cons (pe_glob (v := .ref (He.ga K "NotLots")) rfl W.g_NotLots rfl) pa_nil))) (pa_cons (pe_callB (call_isV (ecB_ok hec) hp hz hf) rfl W.n_isinstance bt_isinstance (pa_cons (pv 0) (pa_cons (pe_glob (v := .ref (He.ga K "NothingToUndo")) rfl W.g_NothingToUndo rfl) pa_nil))) pa_nil))))))
  (pss_cons (setU (i := 1) sc__law_sort.nd (pe_op (addU (K := K)) (pv 1) (pe_lst (pa_cons (pe_callB (call_isV (ecB_ok hec) hp hz hf) rfl W.n_isinstance bt_isinstance (pa_cons (pv 0) (pa_cons (pe_glob (v := .ref (He.ga K "TooMany")) rfl W.g_TooMany rfl) pa_nil))) (pa_cons (pe_callB (call_isV (ecB_ok hec) hp hz hf) rfl W.n_isinstance bt_isinstance (pa_cons (pv 0) (pa_cons (pe_glob (v := .ref (He.ga K "TooFew")) rfl W.g_TooFew rfl) pa_nil))) (pa_cons (pe_callB (call_isV (ecB_ok hec) hp hz hf) rfl W.n_isinstance bt_isinstance (pa_cons (pv 0) (pa_cons (pe_glob (v := .ref (He.ga K "Broken")) rfl W.g_Broken rfl) pa_nil))) pa_nil))))))
  (pss_cons (setU (i := 2) sc__law_sort.nd (pe_lst (pa_cons (pe_callB (call_isV (ecB_ok hec) hp hz hf) rfl W.n_isinstance bt_isinstance (pa_cons (pv 0) (pa_cons (pe_glob (v := .ref (He.ga K "InvalidText")) rfl W.g_InvalidText rfl) pa_nil))) (pa_cons (pe_callB (call_isV (ecB_ok hec) hp hz hf) rfl W.n_isinstance bt_isinstance (pa_cons (pv 0) (pa_cons (pe_glob (v := .ref (He.ga K "InvalidFamily")) rfl W.g_InvalidFamily rfl) pa_nil))) (pa_cons (pe_callB (call_isV (ecB_ok hec) hp hz hf) rfl W.n_isinstance bt_isinstance (pa_cons (pv 0) (pa_cons (pe_glob (v := .ref (He.ga K "InvalidTwins")) rfl W.g_InvalidTwins rfl) pa_nil))) pa_nil)))))
  (pss_cons (setU (i := 2) sc__law_sort.nd (pe_op (addU (K := K)) (pv 2) (pe_lst (pa_cons (pe_callB (call_isV (ecB_ok hec) hp hz hf) rfl W.n_isinstance bt_isinstance (pa_cons (pv 0) (pa_cons (pe_glob (v := .ref (He.ga K "InvalidBalance")) rfl W.g_InvalidBalance rfl) pa_nil))) (pa_cons (pe_callB (call_isV (ecB_ok hec) hp hz hf) rfl W.n_isinstance bt_isinstance (pa_cons (pv 0) (pa_cons (pe_glob (v := .ref (He.ga K "InvalidThings")) rfl W.g_InvalidThings rfl) pa_nil))) (pa_cons (pe_callB (call_isV (ecB_ok hec) hp hz hf) rfl W.n_isinstance bt_isinstance (pa_cons (pv 0) (pa_cons (pe_glob (v := .ref (He.ga K "InvalidLots")) rfl W.g_InvalidLots rfl) pa_nil))) pa_nil))))))
  (pss_cons (setU (i := 2) sc__law_sort.nd (pe_op (addU (K := K)) (pv 2) (pe_lst (pa_cons (pe_callB (call_isV (ecB_ok hec) hp hz hf) rfl W.n_isinstance bt_isinstance (pa_cons (pv 0) (pa_cons (pe_glob (v := .ref (He.ga K "InvalidIndexes")) rfl W.g_InvalidIndexes rfl) pa_nil))) (pa_cons (pe_callB (call_isV (ecB_ok hec) hp hz hf) rfl W.n_isinstance bt_isinstance (pa_cons (pv 0) (pa_cons (pe_glob (v := .ref (He.ga K "UnknownThing")) rfl W.g_UnknownThing rfl) pa_nil))) (pa_cons (pe_callB (call_isV (ecB_ok hec) hp hz hf) rfl W.n_isinstance bt_isinstance (pa_cons (pv 0) (pa_cons (pe_glob (v := .ref (He.ga K "TooWide")) rfl W.g_TooWide rfl) pa_nil))) pa_nil))))))
  (pss_cons (setU (i := 3) sc__law_sort.nd (pe_lst (pa_cons (pe_callB (call_isV (ecB_ok hec) hp hz hf) rfl W.n_isinstance bt_isinstance (pa_cons (pv 0) (pa_cons (pe_glob (v := .ref (He.ga K "WrongValue")) rfl W.g_WrongValue rfl) pa_nil))) (pa_cons (pe_callB (call_isV (ecB_ok hec) hp hz hf) rfl W.n_isinstance bt_isinstance (pa_cons (pv 0) (pa_cons (pe_glob (v := .ref (He.ga K "WrongName")) rfl W.g_WrongName rfl) pa_nil))) (pa_cons (pe_callB (call_isV (ecB_ok hec) hp hz hf) rfl W.n_isinstance bt_isinstance (pa_cons (pv 0) (pa_cons (pe_glob (v := .ref (He.ga K "NotPossible")) rfl W.g_NotPossible rfl) pa_nil))) pa_nil)))))
  (pss_cons (setU (i := 4) sc__law_sort.nd (pe_lst (pa_cons (pe_callB (call_isV (ecB_ok hec) hp hz hf) rfl W.n_isinstance bt_isinstance (pa_cons (pv 0) (pa_cons (pe_bltn (v := .ty "ValueError") rfl W.n_ValueError bt_ValueError rfl) pa_nil))) (pa_cons (pe_callB (call_isV (ecB_ok hec) hp hz hf) rfl W.n_isinstance bt_isinstance (pa_cons (pv 0) (pa_cons (pe_bltn (v := .ty "LookupError") rfl W.n_LookupError bt_LookupError rfl) pa_nil))) (pa_cons (pe_callB (call_isV (ecB_ok hec) hp hz hf) rfl W.n_isinstance bt_isinstance (pa_cons (pv 0) (pa_cons (pe_bltn (v := .ty "ArithmeticError") rfl W.n_ArithmeticError bt_ArithmeticError rfl) pa_nil))) pa_nil)))))
  (pss_cons (setU (i := 5) sc__law_sort.nd (pe_ifExp (PW.pt (pw_and (pt_cmpR (eqU (K := K) hr.units) (cntU (K := K) (pv 1) pe_bl) pe_int (nomark _)) (pw_and1 (pt_cmpR (niU (K := K)) pe_bl (pv 2) (by rfl))))) (lixU (K := K) (pv 1) pe_bl) pe_int))
  (pss_cons (ps_if (PW.pt (pw_or (pt_cmpR (neU (K := K) hr.units) (pv 3) (pv 4) (nomark _)) (pw_or1 (pt_cmpR (neU (K := K) hr.units) (pv 3) (pe_lst (pa_cons (pe_cmpR op_ltU (pv 5) pe_int (nomark _)) (pa_cons pe_bl (pa_cons (pe_chain op_ltU op_ltU pe_int (pv 5) pe_int) pa_nil)))) (nomark _))))) (pss_one ps_never) pss_nil)
  (pss_cons (ps_if (pt_cmpR (inU (K := K)) (pv 5) (pe_lst (pa_cons pe_int (pa_cons pe_int pa_nil))) (by rfl)) (pss_one ps_never) pss_nil)
  (pss_cons (ps_if (pt_cmpR (eqU (K := K) hr.units) (pv 5) pe_int (nomark _)) (pss_one (ps_ret (pe_tup (pa_cons pe_str (pa_cons (pe_xv (ecB_xf hec) (xt_Broken W).nof hp hz hf (pv 0)) pa_nil))))) pss_nil)
  (pss_one ps_never))))))))))))), ?_⟩
    refine tr_run (R := fun u H' => ∃ t, u = .ref t ∧ Same H H' ∧ H' t = some (.tup [.str "broken", v])) ?_ fun u H' ⟨t, e, h1, h2⟩ => e ▸ q t H' h1 h2
    · skip
      have E : Same H H := Same.refl H
      refine tr_seq (tr_set (K := K) (d := .list (([false, false, false] : List Bool).map .bool)) (Same.refl _) (ev_lst s3 (ea_cons (ev_isV rfl ((hkit.own "InvalidLot" (by decide)).trans (by decide)) (hda.mono E)) (ea_cons (ev_isV rfl ((hkit.own "InvalidNumber" (by decide)).trans (by decide)) (hda.mono E)) (ea_cons (ev_isV rfl ((hkit.own "InvalidWish" (by decide)).trans (by decide)) (hda.mono E)) ea_nil))))) fun σ1 H1 ⟨e1, l1, h1, s_1⟩ => ?_
      subst s_1
      replace E := E.trans e1
      refine tr_seq (tr_set (K := K) (d := .list (([false, false, false, false, false, false] : List Bool).map .bool)) (Same.refl _) (ev_catL (ds := ([false, false, false] : List Bool).map .bool) (es := ([false, false, false] : List Bool).map .bool) (sz (by show 6 ≤ 100000; decide)) (ev_var rfl h1) (ev_lst s3 (ea_cons (ev_isV rfl ((hkit.own "InvalidCommand" (by decide)).trans (by decide)) (hda.mono E)) (ea_cons (ev_isV rfl ((hkit.own "NotLots" (by decide)).trans (by decide)) (hda.mono E)) (ea_cons (ev_isV rfl ((hkit.own "NothingToUndo" (by decide)).trans (by decide)) (hda.mono E)) ea_nil)))))) fun σ2 H2 ⟨e2, l2, h2, s_2⟩ => ?_
      subst s_2
      replace E := E.trans e2
      refine tr_seq (tr_set (K := K) (d := .list (([false, false, false, false, false, false, false, false, true] : List Bool).map .bool)) (Same.refl _) (ev_catL (ds := ([false, false, false, false, false, false] : List Bool).map .bool) (es := ([false, false, true] : List Bool).map .bool) (sz (by show 9 ≤ 100000; decide)) (ev_var rfl h2) (ev_lst s3 (ea_cons (ev_isV rfl ((hkit.own "TooMany" (by decide)).trans (by decide)) (hda.mono E)) (ea_cons (ev_isV rfl ((hkit.own "TooFew" (by decide)).trans (by decide)) (hda.mono E)) (ea_cons (ev_isV rfl ((hkit.own "Broken" (by decide)).trans (by decide)) (hda.mono E)) ea_nil)))))) fun σ3 H3 ⟨e3, l3, h3, s_3⟩ => ?_
      subst s_3
      replace E := E.trans e3
      refine tr_seq (tr_set (K := K) (d := .list (([false, false, false] : List Bool).map .bool)) (Same.refl _) (ev_lst s3 (ea_cons (ev_isV rfl ((hkit.own "InvalidText" (by decide)).trans (by decide)) (hda.mono E)) (ea_cons (ev_isV rfl ((hkit.own "InvalidFamily" (by decide)).trans (by decide)) (hda.mono E)) (ea_cons (ev_isV rfl ((hkit.own "InvalidTwins" (by decide)).trans (by decide)) (hda.mono E)) ea_nil))))) fun σ4 H4 ⟨e4, l4, h4, s_4⟩ => ?_
      subst s_4
      replace E := E.trans e4
      refine tr_seq (tr_set (K := K) (d := .list (([false, false, false, false, false, false] : List Bool).map .bool)) (Same.refl _) (ev_catL (ds := ([false, false, false] : List Bool).map .bool) (es := ([false, false, false] : List Bool).map .bool) (sz (by show 6 ≤ 100000; decide)) (ev_var rfl h4) (ev_lst s3 (ea_cons (ev_isV rfl ((hkit.own "InvalidBalance" (by decide)).trans (by decide)) (hda.mono E)) (ea_cons (ev_isV rfl ((hkit.own "InvalidThings" (by decide)).trans (by decide)) (hda.mono E)) (ea_cons (ev_isV rfl ((hkit.own "InvalidLots" (by decide)).trans (by decide)) (hda.mono E)) ea_nil)))))) fun σ5 H5 ⟨e5, l5, h5, s_5⟩ => ?_
      subst s_5
      replace E := E.trans e5
      refine tr_seq (tr_set (K := K) (d := .list (([false, false, false, false, false, false, false, false, false] : List Bool).map .bool)) (Same.refl _) (ev_catL (ds := ([false, false, false, false, false, false] : List Bool).map .bool) (es := ([false, false, false] : List Bool).map .bool) (sz (by show 9 ≤ 100000; decide)) (ev_var rfl h5) (ev_lst s3 (ea_cons (ev_isV rfl ((hkit.own "InvalidIndexes" (by decide)).trans (by decide)) (hda.mono E)) (ea_cons (ev_isV rfl ((hkit.own "UnknownThing" (by decide)).trans (by decide)) (hda.mono E)) (ea_cons (ev_isV rfl ((hkit.own "TooWide" (by decide)).trans (by decide)) (hda.mono E)) ea_nil)))))) fun σ6 H6 ⟨e6, l6, h6, s_6⟩ => ?_
      subst s_6
      replace E := E.trans e6
      refine tr_seq (tr_set (K := K) (d := .list (([false, false, true] : List Bool).map .bool)) (Same.refl _) (ev_lst s3 (ea_cons (ev_isV rfl ((hkit.own "WrongValue" (by decide)).trans (by decide)) (hda.mono E)) (ea_cons (ev_isV rfl ((hkit.own "WrongName" (by decide)).trans (by decide)) (hda.mono E)) (ea_cons (ev_isV rfl ((hkit.own "NotPossible" (by decide)).trans (by decide)) (hda.mono E)) ea_nil))))) fun σ7 H7 ⟨e7, l7, h7, s_7⟩ => ?_
      subst s_7
      replace E := E.trans e7
      refine tr_seq (tr_set (K := K) (d := .list (([false, false, true] : List Bool).map .bool)) (Same.refl _) (ev_lst s3 (ea_cons (ev_isVT rfl (hkit.ve.trans (by decide)) (hda.mono E)) (ea_cons (ev_isVT rfl (hkit.le.trans (by decide)) (hda.mono E)) (ea_cons (ev_isVT rfl (hkit.ae.trans (by decide)) (hda.mono E)) ea_nil))))) fun σ8 H8 ⟨e8, l8, h8, s_8⟩ => ?_
      subst s_8
      replace E := E.trans e8
      refine tr_seq (tr_set (K := K) (d := .int ((8 : Nat) : Int)) (Same.refl _) (ev_if (b := true) (et_and (b := true) (c := true) ((et_test (ev_eqI (ev_cntB (b := true) (bs := [false, false, false, false, false, false, false, false, true]) (ev_var rfl (((((h3.mono e4).mono e5).mono e6).mono e7).mono e8)) ev_bl) (ev_int (i := 1)))).as (by decide)) fun _ => (et_test (ev_niLB (x := true) (ws := [false, false, false, false, false, false, false, false, false]) ev_bl (ev_var rfl ((h6.mono e7).mono e8)))).as (by decide)) (fun _ => ev_lixB (b := true) (bs := [false, false, false, false, false, false, false, false, true]) (j := 8) rfl (by decide) (ev_var rfl (((((h3.mono e4).mono e5).mono e6).mono e7).mono e8)) ev_bl) fun z => by cases z)) fun σ9 H9 ⟨e9, l9, h9, s_9⟩ => ?_
      subst s_9
      replace E := E.trans e9
      cases h9
      refine tr_ifS (b := false) (Same.refl _) (et_or (b := false) (c := false) (et_test (ev_neSame (by decide +kernel) (ev_var (d := .list (([false, false, true] : List Bool).map .bool)) rfl ((h7.mono e8).mono e9)) (ev_var (d := .list (([false, false, true] : List Bool).map .bool)) rfl (h8.mono e9)))) fun _ => et_test (ev_neSame (by decide +kernel) (ev_var (d := .list (([false, false, true] : List Bool).map .bool)) rfl ((h7.mono e8).mono e9)) (ev_lst (ds := ([false, false, true] : List Bool).map .bool) s3 (ea_cons ((ev_ltI (ev_var (d := .int ((8 : Nat) : Int)) rfl (.int _)) (ev_int (i := 5))).as (e := .bool false) (congrArg PyData.bool (by decide))) (ea_cons ev_bl (ea_cons ((ev_chainL (ev_int (i := 4)) (ev_var (d := .int ((8 : Nat) : Int)) rfl (.int _)) (ev_int (i := 9))).as (e := .bool true) (congrArg PyData.bool (by decide))) ea_nil)))))) (fun z => by cases z) fun _ H10 e10 => tr_nextS ?_
      replace E := E.trans e10
      refine tr_ifS (b := false) (Same.refl _) ((et_test (ev_inLI (x := 8) (ws := [5, 7]) (ev_var (d := .int ((8 : Nat) : Int)) rfl (.int _)) (ev_lst s2 (ea_cons ev_int (ea_cons ev_int ea_nil))))).as (by decide)) (fun z => by cases z) fun _ H11 e11 => tr_nextS ?_
      refine tr_ifS (b := true) (Same.refl _) ((et_test (ev_eqI (ev_var (d := .int ((8 : Nat) : Int)) rfl (.int _)) (ev_int (i := 8)))).as (by decide)) ?_ ?_
      · exact fun _ H12 e12 => tr_retS (tr_retX (K := K) (x := "broken") ev_str (Same.refl _) rfl (((E.trans e11).trans e12) _ _ hdd) fun t H13 e13 ht => ⟨t, rfl, ((E.trans e11).trans e12).trans e13, ht⟩)
      · exact fun z => by cases z
  · obtain ⟨hec, hkit⟩ := W6 (x := "TooFew") W (by decide)
    have hda : DictAt H none := .inl rfl
    refine ⟨_, (pss_cons (setU (i := 1) sc__law_sort.nd (pe_lst (pa_cons (pe_callB (call_isV (ecB_ok hec) hp hz hf) rfl W.n_isinstance bt_isinstance (pa_cons (pv 0) (pa_cons (pe_glob (v := .ref (He.ga K "InvalidLot")) rfl W.g_InvalidLot rfl) pa_nil))) (pa_cons (pe_callB (call_isV (ecB_ok hec) hp hz hf) rfl W.n_isinstance bt_isinstance (pa_cons (pv 0) (pa_cons (pe_glob (v := .ref (He.ga K "InvalidNumber")) rfl W.g_InvalidNumber rfl) pa_nil))) (pa_cons (pe_callB (call_isV (ecB_ok hec) hp hz hf) rfl W.n_isinstance bt_isinstance (pa_cons (pv 0) (pa_cons (pe_glob (v := .ref (He.ga K "InvalidWish")) rfl W.g_InvalidWish rfl) pa_nil))) pa_nil)))))
  (pss_cons (setU (i := 1) sc__law_sort.nd (pe_op (addU (K := K)) (pv 1) (pe_lst (pa_cons (pe_callB (call_isV (ecB_ok hec) hp hz hf) rfl W.n_isinstance bt_isinstance (pa_cons (pv 0) (pa_cons (pe_glob (v := .ref (He.ga K "InvalidCommand")) rfl W.g_InvalidCommand rfl) pa_nil))) (pa_cons (pe_callB (call_isV (ecB_ok hec) hp hz hf) rfl W.n_isinstance bt_isinstance (pa_cons (pv 0) (pa_cons (pe_glob (v := .ref (He.ga K "NotLots")) rfl W.g_NotLots rfl) pa_nil))) (pa_cons (pe_callB (call_isV (ecB_ok hec) hp hz hf) rfl W.n_isinstance bt_isinstance (pa_cons (pv 0) (pa_cons (pe_glob (v := .ref (He.ga K "NothingToUndo")) rfl W.g_NothingToUndo rfl) pa_nil))) pa_nil))))))
  (pss_cons (setU (i := 1) sc__law_sort.nd (pe_op (addU (K := K)) (pv 1) (pe_lst (pa_cons (pe_callB (call_isV (ecB_ok hec) hp hz hf) rfl W.n_isinstance bt_isinstance (pa_cons (pv 0) (pa_cons (pe_glob (v := .ref (He.ga K "TooMany")) rfl W.g_TooMany rfl) pa_nil))) (pa_cons (pe_callB (call_isV (ecB_ok hec) hp hz hf) rfl W.n_isinstance bt_isinstance (pa_cons (pv 0) (pa_cons (pe_glob (v := .ref (He.ga K "TooFew")) rfl W.g_TooFew rfl) pa_nil))) (pa_cons (pe_callB (call_isV (ecB_ok hec) hp hz hf) rfl W.n_isinstance bt_isinstance (pa_cons (pv 0) (pa_cons (pe_glob (v := .ref (He.ga K "Broken")) rfl W.g_Broken rfl) pa_nil))) pa_nil))))))
  (pss_cons (setU (i := 2) sc__law_sort.nd (pe_lst (pa_cons (pe_callB (call_isV (ecB_ok hec) hp hz hf) rfl W.n_isinstance bt_isinstance (pa_cons (pv 0) (pa_cons (pe_glob (v := .ref (He.ga K "InvalidText")) rfl W.g_InvalidText rfl) pa_nil))) (pa_cons (pe_callB (call_isV (ecB_ok hec) hp hz hf) rfl W.n_isinstance bt_isinstance (pa_cons (pv 0) (pa_cons (pe_glob (v := .ref (He.ga K "InvalidFamily")) rfl W.g_InvalidFamily rfl) pa_nil))) (pa_cons (pe_callB (call_isV (ecB_ok hec) hp hz hf) rfl W.n_isinstance bt_isinstance (pa_cons (pv 0) (pa_cons (pe_glob (v := .ref (He.ga K "InvalidTwins")) rfl W.g_InvalidTwins rfl) pa_nil))) pa_nil)))))
  (pss_cons (setU (i := 2) sc__law_sort.nd (pe_op (addU (K := K)) (pv 2) (pe_lst (pa_cons (pe_callB (call_isV (ecB_ok hec) hp hz hf) rfl W.n_isinstance bt_isinstance (pa_cons (pv 0) (pa_cons (pe_glob (v := .ref (He.ga K "InvalidBalance")) rfl W.g_InvalidBalance rfl) pa_nil))) (pa_cons (pe_callB (call_isV (ecB_ok hec) hp hz hf) rfl W.n_isinstance bt_isinstance (pa_cons (pv 0) (pa_cons (pe_glob (v := .ref (He.ga K "InvalidThings")) rfl W.g_InvalidThings rfl) pa_nil))) (pa_cons (pe_callB (call_isV (ecB_ok hec) hp hz hf) rfl W.n_isinstance bt_isinstance (pa_cons (pv 0) (pa_cons (pe_glob (v := .ref (He.ga K "InvalidLots")) rfl W.g_InvalidLots rfl) pa_nil))) pa_nil))))))
  (pss_cons (setU (i := 2) sc__law_sort.nd (pe_op (addU (K := K)) (pv 2) (pe_lst (pa_cons (pe_callB (call_isV (ecB_ok hec) hp hz hf) rfl W.n_isinstance bt_isinstance (pa_cons (pv 0) (pa_cons (pe_glob (v := .ref (He.ga K "InvalidIndexes")) rfl W.g_InvalidIndexes rfl) pa_nil))) (pa_cons (pe_callB (call_isV (ecB_ok hec) hp hz hf) rfl W.n_isinstance bt_isinstance (pa_cons (pv 0) (pa_cons (pe_glob (v := .ref (He.ga K "UnknownThing")) rfl W.g_UnknownThing rfl) pa_nil))) (pa_cons (pe_callB (call_isV (ecB_ok hec) hp hz hf) rfl W.n_isinstance bt_isinstance (pa_cons (pv 0) (pa_cons (pe_glob (v := .ref (He.ga K "TooWide")) rfl W.g_TooWide rfl) pa_nil))) pa_nil))))))
  (pss_cons (setU (i := 3) sc__law_sort.nd (pe_lst (pa_cons (pe_callB (call_isV (ecB_ok hec) hp hz hf) rfl W.n_isinstance bt_isinstance (pa_cons (pv 0) (pa_cons (pe_glob (v := .ref (He.ga K "WrongValue")) rfl W.g_WrongValue rfl) pa_nil))) (pa_cons (pe_callB (call_isV (ecB_ok hec) hp hz hf) rfl W.n_isinstance bt_isinstance (pa_cons (pv 0) (pa_cons (pe_glob (v := .ref (He.ga K "WrongName")) rfl W.g_WrongName rfl) pa_nil))) (pa_cons (pe_callB (call_isV (ecB_ok hec) hp hz hf) rfl W.n_isinstance bt_isinstance (pa_cons (pv 0) (pa_cons (pe_glob (v := .ref (He.ga K "NotPossible")) rfl W.g_NotPossible rfl) pa_nil))) pa_nil)))))
  (pss_cons (setU (i := 4) sc__law_sort.nd (pe_lst (pa_cons (pe_callB (call_isV (ecB_ok hec) hp hz hf) rfl W.n_isinstance bt_isinstance (pa_cons (pv 0) (pa_cons (pe_bltn (v := .ty "ValueError") rfl W.n_ValueError bt_ValueError rfl) pa_nil))) (pa_cons (pe_callB (call_isV (ecB_ok hec) hp hz hf) rfl W.n_isinstance bt_isinstance (pa_cons (pv 0) (pa_cons (pe_bltn (v := .ty "LookupError") rfl W.n_LookupError bt_LookupError rfl) pa_nil))) (pa_cons (pe_callB (call_isV (ecB_ok hec) hp hz hf) rfl W.n_isinstance bt_isinstance (pa_cons (pv 0) (pa_cons (pe_bltn (v := .ty "ArithmeticError") rfl W.n_ArithmeticError bt_ArithmeticError rfl) pa_nil))) pa_nil)))))
  (pss_cons (setU (i := 5) sc__law_sort.nd (pe_ifExp (PW.pt (pw_and (pt_cmpR (eqU (K := K) hr.units) (cntU (K := K) (pv 1) pe_bl) pe_int (nomark _)) (pw_and1 (pt_cmpR (niU (K := K)) pe_bl (pv 2) (by rfl))))) (lixU (K := K) (pv 1) pe_bl) pe_int))
  (pss_cons (ps_if (PW.pt (pw_or (pt_cmpR (neU (K := K) hr.units) (pv 3) (pv 4) (nomark _)) (pw_or1 (pt_cmpR (neU (K := K) hr.units) (pv 3) (pe_lst (pa_cons (pe_cmpR op_ltU (pv 5) pe_int (nomark _)) (pa_cons pe_bl (pa_cons (pe_chain op_ltU op_ltU pe_int (pv 5) pe_int) pa_nil)))) (nomark _))))) (pss_one ps_never) pss_nil)
  (pss_cons (ps_if (pt_cmpR (inU (K := K)) (pv 5) (pe_lst (pa_cons pe_int (pa_cons pe_int pa_nil))) (by rfl)) (pss_one (ps_ret (pe_tup (pa_cons (pe_ix (ixU (K := K)) (pe_lst (pa_cons pe_str (pa_cons pe_str pa_nil))) (pe_callTy call_int1 rfl W.n_int bt_int (pa_cons (pe_cmpR (eqU (K := K) hr.units) (pv 5) pe_int (nomark _)) pa_nil)) (fun _ _ => rfl)) (pa_cons pe_non pa_nil))))) pss_nil)
  (pss_cons (ps_if (pt_cmpR (eqU (K := K) hr.units) (pv 5) pe_int (nomark _)) (pss_one ps_never) pss_nil)
  (pss_one ps_never))))))))))))), ?_⟩
    refine tr_run (R := fun u H' => ∃ t, u = .ref t ∧ Same H H' ∧ H' t = some (.tup [.str "few", .non])) ?_ fun u H' ⟨t, e, h1, h2⟩ => e ▸ q t H' h1 h2
    · skip
      have E : Same H H := Same.refl H
      refine tr_seq (tr_set (K := K) (d := .list (([false, false, false] : List Bool).map .bool)) (Same.refl _) (ev_lst s3 (ea_cons (ev_isV rfl ((hkit.own "InvalidLot" (by decide)).trans (by decide)) (hda.mono E)) (ea_cons (ev_isV rfl ((hkit.own "InvalidNumber" (by decide)).trans (by decide)) (hda.mono E)) (ea_cons (ev_isV rfl ((hkit.own "InvalidWish" (by decide)).trans (by decide)) (hda.mono E)) ea_nil))))) fun σ1 H1 ⟨e1, l1, h1, s_1⟩ => ?_
      subst s_1
      replace E := E.trans e1
      refine tr_seq (tr_set (K := K) (d := .list (([false, false, false, false, false, false] : List Bool).map .bool)) (Same.refl _) (ev_catL (ds := ([false, false, false] : List Bool).map .bool) (es := ([false, false, false] : List Bool).map .bool) (sz (by show 6 ≤ 100000; decide)) (ev_var rfl h1) (ev_lst s3 (ea_cons (ev_isV rfl ((hkit.own "InvalidCommand" (by decide)).trans (by decide)) (hda.mono E)) (ea_cons (ev_isV rfl ((hkit.own "NotLots" (by decide)).trans (by decide)) (hda.mono E)) (ea_cons (ev_isV rfl ((hkit.own "NothingToUndo" (by decide)).trans (by decide)) (hda.mono E)) ea_nil)))))) fun σ2 H2 ⟨e2, l2, h2, s_2⟩ => ?_
      subst s_2
      replace E := E.trans e2
      refine tr_seq (tr_set (K := K) (d := .list (([false, false, false, false, false, false, false, true, false] : List Bool).map .bool)) (Same.refl _) (ev_catL (ds := ([false, false, false, false, false, false] : List Bool).map .bool) (es := ([false, true, false] : List Bool).map .bool) (sz (by show 9 ≤ 100000; decide)) (ev_var rfl h2) (ev_lst s3 (ea_cons (ev_isV rfl ((hkit.own "TooMany" (by decide)).trans (by decide)) (hda.mono E)) (ea_cons (ev_isV rfl ((hkit.own "TooFew" (by decide)).trans (by decide)) (hda.mono E)) (ea_cons (ev_isV rfl ((hkit.own "Broken" (by decide)).trans (by decide)) (hda.mono E)) ea_nil)))))) fun σ3 H3 ⟨e3, l3, h3, s_3⟩ => ?_
      subst s_3
      replace E := E.trans e3
      refine tr_seq (tr_set (K := K) (d := .list (([false, false, false] : List Bool).map .bool)) (Same.refl _) (ev_lst s3 (ea_cons (ev_isV rfl ((hkit.own "InvalidText" (by decide)).trans (by decide)) (hda.mono E)) (ea_cons (ev_isV rfl ((hkit.own "InvalidFamily" (by decide)).trans (by decide)) (hda.mono E)) (ea_cons (ev_isV rfl ((hkit.own "InvalidTwins" (by decide)).trans (by decide)) (hda.mono E)) ea_nil))))) fun σ4 H4 ⟨e4, l4, h4, s_4⟩ => ?_
      subst s_4
      replace E := E.trans e4
      refine tr_seq (tr_set (K := K) (d := .list (([false, false, false, false, false, false] : List Bool).map .bool)) (Same.refl _) (ev_catL (ds := ([false, false, false] : List Bool).map .bool) (es := ([false, false, false] : List Bool).map .bool) (sz (by show 6 ≤ 100000; decide)) (ev_var rfl h4) (ev_lst s3 (ea_cons (ev_isV rfl ((hkit.own "InvalidBalance" (by decide)).trans (by decide)) (hda.mono E)) (ea_cons (ev_isV rfl ((hkit.own "InvalidThings" (by decide)).trans (by decide)) (hda.mono E)) (ea_cons (ev_isV rfl ((hkit.own "InvalidLots" (by decide)).trans (by decide)) (hda.mono E)) ea_nil)))))) fun σ5 H5 ⟨e5, l5, h5, s_5⟩ => ?_
      subst s_5
      replace E := E.trans e5
      refine tr_seq (tr_set (K := K) (d := .list (([false, false, false, false, false, false, false, false, false] : List Bool).map .bool)) (Same.refl _) (ev_catL (ds := ([false, false, false, false, false, false] : List Bool).map .bool) (es := ([false, false, false] : List Bool).map .bool) (sz (by show 9 ≤ 100000; decide)) (ev_var rfl h5) (ev_lst s3 (ea_cons (ev_isV rfl ((hkit.own "InvalidIndexes" (by decide)).trans (by decide)) (hda.mono E)) (ea_cons (ev_isV rfl ((hkit.own "UnknownThing" (by decide)).trans (by decide)) (hda.mono E)) (ea_cons (ev_isV rfl ((hkit.own "TooWide" (by decide)).trans (by decide)) (hda.mono E)) ea_nil)))))) fun σ6 H6 ⟨e6, l6, h6, s_6⟩ => ?_
      subst s_6
      replace E := E.trans e6
      refine tr_seq (tr_set (K := K) (d := .list (([false, false, true] : List Bool).map .bool)) (Same.refl _) (ev_lst s3 (ea_cons (ev_isV rfl ((hkit.own "WrongValue" (by decide)).trans (by decide)) (hda.mono E)) (ea_cons (ev_isV rfl ((hkit.own "WrongName" (by decide)).trans (by decide)) (hda.mono E)) (ea_cons (ev_isV rfl ((hkit.own "NotPossible" (by decide)).trans (by decide)) (hda.mono E)) ea_nil))))) fun σ7 H7 ⟨e7, l7, h7, s_7⟩ => ?_
      subst s_7
      replace E := E.trans e7
      refine tr_seq (tr_set (K := K) (d := .list (([false, false, true] : List Bool).map .bool)) (Same.refl _) (ev_lst s3 (ea_cons (ev_isVT rfl (hkit.ve.trans (by decide)) (hda.mono E)) (ea_cons (ev_isVT rfl (hkit.le.trans (by decide)) (hda.mono E)) (ea_cons (ev_isVT rfl (hkit.ae.trans (by decide)) (hda.mono E)) ea_nil))))) fun σ8 H8 ⟨e8, l8, h8, s_8⟩ => ?_
      subst s_8
      replace E := E.trans e8
      refine tr_seq (tr_set (K := K) (d := .int ((7 : Nat) : Int)) (Same.refl _) (ev_if (b := true) (et_and (b := true) (c := true) ((et_test (ev_eqI (ev_cntB (b := true) (bs := [false, false, false, false, false, false, false, true, false]) (ev_var rfl (((((h3.mono e4).mono e5).mono e6).mono e7).mono e8)) ev_bl) (ev_int (i := 1)))).as (by decide)) fun _ => (et_test (ev_niLB (x := true) (ws := [false, false, false, false, false, false, false, false, false]) ev_bl (ev_var rfl ((h6.mono e7).mono e8)))).as (by decide)) (fun _ => ev_lixB (b := true) (bs := [false, false, false, false, false, false, false, true, false]) (j := 7) rfl (by decide) (ev_var rfl (((((h3.mono e4).mono e5).mono e6).mono e7).mono e8)) ev_bl) fun z => by cases z)) fun σ9 H9 ⟨e9, l9, h9, s_9⟩ => ?_
      subst s_9
      replace E := E.trans e9
      cases h9
      refine tr_ifS (b := false) (Same.refl _) (et_or (b := false) (c := false) (et_test (ev_neSame (by decide +kernel) (ev_var (d := .list (([false, false, true] : List Bool).map .bool)) rfl ((h7.mono e8).mono e9)) (ev_var (d := .list (([false, false, true] : List Bool).map .bool)) rfl (h8.mono e9)))) fun _ => et_test (ev_neSame (by decide +kernel) (ev_var (d := .list (([false, false, true] : List Bool).map .bool)) rfl ((h7.mono e8).mono e9)) (ev_lst (ds := ([false, false, true] : List Bool).map .bool) s3 (ea_cons ((ev_ltI (ev_var (d := .int ((7 : Nat) : Int)) rfl (.int _)) (ev_int (i := 5))).as (e := .bool false) (congrArg PyData.bool (by decide))) (ea_cons ev_bl (ea_cons ((ev_chainL (ev_int (i := 4)) (ev_var (d := .int ((7 : Nat) : Int)) rfl (.int _)) (ev_int (i := 9))).as (e := .bool true) (congrArg PyData.bool (by decide))) ea_nil)))))) (fun z => by cases z) fun _ H10 e10 => tr_nextS ?_
      replace E := E.trans e10
      refine tr_ifS (b := true) (Same.refl _) ((et_test (ev_inLI (x := 7) (ws := [5, 7]) (ev_var (d := .int ((7 : Nat) : Int)) rfl (.int _)) (ev_lst s2 (ea_cons ev_int (ea_cons ev_int ea_nil))))).as (by decide)) (fun _ H11 e11 => tr_retS (tr_retT (ds := [.str "few", .none]) (ea_cons (ev_ixL (i := 1) (d := .str "few") rfl (ev_lst (ds := [.str "undo", .str "few"]) s2 (ea_cons ev_str (ea_cons ev_str ea_nil))) ((ev_intB (ev_eqI (ev_var (d := .int ((7 : Nat) : Int)) rfl (.int _)) (ev_int (i := 7)))).as rfl)) (ea_cons ev_non ea_nil)) (Same.refl _) s2 fun t vs H12 e12 ht hvs => ?_)) (fun z => by cases z)
      obtain ⟨u1, u2, rfl, r1, r2⟩ := hvs.two
      cases r1
      cases r2
      exact ⟨t, rfl, (E.trans e11).trans e12, ht⟩
  · obtain ⟨hec, hkit⟩ := W6 (x := "NothingToUndo") W (by decide)
    have hda : DictAt H none := .inl rfl
    refine ⟨_, (pss_cons (setU (i := 1) sc__law_sort.nd (pe_lst (pa_cons (pe_callB (call_isV (ecB_ok hec) hp hz hf) rfl W.n_isinstance bt_isinstance (pa_cons (pv 0) (pa_cons (pe_glob (v := .ref (He.ga K "InvalidLot")) rfl W.g_InvalidLot rfl) pa_nil))) (pa_cons (pe_callB (call_isV (ecB_ok hec) hp hz hf) rfl W.n_isinstance bt_isinstance (pa_cons (pv 0) (pa_cons (pe_glob (v := .ref (He.ga K "InvalidNumber")) rfl W.g_InvalidNumber rfl) pa_nil))) (pa_cons (pe_callB (call_isV (ecB_ok hec) hp hz hf) rfl W.n_isinstance bt_isinstance (pa_cons (pv 0) (pa_cons (pe_glob (v := .ref (He.ga K "InvalidWish")) rfl W.g_InvalidWish rfl) pa_nil))) pa_nil)))))
  (pss_cons (setU (i := 1) sc__law_sort.nd (pe_op (addU (K := K)) (pv 1) (pe_lst (pa_cons (pe_callB (call_isV (ecB_ok hec) hp hz hf) rfl W.n_isinstance bt_isinstance (pa_cons (pv 0) (pa_cons (pe_glob (v := .ref (He.ga K "InvalidCommand")) rfl W.g_InvalidCommand rfl) pa_nil))) (pa_cons (pe_callB (call_isV (ecB_ok hec) hp hz hf) rfl W.n_isinstance bt_isinstance (pa_cons (pv 0) (pa_cons (pe_glob (v := .ref (He.ga K "NotLots")) rfl W.g_NotLots rfl) pa_nil))) (pa_cons (pe_callB (call_isV (ecB_ok hec) hp hz hf) rfl W.n_isinstance bt_isinstance (pa_cons (pv 0) (pa_cons (pe_glob (v := .ref (He.ga K "NothingToUndo")) rfl W.g_NothingToUndo rfl) pa_nil))) pa_nil))))))
  (pss_cons (setU (i := 1) sc__law_sort.nd (pe_op (addU (K := K)) (pv 1) (pe_lst (pa_cons (pe_callB (call_isV (ecB_ok hec) hp hz hf) rfl W.n_isinstance bt_isinstance (pa_cons (pv 0) (pa_cons (pe_glob (v := .ref (He.ga K "TooMany")) rfl W.g_TooMany rfl) pa_nil))) (pa_cons (pe_callB (call_isV (ecB_ok hec) hp hz hf) rfl W.n_isinstance bt_isinstance (pa_cons (pv 0) (pa_cons (pe_glob (v := .ref (He.ga K "TooFew")) rfl W.g_TooFew rfl) pa_nil))) (pa_cons (pe_callB (call_isV (ecB_ok hec) hp hz hf) rfl W.n_isinstance bt_isinstance (pa_cons (pv 0) (pa_cons (pe_glob (v := .ref (He.ga K "Broken")) rfl W.g_Broken rfl) pa_nil))) pa_nil))))))
  (pss_cons (setU (i := 2) sc__law_sort.nd (pe_lst (pa_cons (pe_callB (call_isV (ecB_ok hec) hp hz hf) rfl W.n_isinstance bt_isinstance (pa_cons (pv 0) (pa_cons (pe_glob (v := .ref (He.ga K "InvalidText")) rfl W.g_InvalidText rfl) pa_nil))) (pa_cons (pe_callB (call_isV (ecB_ok hec) hp hz hf) rfl W.n_isinstance bt_isinstance (pa_cons (pv 0) (pa_cons (pe_glob (v := .ref (He.ga K "InvalidFamily")) rfl W.g_InvalidFamily rfl) pa_nil))) (pa_cons (pe_callB (call_isV (ecB_ok hec) hp hz hf) rfl W.n_isinstance bt_isinstance (pa_cons (pv 0) (pa_cons (pe_glob (v := .ref (He.ga K "InvalidTwins")) rfl W.g_InvalidTwins rfl) pa_nil))) pa_nil)))))
  (pss_cons (setU (i := 2) sc__law_sort.nd (pe_op (addU (K := K)) (pv 2) (pe_lst (pa_cons (pe_callB (call_isV (ecB_ok hec) hp hz hf) rfl W.n_isinstance bt_isinstance (pa_cons (pv 0) (pa_cons (pe_glob (v := .ref (He.ga K "InvalidBalance")) rfl W.g_InvalidBalance rfl) pa_nil))) (pa_cons (pe_callB (call_isV (ecB_ok hec) hp hz hf) rfl W.n_isinstance bt_isinstance (pa_cons (pv 0) (pa_cons (pe_glob (v := .ref (He.ga K "InvalidThings")) rfl W.g_InvalidThings rfl) pa_nil))) (pa_cons (pe_callB (call_isV (ecB_ok hec) hp hz hf) rfl W.n_isinstance bt_isinstance (pa_cons (pv 0) (pa_cons (pe_glob (v := .ref (He.ga K "InvalidLots")) rfl W.g_InvalidLots rfl) pa_nil))) pa_nil))))))
  (pss_cons (setU (i := 2) sc__law_sort.nd (pe_op (addU (K := K)) (pv 2) (pe_lst (pa_cons (pe_callB (call_isV (ecB_ok hec) hp hz hf) rfl W.n_isinstance bt_isinstance (pa_cons (pv 0) (pa_cons (pe_glob (v := .ref (He.ga K "InvalidIndexes")) rfl W.g_InvalidIndexes rfl) pa_nil))) (pa_cons (pe_callB (call_isV (ecB_ok hec) hp hz hf) rfl W.n_isinstance bt_isinstance (pa_cons (pv 0) (pa_cons (pe_glob (v := .ref (He.ga K "UnknownThing")) rfl W.g_UnknownThing rfl) pa_nil))) (pa_cons (pe_callB (call_isV (ecB_ok hec) hp hz hf) rfl W.n_isinstance bt_isinstance (pa_cons (pv 0) (pa_cons (pe_glob (v := .ref (He.ga K "TooWide")) rfl W.g_TooWide rfl) pa_nil))) pa_nil))))))
  (pss_cons (setU (i := 3) sc__law_sort.nd (pe_lst (pa_cons (pe_callB (call_isV (ecB_ok hec) hp hz hf) rfl W.n_isinstance bt_isinstance (pa_cons (pv 0) (pa_cons (pe_glob (v := .ref (He.ga K "WrongValue")) rfl W.g_WrongValue rfl) pa_nil))) (pa_cons (pe_callB (call_isV (ecB_ok hec) hp hz hf) rfl W.n_isinstance bt_isinstance (pa_cons (pv 0) (pa_cons (pe_glob (v := .ref (He.ga K "WrongName")) rfl W.g_WrongName rfl) pa_nil))) (pa_cons (pe_callB (call_isV (ecB_ok hec) hp hz hf) rfl W.n_isinstance bt_isinstance (pa_cons (pv 0) (pa_cons (pe_glob (v := .ref (He.ga K "NotPossible")) rfl W.g_NotPossible rfl) pa_nil))) pa_nil)))))
  (pss_cons (setU (i := 4) sc__law_sort.nd (pe_lst (pa_cons (pe_callB (call_isV (ecB_ok hec) hp hz hf) rfl W.n_isinstance bt_isinstance (pa_cons (pv 0) (pa_cons (pe_bltn (v := .ty "ValueError") rfl W.n_ValueError bt_ValueError rfl) pa_nil))) (pa_cons (pe_callB (call_isV (ecB_ok hec) hp hz hf) rfl W.n_isinstance bt_isinstance (pa_cons (pv 0) (pa_cons (pe_bltn (v := .ty "LookupError") rfl W.n_LookupError bt_LookupError rfl) pa_nil))) (pa_cons (pe_callB (call_isV (ecB_ok hec) hp hz hf) rfl W.n_isinstance bt_isinstance (pa_cons (pv 0) (pa_cons (pe_bltn (v := .ty "ArithmeticError") rfl W.n_ArithmeticError bt_ArithmeticError rfl) pa_nil))) pa_nil)))))
  (pss_cons (setU (i := 5) sc__law_sort.nd (pe_ifExp (PW.pt (pw_and (pt_cmpR (eqU (K := K) hr.units) (cntU (K := K) (pv 1) pe_bl) pe_int (nomark _)) (pw_and1 (pt_cmpR (niU (K := K)) pe_bl (pv 2) (by rfl))))) (lixU (K := K) (pv 1) pe_bl) pe_int))
  (pss_cons (ps_if (PW.pt (pw_or (pt_cmpR (neU (K := K) hr.units) (pv 3) (pv 4) (nomark _)) (pw_or1 (pt_cmpR (neU (K := K) hr.units) (pv 3) (pe_lst (pa_cons (pe_cmpR op_ltU (pv 5) pe_int (nomark _)) (pa_cons pe_bl (pa_cons (pe_chain op_ltU op_ltU pe_int (pv 5) pe_int) pa_nil)))) (nomark _))))) (pss_one ps_never) pss_nil)
  (pss_cons (ps_if (pt_cmpR (inU (K := K)) (pv 5) (pe_lst (pa_cons pe_int (pa_cons pe_int pa_nil))) (by rfl)) (pss_one (ps_ret (pe_tup (pa_cons (pe_ix (ixU (K := K)) (pe_lst (pa_cons pe_str (pa_cons pe_str pa_nil))) (pe_callTy call_int1 rfl W.n_int bt_int (pa_cons (pe_cmpR (eqU (K := K) hr.units) (pv 5) pe_int (nomark _)) pa_nil)) (fun _ _ => rfl)) (pa_cons pe_non pa_nil))))) pss_nil)
  (pss_cons (ps_if (pt_cmpR (eqU (K := K) hr.units) (pv 5) pe_int (nomark _)) (pss_one ps_never) pss_nil)
  (pss_one ps_never))))))))))))), ?_⟩
    refine tr_run (R := fun u H' => ∃ t, u = .ref t ∧ Same H H' ∧ H' t = some (.tup [.str "undo", .non])) ?_ fun u H' ⟨t, e, h1, h2⟩ => e ▸ q t H' h1 h2
    · skip
      have E : Same H H := Same.refl H
      refine tr_seq (tr_set (K := K) (d := .list (([false, false, false] : List Bool).map .bool)) (Same.refl _) (ev_lst s3 (ea_cons (ev_isV rfl ((hkit.own "InvalidLot" (by decide)).trans (by decide)) (hda.mono E)) (ea_cons (ev_isV rfl ((hkit.own "InvalidNumber" (by decide)).trans (by decide)) (hda.mono E)) (ea_cons (ev_isV rfl ((hkit.own "InvalidWish" (by decide)).trans (by decide)) (hda.mono E)) ea_nil))))) fun σ1 H1 ⟨e1, l1, h1, s_1⟩ => ?_
      subst s_1
      replace E := E.trans e1
      refine tr_seq (tr_set (K := K) (d := .list (([false, false, false, false, false, true] : List Bool).map .bool)) (Same.refl _) (ev_catL (ds := ([false, false, false] : List Bool).map .bool) (es := ([false, false, true] : List Bool).map .bool) (sz (by show 6 ≤ 100000; decide)) (ev_var rfl h1) (ev_lst s3 (ea_cons (ev_isV rfl ((hkit.own "InvalidCommand" (by decide)).trans (by decide)) (hda.mono E)) (ea_cons (ev_isV rfl ((hkit.own "NotLots" (by decide)).trans (by decide)) (hda.mono E)) (ea_cons (ev_isV rfl ((hkit.own "NothingToUndo" (by decide)).trans (by decide)) (hda.mono E)) ea_nil)))))) fun σ2 H2 ⟨e2, l2, h2, s_2⟩ => ?_
      subst s_2
      replace E := E.trans e2
      refine tr_seq (tr_set (K := K) (d := .list (([false, false, false, false, false, true, false, false, false] : List Bool).map .bool)) (Same.refl _) (ev_catL (ds := ([false, false, false, false, false, true] : List Bool).map .bool) (es := ([false, false, false] : List Bool).map .bool) (sz (by show 9 ≤ 100000; decide)) (ev_var rfl h2) (ev_lst s3 (ea_cons (ev_isV rfl ((hkit.own "TooMany" (by decide)).trans (by decide)) (hda.mono E)) (ea_cons (ev_isV rfl ((hkit.own "TooFew" (by decide)).trans (by decide)) (hda.mono E)) (ea_cons (ev_isV rfl ((hkit.own "Broken" (by decide)).trans (by decide)) (hda.mono E)) ea_nil)))))) fun σ3 H3 ⟨e3, l3, h3, s_3⟩ => ?_
      subst s_3
      replace E := E.trans e3
      refine tr_seq (tr_set (K := K) (d := .list (([false, false, false] : List Bool).map .bool)) (Same.refl _) (ev_lst s3 (ea_cons (ev_isV rfl ((hkit.own "InvalidText" (by decide)).trans (by decide)) (hda.mono E)) (ea_cons (ev_isV rfl ((hkit.own "InvalidFamily" (by decide)).trans (by decide)) (hda.mono E)) (ea_cons (ev_isV rfl ((hkit.own "InvalidTwins" (by decide)).trans (by decide)) (hda.mono E)) ea_nil))))) fun σ4 H4 ⟨e4, l4, h4, s_4⟩ => ?_
      subst s_4
      replace E := E.trans e4
      refine tr_seq (tr_set (K := K) (d := .list (([false, false, false, false, false, false] : List Bool).map .bool)) (Same.refl _) (ev_catL (ds := ([false, false, false] : List Bool).map .bool) (es := ([false, false, false] : List Bool).map .bool) (sz (by show 6 ≤ 100000; decide)) (ev_var rfl h4) (ev_lst s3 (ea_cons (ev_isV rfl ((hkit.own "InvalidBalance" (by decide)).trans (by decide)) (hda.mono E)) (ea_cons (ev_isV rfl ((hkit.own "InvalidThings" (by decide)).trans (by decide)) (hda.mono E)) (ea_cons (ev_isV rfl ((hkit.own "InvalidLots" (by decide)).trans (by decide)) (hda.mono E)) ea_nil)))))) fun σ5 H5 ⟨e5, l5, h5, s_5⟩ => ?_
      subst s_5
      replace E := E.trans e5
      refine tr_seq (tr_set (K := K) (d := .list (([false, false, false, false, false, false, false, false, false] : List Bool).map .bool)) (Same.refl _) (ev_catL (ds := ([false, false, false, false, false, false] : List Bool).map .bool) (es := ([false, false, false] : List Bool).map .bool) (sz (by show 9 ≤ 100000; decide)) (ev_var rfl h5) (ev_lst s3 (ea_cons (ev_isV rfl ((hkit.own "InvalidIndexes" (by decide)).trans (by decide)) (hda.mono E)) (ea_cons (ev_isV rfl ((hkit.own "UnknownThing" (by decide)).trans (by decide)) (hda.mono E)) (ea_cons (ev_isV rfl ((hkit.own "TooWide" (by decide)).trans (by decide)) (hda.mono E)) ea_nil)))))) fun σ6 H6 ⟨e6, l6, h6, s_6⟩ => ?_
      subst s_6
      replace E := E.trans e6
      refine tr_seq (tr_set (K := K) (d := .list (([false, false, true] : List Bool).map .bool)) (Same.refl _) (ev_lst s3 (ea_cons (ev_isV rfl ((hkit.own "WrongValue" (by decide)).trans (by decide)) (hda.mono E)) (ea_cons (ev_isV rfl ((hkit.own "WrongName" (by decide)).trans (by decide)) (hda.mono E)) (ea_cons (ev_isV rfl ((hkit.own "NotPossible" (by decide)).trans (by decide)) (hda.mono E)) ea_nil))))) fun σ7 H7 ⟨e7, l7, h7, s_7⟩ => ?_
      subst s_7
      replace E := E.trans e7
      refine tr_seq (tr_set (K := K) (d := .list (([false, false, true] : List Bool).map .bool)) (Same.refl _) (ev_lst s3 (ea_cons (ev_isVT rfl (hkit.ve.trans (by decide)) (hda.mono E)) (ea_cons (ev_isVT rfl (hkit.le.trans (by decide)) (hda.mono E)) (ea_cons (ev_isVT rfl (hkit.ae.trans (by decide)) (hda.mono E)) ea_nil))))) fun σ8 H8 ⟨e8, l8, h8, s_8⟩ => ?_
      subst s_8
      replace E := E.trans e8
      refine tr_seq (tr_set (K := K) (d := .int ((5 : Nat) : Int)) (Same.refl _) (ev_if (b := true) (et_and (b := true) (c := true) ((et_test (ev_eqI (ev_cntB (b := true) (bs := [false, false, false, false, false, true, false, false, false]) (ev_var rfl (((((h3.mono e4).mono e5).mono e6).mono e7).mono e8)) ev_bl) (ev_int (i := 1)))).as (by decide)) fun _ => (et_test (ev_niLB (x := true) (ws := [false, false, false, false, false, false, false, false, false]) ev_bl (ev_var rfl ((h6.mono e7).mono e8)))).as (by decide)) (fun _ => ev_lixB (b := true) (bs := [false, false, false, false, false, true, false, false, false]) (j := 5) rfl (by decide) (ev_var rfl (((((h3.mono e4).mono e5).mono e6).mono e7).mono e8)) ev_bl) fun z => by cases z)) fun σ9 H9 ⟨e9, l9, h9, s_9⟩ => ?_
      subst s_9
      replace E := E.trans e9
      cases h9
      refine tr_ifS (b := false) (Same.refl _) (et_or (b := false) (c := false) (et_test (ev_neSame (by decide +kernel) (ev_var (d := .list (([false, false, true] : List Bool).map .bool)) rfl ((h7.mono e8).mono e9)) (ev_var (d := .list (([false, false, true] : List Bool).map .bool)) rfl (h8.mono e9)))) fun _ => et_test (ev_neSame (by decide +kernel) (ev_var (d := .list (([false, false, true] : List Bool).map .bool)) rfl ((h7.mono e8).mono e9)) (ev_lst (ds := ([false, false, true] : List Bool).map .bool) s3 (ea_cons ((ev_ltI (ev_var (d := .int ((5 : Nat) : Int)) rfl (.int _)) (ev_int (i := 5))).as (e := .bool false) (congrArg PyData.bool (by decide))) (ea_cons ev_bl (ea_cons ((ev_chainL (ev_int (i := 4)) (ev_var (d := .int ((5 : Nat) : Int)) rfl (.int _)) (ev_int (i := 9))).as (e := .bool true) (congrArg PyData.bool (by decide))) ea_nil)))))) (fun z => by cases z) fun _ H10 e10 => tr_nextS ?_
      replace E := E.trans e10
      refine tr_ifS (b := true) (Same.refl _) ((et_test (ev_inLI (x := 5) (ws := [5, 7]) (ev_var (d := .int ((5 : Nat) : Int)) rfl (.int _)) (ev_lst s2 (ea_cons ev_int (ea_cons ev_int ea_nil))))).as (by decide)) (fun _ H11 e11 => tr_retS (tr_retT (ds := [.str "undo", .none]) (ea_cons (ev_ixL (i := 0) (d := .str "undo") rfl (ev_lst (ds := [.str "undo", .str "few"]) s2 (ea_cons ev_str (ea_cons ev_str ea_nil))) ((ev_intB (ev_eqI (ev_var (d := .int ((5 : Nat) : Int)) rfl (.int _)) (ev_int (i := 7)))).as rfl)) (ea_cons ev_non ea_nil)) (Same.refl _) s2 fun t vs H12 e12 ht hvs => ?_)) (fun z => by cases z)
      obtain ⟨u1, u2, rfl, r1, r2⟩ := hvs.two
      cases r1
      cases r2
      exact ⟨t, rfl, (E.trans e11).trans e12, ht⟩
end
end K7

set_option Elab.async false
set_option linter.all false
set_option maxRecDepth 100000
set_option maxHeartbeats 4000000
namespace K7
open PySem PySem.Spec PyProof.Rows L2
/-! ### a lambda that is called, its error sorted -/
/-- a name whose slot is there as long as the state is whole -/
def tVarL (n i : Nat) : TE := fun σ H Q => σ.length = n → tVar i σ H Q
theorem pvL {X : Cx} {i n : Nat} {x : Str} {pos : Pos} (h : PE X (.Name x pos) (tVar i)) (hn : X.N.length = n) : PE X (.Name x pos) (tVarL n i) :=
  ⟨fun pins s σ H Q I q => h.run pins s σ H Q I (q (I.len.trans hn))⟩
theorem pss_weak {X : Cx} {ss : List Stmt} {t u : TS} (h : PSs X ss t) (k : ∀ D σ H, u D σ H → t D σ H) : PSs X ss u := ⟨fun pins s σ H D I q => h.run pins s σ H D I (k D σ H q)⟩
/-- what an error of the package comes to -/
def EchC (K : PySem.W.Frag) (Q : VK) : XK := fun cls d H => PySem.W.exmAny K cls [.ref (He.ga K "WrongValue"), .ref (He.ga K "WrongName"), .ref (He.ga K "NotPossible")] = some true ∧ ∀ a, H a = none → ∀ oe : Obj, Zc cls d oe → (∃ us, oe.data = .fields us) → spSort K (a, oe) [.ref a] H Q
def TCau (K : PySem.W.Frag) : (XK → Hp → VK → Prop) → Hp → VK → Prop := fun tl H Q => ∀ Q2 : VK, (∀ v H', (∀ t, H' t = none → Q (.ref t) (upd H' t (.tup [.str "gave", v]))) → Q2 v H') → tl (EchC K Q) H Q2
theorem caught_gives {X : Cx} {g : Addr} {cdg : Value} {q : Str} (W : Wr X.prog X.w X.K X.mg X.base) (FS : FV X.prog X.w X.K X.mg X.base 1 "_law_sort" ["_law_e"] (spSort X.K)) (hr : Room 2 X.A) :
    LamX.GivesTo X N__law_caught "_law_caught" (defScope s__law_caught) g cdg (defBody s__law_caught) "_law_act" q (TCau X.K) := by
  intro f c' s H Q tl act hc h
  refine ⟨_, pss_cons (ps_try_tup (X := (cxOf C8.CX0 X.prog X.w X.K X.mg X.base N__law_caught "_law_caught" (defScope s__law_caught) g cdg X.A X.stack s H C8.E0).nox) (n := "_law_e") (i := 2)
      (tb := fun W D σ H => ∃ Ech : XK, (∀ cls d σ' H', Ech cls d H' → W cls d σ' H') ∧ σ[0]? = some (some (.ref f)) ∧ H c' = some (LamX.CodeO c' q) ∧ tl Ech H fun v H' => D.nx (σ.set 1 (some v)) H')
      (ts := fun a cls d D σ H => ∀ oe : Obj, Zc cls d oe → (∃ vs, oe.data = .fields vs) → tRet (tCallV (a, oe) (spSort X.K) (tCons (tVarL 3 2) tNil)) D σ H)
      rfl rfl sc__law_caught.nd rfl rfl rfl rfl rfl W.g_WrongValue W.g_WrongName W.g_NotPossible (fun W pn xe tk _ => ?_) fun a oe cls d pn hz hf => ?_) (pss_one (ps_ret (pe_tup (pa_cons pe_str (pa_cons (pv 1) pa_nil))))), ?_⟩
  · refine ⟨fun pins s' σ H' D I h' => ?_⟩
    obtain ⟨Ech, hW, h1, h2, h3⟩ := h'
    exact (pss_one (setU (i := 1) sc__law_caught.nd (act W pn xe Ech _ _ tk hW))).run pins s' σ H' D I ⟨h1, h2, h3⟩
  · exact pss_weak (pss_one (ps_ret (pe_callV FS ⟨(hr.deeper (envOfC "_law_caught" (defScope s__law_caught) s.heap.objs.size g cdg)).dp, (hr.deeper (envOfC "_law_caught" (defScope s__law_caught) s.heap.objs.size g cdg)).un⟩ rfl (pa_cons (pvL (pv 2) rfl) pa_nil)))) fun D σ H z => z oe hz hf
  · refine ⟨EchC X.K Q, fun cls d σ' H' e => ⟨e.1, fun a ha oe hz hf => ?_⟩, rfl, hc, h _ fun v H' z => ?_⟩
    · intro hl
      exact ⟨.ref a, List.getElem?_set_self (by rw [List.length_set] at hl; omega), e.2 a ha oe hz hf⟩
    · exact ⟨v, rfl, by show 2 ≤ sizeLine; rw [sizeLine_eq]; omega, fun t ht => z t ht⟩
/-- the tables of lambdas -/
def lamT (K : PySem.W.Frag) : List (Addr × Str) := [((He.cT K ("_law_did", none)).2, (("_law_did" : Str) ++ ".<locals>.") ++ "<lambda>"), ((He.cT K ("_law_right", none)).2, (("_law_right" : Str) ++ ".<locals>.") ++ "<lambda>")]
section
variable {K : PySem.W.Frag} {H H' H1 : Hp} {a : Addr} {c : S7} {ps : List S7}
theorem rp_ext {v : V} {d : PyData} (e : LamX.ExtN H H') (h : Rp K H v d) : Rp K H' v d := rp_keep (fun b o hb hh => e b o hh fun ps z => by rw [z] at hb; cases hb) d v h
theorem ext_same (e : Same H H') : LamX.ExtN H H' := fun b o h _ => e b o h
theorem ext_cut {p : Addr} (e : LamX.ExtN H H') : LamX.ExtN (cut H p) (cut H' p) := fun b o h n => by
  have hb : b ≠ p := ne_of_none h cut_at
  rw [cut_ne hb] at h ⊢
  exact e b o h n
theorem DeskAt.ext (h : DeskAt K H a c ps) (e : LamX.ExtN H H') : DeskAt K H' a c ps := let ⟨dx, hv, h1, h2⟩ := h; ⟨dx, hv, e _ _ h1 (fun ps z => by cases z), rp_ext (ext_cut e) h2⟩
theorem tabs_cut {T : List (Addr × Str)} {p : Addr} {o : HO} (h : H p = some o) (n1 : ∀ ps, o ≠ .tbl ps) (n2 : ∀ c q, o ≠ LamX.CodeO c q) (t : LamX.Tabs T H) : LamX.Tabs T (cut H p) := fun x hx => by
  obtain ⟨ps, h1, h2, h3⟩ := t x hx
  have ne : ∀ {b : Addr} {u : HO}, H b = some u → (u ≠ o) → b ≠ p := fun e n z => by rw [z, h] at e; exact n (Option.some.inj e).symm
  refine ⟨ps, by rw [cut_ne (ne h1 (Ne.symm (n1 ps)))]; exact h1, h2, fun pos cv hc => ?_⟩
  obtain ⟨c, e1, e2⟩ := h3 pos cv hc
  exact ⟨c, e1, by rw [cut_ne (ne e2 (Ne.symm (n2 c _)))]; exact e2⟩
theorem DeskAt.tabs {T : List (Addr × Str)} (h : DeskAt K H a c ps) (t : LamX.Tabs T H) : LamX.Tabs T (cut H a) := by
  obtain ⟨dx, hv, h1, _⟩ := h
  exact tabs_cut h1 (fun ps z => by cases z) (fun c q z => by unfold LamX.CodeO at z; cases z) t
theorem ext_at {B B' : Hp} (e : LamX.ExtN (cut H a) B) (n : B a = H a ∨ True) (k : LamX.ExtN (cut B a) B') : LamX.ExtN (cut H a) B' := fun b o h m => by
  have hb : b ≠ a := ne_of_none h cut_at
  exact k b o (by rw [cut_ne hb]; exact e b o h m) m
/-- the ways out, as what is told -/
theorem out_did {Q Q2 : VK} {r : Option Nat} (W6 : KitOk K "Broken") (h2 : ∀ v H', (∀ t, H' t = none → Q (.ref t) (upd H' t (.tup [.str "gave", v]))) → Q2 v H')
    (h0 : ∀ (i : Nat), r = some i → ∀ t H', Same H H' → H' t = some (.tup [.str "broken", .int i]) → Q (.ref t) H') (h1 : r = none → ∀ H' t, Same (cut H a) H' → DeskAt K H' a c ps → H' t = none → Q (.ref t) (upd H' t (.tup [.str "gave", .non]))) : OutOk K H a Q2 (EchC K Q) r c ps :=
  ⟨fun i hi H' d e hd => ⟨W6.ex, fun b hb oe hz hf => ⟨rfl, hf, .inr (.inl ⟨d, .int i, hz, hd, fun t H'' e2 ht => h0 i hi t H'' (e.trans e2) ht⟩)⟩⟩, fun hn H' e hd => h2 _ _ fun t ht => h1 hn H' t e hd ht⟩
theorem ech_few {Q : VK} (W6 : KitOk K "TooFew") (h0 : ∀ t H', Same H H' → H' t = some (.tup [.str "few", .non]) → Q (.ref t) H') : EchC K Q (.ref (He.ga K "TooFew")) none H :=
  ⟨W6.ex, fun b hb oe hz hf => ⟨rfl, hf, .inr (.inr (.inl ⟨hz, h0⟩))⟩⟩
theorem ech_undo {Q : VK} (W6 : KitOk K "NothingToUndo") (h0 : ∀ t H', Same H H' → H' t = some (.tup [.str "undo", .non]) → Q (.ref t) H') : EchC K Q (.ref (He.ga K "NothingToUndo")) none H :=
  ⟨W6.ex, fun b hb oe hz hf => ⟨rfl, hf, .inr (.inr (.inr ⟨hz, h0⟩))⟩⟩
theorem ech_num {Q : VK} {dd : Addr} {v : V} (W6 : KitOk K "InvalidNumber") (hd : H dd = some (.xd [("given", v)])) (h0 : ∀ t H', Same H H' → H' t = some (.tup [.str "number", v]) → Q (.ref t) H') : EchC K Q (.ref (He.ga K "InvalidNumber")) (some dd) H :=
  ⟨W6.ex, fun b hb oe hz hf => ⟨rfl, hf, .inl ⟨dd, v, hz, hd, h0⟩⟩⟩
theorem seq_ifF {σ : L2.St} {c : TT} {t v : TS} {D : Ends} (hc : EvT c σ H false) (h2 : ∀ H2, Same H H2 → v D σ H2) : tSeq (tIfS c t tNext) v D σ H := hc H (Same.refl H) _ fun H2 e2 => iteF (h2 H2 e2)
theorem seq_ifT {σ : L2.St} {c : TT} {t u v : TS} {D : Ends} (hc : EvT c σ H true) (h1 : ∀ H2, Same H H2 → t { D with nx := v D } σ H2) : tSeq (tIfS c t u) v D σ H := hc H (Same.refl H) _ fun H2 e2 => iteT (h1 H2 e2)
end
section
variable {P : Program} {w : World} {K : PySem.W.Frag} {mg : Str → Option Value} {base : Heap}
def spDid (K : PySem.W.Frag) : Sp := fun vs H Q _ => ∃ a c ps v e, vs = [.ref a, v] ∧ LamX.Tabs (lamT K) H ∧ DeskAt K H a c ps ∧ ps.length ≤ 100 ∧ S7.Ok c ∧ Rp K H v (Deed.data e) ∧ Deed.ok c e ∧
  ∀ v' H', LamX.ExtN (cut H a) H' → LamX.Tabs (lamT K) H' → DeskAt K H' a (step c ps e).1 (step c ps e).2.1 → Rp K H' v' (step c ps e).2.2 → Q v' H'

theorem ok__law_did (W : Wr P w K mg base) (F__law_sort : FV P w K mg base 1 "_law_sort" ["_law_e"] (spSort K)) (M_Desk_put : Mt P w K mg base (L2.CX P w) 13 (He.ga K "Desk") "put" ["self", "lot"] (spPut K)) (M_Desk_take : Mt P w K mg base (L2.CX P w) 13 (He.ga K "Desk") "take" ["self", "index"] (spTake K)) (M_Desk_change : Mt P w K mg base (L2.CX P w) 13 (He.ga K "Desk") "change" ["self", "index", "lot"] (spChg K)) (M_Desk_promise : Mt P w K mg base (L2.CX P w) 12 (He.ga K "Desk") "promise" ["self", "wish"] (spProm K)) (M_Desk_lift : Mt P w K mg base (L2.CX P w) 4 (He.ga K "Desk") "lift" ["self", "index"] (spLift K)) (M_Desk_undo : Mt P w K mg base (L2.CX P w) 2 (He.ga K "Desk") "undo" ["self"] (spUndo K)) : Fn P w K mg base CX0 16 "_law_did" ["_law_desk_here", "_law_deed_here"] (spDid K) := by
  obtain ⟨fdc, Fc⟩ := W.d__law_caught
  have hbc := Fc.bindsN (ps := ["_law_act"]) (fun _ _ _ _ _ _ us hl => match us, hl with | [_], _ => rfl)
  have hkc := Fc.kp
  obtain ⟨ocC, odC, dVC, kVC, docC, pmC, anC, cdvC, ctC, oslC, rfl, lkC, hcdC, _, _⟩ := Fc.ex
  obtain ⟨fdd, Fd⟩ := W.d__law_did
  have hbd := Fd.bindsN (ps := ["_law_desk_here", "_law_deed_here"]) (fun _ _ _ _ _ _ us hl => match us, hl with | [_, _], _ => rfl)
  have hkd := Fd.kp
  obtain ⟨ocD, odD, dVD, kVD, docD, pmD, anD, cdvD, ctD, oslD, rfl, lkD, hcdD, _, _⟩ := Fd.ex
  obtain ⟨cD, rfl⟩ := He.codeIn_ref hcdD
  have TB := W.tabs ("_law_did", none) List.mem_cons_self
  have hc : (He.cT K ("_law_did", none)).1 = cD := He.codeOf_eq lkD rfl
  rw [hc] at TB
  have hne := of_decide_eq_true (W.ex 7)
  have hu : ∀ p ∈ lamT K, p.1 = (He.cT K ("_law_did", none)).2 → p.2 = (("_law_did" : Str) ++ ".<locals>.") ++ "<lambda>" := fun p hp e => by
    rcases List.mem_cons.mp hp with rfl | hp
    · rfl
    · rw [List.mem_singleton.mp hp] at e
      exact absurd e.symm hne
  refine ⟨_, _, ⟨fun vs H Q E h => ?_, fun A outer s H args us vs Q E hr e0 hb r h => ?_⟩, W.g__law_did, hkd, hbd⟩
  · obtain ⟨a, c, ps, v, e, rfl, _⟩ := h
    rfl
  obtain ⟨a, c, ps, v, e, rfl, hT, hd, hps, hok, hv, he, q⟩ := h
  refine LamX.run_ofS (CX := CX0) lkD hcdD sc__law_did hr e0 hb r rfl fun hr => ?_
  refine ⟨_, PSs.nox (pss_cons (ps_if (pt_cmpR (eqU (K := K) hr.units) (pe_ix (ixU (K := K)) (pv 1) pe_int (fun _ _ => rfl)) pe_str (nomark _)) (pss_one (ps_ret (LamX.pe_lamcall (T := lamT K) (TT := TCau K) (k := 13) rfl W.g__law_caught hkc lkC hcdC hbc sc__law_caught rfl (.inl rfl) (caught_gives W F__law_sort (hr.mono (by decide))) TB rfl List.mem_cons_self hu (hr.mono (by decide)) (LamX.lamS_by (sc := defScope s__law_did) (by decide +kernel)) rfl (fun _ _ _ _ _ => rfl) (fun _ _ _ _ _ _ _ hr => (pe_mt M_Desk_put W.cl_Desk (hr.mono (by decide)) (passes_call (takes_of rfl rfl rfl rfl) (fun _ _ _ _ h => h)) (pv 0) (pa_cons (pe_ix (ixU (K := K)) (pv 1) pe_int (fun _ _ => rfl)) pa_nil)))))) pss_nil)
  (pss_cons (ps_if (pt_cmpR (eqU (K := K) hr.units) (pe_ix (ixU (K := K)) (pv 1) pe_int (fun _ _ => rfl)) pe_str (nomark _)) (pss_one (ps_ret (LamX.pe_lamcall (T := lamT K) (TT := TCau K) (k := 13) rfl W.g__law_caught hkc lkC hcdC hbc sc__law_caught rfl (.inl rfl) (caught_gives W F__law_sort (hr.mono (by decide))) TB rfl List.mem_cons_self hu (hr.mono (by decide)) (LamX.lamS_by (sc := defScope s__law_did) (by decide +kernel)) rfl (fun _ _ _ _ _ => rfl) (fun _ _ _ _ _ _ _ hr => (pe_mt M_Desk_take W.cl_Desk (hr.mono (by decide)) (passes_call (takes_of rfl rfl rfl rfl) (fun _ _ _ _ h => h)) (pv 0) (pa_cons (pe_ix (ixU (K := K)) (pv 1) pe_int (fun _ _ => rfl)) pa_nil)))))) pss_nil)
  (pss_cons (ps_if (pt_cmpR (eqU (K := K) hr.units) (pe_ix (ixU (K := K)) (pv 1) pe_int (fun _ _ => rfl)) pe_str (nomark _)) (pss_one (ps_ret (LamX.pe_lamcall (T := lamT K) (TT := TCau K) (k := 13) rfl W.g__law_caught hkc lkC hcdC hbc sc__law_caught rfl (.inl rfl) (caught_gives W F__law_sort (hr.mono (by decide))) TB rfl List.mem_cons_self hu (hr.mono (by decide)) (LamX.lamS_by (sc := defScope s__law_did) (by decide +kernel)) rfl (fun _ _ _ _ _ => rfl) (fun _ _ _ _ _ _ _ hr => (pe_mt M_Desk_change W.cl_Desk (hr.mono (by decide)) (passes_call (takes_of rfl rfl rfl rfl) (fun _ _ _ _ h => h)) (pv 0) (pa_cons (pe_ix (ixU (K := K)) (pv 1) pe_int (fun _ _ => rfl)) (pa_cons (pe_ix (ixU (K := K)) (pv 1) pe_int (fun _ _ => rfl)) pa_nil))))))) pss_nil)
  (pss_cons (ps_if (pt_cmpR (eqU (K := K) hr.units) (pe_ix (ixU (K := K)) (pv 1) pe_int (fun _ _ => rfl)) pe_str (nomark _)) (pss_one (ps_ret (LamX.pe_lamcall (T := lamT K) (TT := TCau K) (k := 13) rfl W.g__law_caught hkc lkC hcdC hbc sc__law_caught rfl (.inl rfl) (caught_gives W F__law_sort (hr.mono (by decide))) TB rfl List.mem_cons_self hu (hr.mono (by decide)) (LamX.lamS_by (sc := defScope s__law_did) (by decide +kernel)) rfl (fun _ _ _ _ _ => rfl) (fun _ _ _ _ _ _ _ hr => (pe_mt M_Desk_promise W.cl_Desk (hr.mono (by decide)) (passes_call (takes_of rfl rfl rfl rfl) (fun _ _ _ _ h => h)) (pv 0) (pa_cons (pe_ix (ixU (K := K)) (pv 1) pe_int (fun _ _ => rfl)) pa_nil)))))) pss_nil)
  (pss_cons (ps_if (pt_cmpR (eqU (K := K) hr.units) (pe_ix (ixU (K := K)) (pv 1) pe_int (fun _ _ => rfl)) pe_str (nomark _)) (pss_one (ps_ret (LamX.pe_lamcall (T := lamT K) (TT := TCau K) (k := 13) rfl W.g__law_caught hkc lkC hcdC hbc sc__law_caught rfl (.inl rfl) (caught_gives W F__law_sort (hr.mono (by decide))) TB rfl List.mem_cons_self hu (hr.mono (by decide)) (LamX.lamS_by (sc := defScope s__law_did) (by decide +kernel)) rfl (fun _ _ _ _ _ => rfl) (fun _ _ _ _ _ _ _ hr => (pe_mt M_Desk_lift W.cl_Desk (hr.mono (by decide)) (passes_call (takes_of rfl rfl rfl rfl) (fun _ _ _ _ h => h)) (pv 0) (pa_cons (pe_ix (ixU (K := K)) (pv 1) pe_int (fun _ _ => rfl)) pa_nil)))))) pss_nil)
  (pss_one (ps_ret (LamX.pe_lamcall (T := lamT K) (TT := TCau K) (k := 13) rfl W.g__law_caught hkc lkC hcdC hbc sc__law_caught rfl (.inl rfl) (caught_gives W F__law_sort (hr.mono (by decide))) TB rfl List.mem_cons_self hu (hr.mono (by decide)) (LamX.lamS_by (sc := defScope s__law_did) (by decide +kernel)) rfl (fun _ _ _ _ _ => rfl) (fun _ _ _ _ _ _ _ hr => (pe_mt0 M_Desk_undo W.cl_Desk (hr.mono (by decide)) (passes_call (takes_of rfl rfl rfl rfl) (fun _ _ _ _ h => h)) (pv 0))))))))))), ?_⟩
  have qs : ∀ {c' : S7} {ps' : List S7} {r : PyData}, step c ps e = (c', ps', r) → ∀ v' H', LamX.ExtN (cut H a) H' → LamX.Tabs (lamT K) H' → DeskAt K H' a c' ps' → Rp K H' v' r → Q v' H' := fun {c' ps' r} hs v' H' => by
    rw [hs] at q
    exact q v' H'
  have hD : ∀ {H' : Hp}, Same H H' → EvD K (tVar 1) (start N__law_did [.ref a, v]) H' e.data := fun e' => ev_var rfl (hv.mono e')
  have stay : ∀ {H2 H3 H' : Hp}, Same H H2 → LamX.ExtN H2 H3 → LamX.Tabs (lamT K) H3 → Same H3 H' → LamX.ExtN (cut H a) H' ∧ LamX.Tabs (lamT K) H' ∧ DeskAt K H' a c ps := fun {H2 H3 H'} e2 e3 t3 e' =>
    ⟨(ext_same ((cut_same a).trans e2)).trans (e3.trans (ext_same e')), t3.ext e', ((hd.mono e2).ext e3).mono e'⟩
  have move : ∀ {H2 H3 H4 H' : Hp} {c' : S7} {ps' : List S7} {t : Addr} {o : HO}, Same H H2 → LamX.ExtN H2 H3 → LamX.Tabs (lamT K) H3 → Same H3 H4 → Same (cut H4 a) H' → DeskAt K H' a c' ps' → H' t = none → LamX.ExtN (cut H a) (upd H' t o) ∧ LamX.Tabs (lamT K) (upd H' t o) ∧ DeskAt K (upd H' t o) a c' ps' := fun {H2 H3 H4 H' c' ps' t o} e2 e3 t3 e4 e' hd' ht =>
    ⟨((ext_cut (p := a) ((ext_same e2).trans (e3.trans (ext_same e4)))).trans (ext_same e')).trans (ext_same (same_new ht)), ((((hd.mono e2).ext e3).mono e4).tabs (t3.ext e4)).ext (e'.trans (same_new ht)), hd'.mono (same_new ht)⟩
  have gv : ∀ {H' : Hp} {t : Addr}, Rp K (upd H' t (.tup [.str "gave", .non])) (.ref t) gave := .tup (SqT.of upd_same) (.cons (.str _) (.cons .non .nil))
  cases e with
  | put z =>
    have h0 : ∀ {H' : Hp}, Same H H' → EvD K (tOp (rIx K) (tVar 1) (tC (.int 0))) (start N__law_did [.ref a, v]) H' (.str "put") := fun e' => ev_ixT rfl (hD e') ev_int
    have E0_ : Same H H := Same.refl H
    refine seq_ifT ((et_test (ev_eqS (h0 E0_) ev_str)).as rfl) fun H1 e1 => ?_
    have E1_ := E0_.trans e1
    refine ⟨hT.ext E1_, fun H3 x3 t3 Q2 hQ2 => ?_⟩
    have hd3 : DeskAt K H3 a c ps := (hd.mono E1_).ext x3
    have hv3 := rp_ext x3 (hv.mono E1_)
    have st := fun {H' : Hp} (e : Same H3 H') => stay E1_ x3 t3 e
    have mv := fun {H4 H' : Hp} {c' : S7} {ps' : List S7} {t : Addr} {o : HO} (e4 : Same H3 H4) (e : Same (cut H4 a) H') (h : DeskAt K H' a c' ps') (ht : H' t = none) => move (o := o) E1_ x3 t3 e4 e h ht
    refine dk_call rfl hd3 ?_
    refine (ea_cons (K := K) (ev_ixT (d := .str z) rfl (ev_var rfl hv3) ev_int) ea_nil) H3 (Same.refl _) _ fun vs H4 e4 hvs => ?_
    obtain ⟨u, rfl, hu1⟩ := hvs.one
    cases hu1
    refine ⟨a, c, ps, z, rfl, hd3.mono e4, hps, hok, he, (out_did (W6 (x := "Broken") W (by decide)).2 hQ2 (fun i_ hi t H' e' ht => ?_) fun hn H' t e' hd' ht => ?_)⟩
    · obtain ⟨s1_, s2_, s3_⟩ := st (e4.trans e')
      exact qs (by show fin c ps (c.1 ++ [z]) = _; unfold fin; rw [hi]) _ _ s1_ s2_ s3_ (.tup (SqT.of ht) (.cons (.str _) (.cons (.int _) .nil)))
    · obtain ⟨s1_, s2_, s3_⟩ := mv (o := .tup [.str "gave", .non]) e4 e' hd' ht
      exact qs (by show fin c ps (c.1 ++ [z]) = _; unfold fin; rw [hn]) _ _ s1_ s2_ s3_ gv
  | take i =>
    have h0 : ∀ {H' : Hp}, Same H H' → EvD K (tOp (rIx K) (tVar 1) (tC (.int 0))) (start N__law_did [.ref a, v]) H' (.str "take") := fun e' => ev_ixT rfl (hD e') ev_int
    have E0_ : Same H H := Same.refl H
    refine seq_ifF ((et_test (ev_eqS (h0 E0_) ev_str)).as rfl) fun H1 e1 => ?_
    have E1_ := E0_.trans e1
    refine seq_ifT ((et_test (ev_eqS (h0 E1_) ev_str)).as rfl) fun H2 e2 => ?_
    have E2_ := E1_.trans e2
    refine ⟨hT.ext E2_, fun H3 x3 t3 Q2 hQ2 => ?_⟩
    have hd3 : DeskAt K H3 a c ps := (hd.mono E2_).ext x3
    have hv3 := rp_ext x3 (hv.mono E2_)
    have st := fun {H' : Hp} (e : Same H3 H') => stay E2_ x3 t3 e
    have mv := fun {H4 H' : Hp} {c' : S7} {ps' : List S7} {t : Addr} {o : HO} (e4 : Same H3 H4) (e : Same (cut H4 a) H') (h : DeskAt K H' a c' ps') (ht : H' t = none) => move (o := o) E2_ x3 t3 e4 e h ht
    refine dk_call rfl hd3 ?_
    refine (ea_cons (K := K) (ev_ixT (d := .int i) rfl (ev_var rfl hv3) ev_int) ea_nil) H3 (Same.refl _) _ fun vs H4 e4 hvs => ?_
    obtain ⟨u, rfl, hu1⟩ := hvs.one
    cases hu1
    refine ⟨a, c, ps, i, rfl, hd3.mono e4, hps, hok, he, fun h1 H' e' => ech_few (W6 (x := "TooFew") W (by decide)).2 fun t H'' e'' ht => ?_, fun h1 => (out_did (W6 (x := "Broken") W (by decide)).2 hQ2 (fun i_ hi t H' e' ht => ?_) fun hn H' t e' hd' ht => ?_)⟩
    · obtain ⟨s1_, s2_, s3_⟩ := st ((e4.trans e').trans e'')
      exact qs (if_pos h1) _ _ s1_ s2_ s3_ (.tup (SqT.of ht) (.cons (.str _) (.cons .non .nil)))
    · obtain ⟨s1_, s2_, s3_⟩ := st (e4.trans e')
      exact qs (by rw [step, if_neg h1]; unfold fin; rw [hi]) _ _ s1_ s2_ s3_ (.tup (SqT.of ht) (.cons (.str _) (.cons (.int _) .nil)))
    · obtain ⟨s1_, s2_, s3_⟩ := mv (o := .tup [.str "gave", .non]) e4 e' hd' ht
      exact qs (by rw [step, if_neg h1]; unfold fin; rw [hn]) _ _ s1_ s2_ s3_ gv
  | change i z =>
    have h0 : ∀ {H' : Hp}, Same H H' → EvD K (tOp (rIx K) (tVar 1) (tC (.int 0))) (start N__law_did [.ref a, v]) H' (.str "change") := fun e' => ev_ixT rfl (hD e') ev_int
    have E0_ : Same H H := Same.refl H
    refine seq_ifF ((et_test (ev_eqS (h0 E0_) ev_str)).as rfl) fun H1 e1 => ?_
    have E1_ := E0_.trans e1
    refine seq_ifF ((et_test (ev_eqS (h0 E1_) ev_str)).as rfl) fun H2 e2 => ?_
    have E2_ := E1_.trans e2
    refine seq_ifT ((et_test (ev_eqS (h0 E2_) ev_str)).as rfl) fun H3 e3 => ?_
    have E3_ := E2_.trans e3
    refine ⟨hT.ext E3_, fun H3 x3 t3 Q2 hQ2 => ?_⟩
    have hd3 : DeskAt K H3 a c ps := (hd.mono E3_).ext x3
    have hv3 := rp_ext x3 (hv.mono E3_)
    have st := fun {H' : Hp} (e : Same H3 H') => stay E3_ x3 t3 e
    have mv := fun {H4 H' : Hp} {c' : S7} {ps' : List S7} {t : Addr} {o : HO} (e4 : Same H3 H4) (e : Same (cut H4 a) H') (h : DeskAt K H' a c' ps') (ht : H' t = none) => move (o := o) E3_ x3 t3 e4 e h ht
    refine dk_call rfl hd3 ?_
    refine (ea_cons (K := K) (ev_ixT (d := .int i) rfl (ev_var rfl hv3) ev_int) (ea_cons (ev_ixT (d := .str z) rfl (ev_var rfl hv3) ev_int) ea_nil)) H3 (Same.refl _) _ fun vs H4 e4 hvs => ?_
    obtain ⟨u, u2, rfl, hu1, hu2⟩ := hvs.two
    cases hu1
    cases hu2
    refine ⟨a, c, ps, z, i, rfl, hd3.mono e4, hps, hok, he.1, he.2, (out_did (W6 (x := "Broken") W (by decide)).2 hQ2 (fun i_ hi t H' e' ht => ?_) fun hn H' t e' hd' ht => ?_)⟩
    · obtain ⟨s1_, s2_, s3_⟩ := st (e4.trans e')
      exact qs (by show fin c ps (chg c.1 i z) = _; unfold fin; rw [hi]) _ _ s1_ s2_ s3_ (.tup (SqT.of ht) (.cons (.str _) (.cons (.int _) .nil)))
    · obtain ⟨s1_, s2_, s3_⟩ := mv (o := .tup [.str "gave", .non]) e4 e' hd' ht
      exact qs (by show fin c ps (chg c.1 i z) = _; unfold fin; rw [hn]) _ _ s1_ s2_ s3_ gv
  | promise x =>
    have h0 : ∀ {H' : Hp}, Same H H' → EvD K (tOp (rIx K) (tVar 1) (tC (.int 0))) (start N__law_did [.ref a, v]) H' (.str "promise") := fun e' => ev_ixT rfl (hD e') ev_int
    have E0_ : Same H H := Same.refl H
    refine seq_ifF ((et_test (ev_eqS (h0 E0_) ev_str)).as rfl) fun H1 e1 => ?_
    have E1_ := E0_.trans e1
    refine seq_ifF ((et_test (ev_eqS (h0 E1_) ev_str)).as rfl) fun H2 e2 => ?_
    have E2_ := E1_.trans e2
    refine seq_ifF ((et_test (ev_eqS (h0 E2_) ev_str)).as rfl) fun H3 e3 => ?_
    have E3_ := E2_.trans e3
    refine seq_ifT ((et_test (ev_eqS (h0 E3_) ev_str)).as rfl) fun H4 e4 => ?_
    have E4_ := E3_.trans e4
    refine ⟨hT.ext E4_, fun H3 x3 t3 Q2 hQ2 => ?_⟩
    have hd3 : DeskAt K H3 a c ps := (hd.mono E4_).ext x3
    have hv3 := rp_ext x3 (hv.mono E4_)
    have st := fun {H' : Hp} (e : Same H3 H') => stay E4_ x3 t3 e
    have mv := fun {H4 H' : Hp} {c' : S7} {ps' : List S7} {t : Addr} {o : HO} (e4 : Same H3 H4) (e : Same (cut H4 a) H') (h : DeskAt K H' a c' ps') (ht : H' t = none) => move (o := o) E4_ x3 t3 e4 e h ht
    refine dk_call rfl hd3 ?_
    refine (ea_cons (K := K) (ev_ixT (d := x.data) rfl (ev_var rfl hv3) ev_int) ea_nil) H3 (Same.refl _) _ fun vs H4 e4 hvs => ?_
    obtain ⟨u, rfl, hu1⟩ := hvs.one
    refine ⟨a, c, ps, u, x, rfl, hd3.mono e4, hps, hok, he, hu1, (out_did (W6 (x := "Broken") W (by decide)).2 hQ2 (fun i_ hi t H' e' ht => ?_) fun hn H' t e' hd' ht => ?_)⟩
    · obtain ⟨s1_, s2_, s3_⟩ := st (e4.trans e')
      cases hk : keeps c.1 x with
      | true => rw [hk] at hi; cases hi
      | false =>
        rw [hk] at hi
        cases hi
        exact qs (by rw [step, hk]; rfl) _ _ s1_ s2_ s3_ (.tup (SqT.of ht) (.cons (.str _) (.cons (.int _) .nil)))
    · obtain ⟨s1_, s2_, s3_⟩ := mv (o := .tup [.str "gave", .non]) e4 e' hd' ht
      cases hk : keeps c.1 x with
      | false => rw [hk] at hn; cases hn
      | true => exact qs (by rw [step, hk]; rfl) _ _ s1_ s2_ s3_ gv
  | lift d =>
    have h0 : ∀ {H' : Hp}, Same H H' → EvD K (tOp (rIx K) (tVar 1) (tC (.int 0))) (start N__law_did [.ref a, v]) H' (.str "lift") := fun e' => ev_ixT rfl (hD e') ev_int
    have E0_ : Same H H := Same.refl H
    refine seq_ifF ((et_test (ev_eqS (h0 E0_) ev_str)).as rfl) fun H1 e1 => ?_
    have E1_ := E0_.trans e1
    refine seq_ifF ((et_test (ev_eqS (h0 E1_) ev_str)).as rfl) fun H2 e2 => ?_
    have E2_ := E1_.trans e2
    refine seq_ifF ((et_test (ev_eqS (h0 E2_) ev_str)).as rfl) fun H3 e3 => ?_
    have E3_ := E2_.trans e3
    refine seq_ifF ((et_test (ev_eqS (h0 E3_) ev_str)).as rfl) fun H4 e4 => ?_
    have E4_ := E3_.trans e4
    refine seq_ifT ((et_test (ev_eqS (h0 E4_) ev_str)).as rfl) fun H5 e5 => ?_
    have E5_ := E4_.trans e5
    refine ⟨hT.ext E5_, fun H3 x3 t3 Q2 hQ2 => ?_⟩
    have hd3 : DeskAt K H3 a c ps := (hd.mono E5_).ext x3
    have hv3 := rp_ext x3 (hv.mono E5_)
    have st := fun {H' : Hp} (e : Same H3 H') => stay E5_ x3 t3 e
    have mv := fun {H4 H' : Hp} {c' : S7} {ps' : List S7} {t : Addr} {o : HO} (e4 : Same H3 H4) (e : Same (cut H4 a) H') (h : DeskAt K H' a c' ps') (ht : H' t = none) => move (o := o) E5_ x3 t3 e4 e h ht
    refine dk_call rfl hd3 ?_
    refine (ea_cons (K := K) (ev_ixT (d := d) rfl (ev_var rfl hv3) ev_int) ea_nil) H3 (Same.refl _) _ fun vs H4 e4 hvs => ?_
    obtain ⟨u, rfl, hu1⟩ := hvs.one
    refine ⟨a, c, ps, u, d, rfl, hd3.mono e4, hps, hok, he, hu1, fun hk H' dd e' hdd => ech_num (W6 (x := "InvalidNumber") W (by decide)).2 hdd fun t H'' e'' ht => ?_, fun i hi hl H' e' hd' => hQ2 _ _ fun t ht => ?_⟩
    · obtain ⟨s1_, s2_, s3_⟩ := st ((e4.trans e').trans e'')
      exact qs (by rw [step, hk]; rfl) _ _ s1_ s2_ s3_ (.tup (SqT.of ht) (.cons (.str _) (.cons (hu1.mono (e'.trans e'')) .nil)))
    · obtain ⟨s1_, s2_, s3_⟩ := mv (o := .tup [.str "gave", .non]) e4 e' hd' ht
      subst hi
      have hw : withinD (.int (i : Nat)) 0 ((c.2.length : Int) - 1) = true := by
        show (decide ((0 : Int) ≤ (i : Nat)) && decide (((i : Nat) : Int) ≤ (c.2.length : Int) - 1)) = true
        rw [decide_eq_true (by omega), decide_eq_true (by omega)]
        rfl
      exact qs (by rw [step, hw]; rfl) _ _ s1_ s2_ s3_ gv
  | undo =>
    have h0 : ∀ {H' : Hp}, Same H H' → EvD K (tOp (rIx K) (tVar 1) (tC (.int 0))) (start N__law_did [.ref a, v]) H' (.str "undo") := fun e' => ev_ixT rfl (hD e') ev_int
    have E0_ : Same H H := Same.refl H
    refine seq_ifF ((et_test (ev_eqS (h0 E0_) ev_str)).as rfl) fun H1 e1 => ?_
    have E1_ := E0_.trans e1
    refine seq_ifF ((et_test (ev_eqS (h0 E1_) ev_str)).as rfl) fun H2 e2 => ?_
    have E2_ := E1_.trans e2
    refine seq_ifF ((et_test (ev_eqS (h0 E2_) ev_str)).as rfl) fun H3 e3 => ?_
    have E3_ := E2_.trans e3
    refine seq_ifF ((et_test (ev_eqS (h0 E3_) ev_str)).as rfl) fun H4 e4 => ?_
    have E4_ := E3_.trans e4
    refine seq_ifF ((et_test (ev_eqS (h0 E4_) ev_str)).as rfl) fun H5 e5 => ?_
    have E5_ := E4_.trans e5
    refine ⟨hT.ext E5_, fun H3 x3 t3 Q2 hQ2 => ?_⟩
    have hd3 : DeskAt K H3 a c ps := (hd.mono E5_).ext x3
    have hv3 := rp_ext x3 (hv.mono E5_)
    have st := fun {H' : Hp} (e : Same H3 H') => stay E5_ x3 t3 e
    have mv := fun {H4 H' : Hp} {c' : S7} {ps' : List S7} {t : Addr} {o : HO} (e4 : Same H3 H4) (e : Same (cut H4 a) H') (h : DeskAt K H' a c' ps') (ht : H' t = none) => move (o := o) E5_ x3 t3 e4 e h ht
    refine dk_call rfl hd3 ?_
    refine ⟨a, c, ps, rfl, hd3, hps, fun hn H' e' => ech_undo (W6 (x := "NothingToUndo") W (by decide)).2 fun t H'' e'' ht => ?_, fun ys c' hn H' e' hd' => hQ2 _ _ fun t ht => ?_⟩
    · obtain ⟨s1_, s2_, s3_⟩ := st (e'.trans e'')
      subst hn
      exact qs rfl _ _ s1_ s2_ s3_ (.tup (SqT.of ht) (.cons (.str _) (.cons .non .nil)))
    · obtain ⟨s1_, s2_, s3_⟩ := mv (o := .tup [.str "gave", .non]) (Same.refl _) e' hd' ht
      subst hn
      exact qs (c' := c') (ps' := ys) (by rw [step, List.getLast?_append]; simp) _ _ s1_ s2_ s3_ gv
end
end K7

set_option Elab.async false
set_option linter.all false
set_option maxRecDepth 100000
set_option maxHeartbeats 4000000
namespace K7
open PySem PySem.Spec PyProof.Rows L2
/-! ### data that can be written out -/
structure Sh (n L : Nat) (d : PyData) : Prop where
  sh : d.showable = true
  nd : d.hasDict = false
  ni : noI d = true
  dp : d.depth ≤ n
  ln : d.shown.length ≤ L
theorem Sh.up {n m L M : Nat} {d : PyData} (h : Sh n L d) (a : n ≤ m) (b : L ≤ M) : Sh m M d := ⟨h.sh, h.nd, h.ni, Nat.le_trans h.dp a, Nat.le_trans h.ln b⟩
theorem sh_non : Sh 0 2000 .none := ⟨rfl, rfl, rfl, by decide, by decide⟩
theorem sh_bool (b : Bool) : Sh 0 2000 (.bool b) := by cases b <;> exact ⟨rfl, rfl, rfl, by decide, by decide⟩
theorem sh_int {i : Int} (h : i.natAbs.log2 < 1920) : Sh 0 2000 (.int i) := ⟨by simpa [PyData.showable] using h, by simp [PyData.hasDict], rfl, by simp [PyData.depth], by
  have := PyProof.Rows.int_text_len_1921 h
  simp only [PyData.shown]
  exact Nat.le_trans this (by decide)⟩
theorem sh_nat {k : Nat} (h : k ≤ 1000) : Sh 0 2000 (.int (k : Nat)) := sh_int (Nat.lt_of_le_of_lt (Nat.log2_le_self _) (by omega))
theorem sh_str {x : Str} (h : ∀ c ∈ cods x, c < 16 ^ 8) (hl : (cods x).length ≤ 150) : Sh 0 2000 (.str x) := ⟨rfl, rfl, rfl, by simp [PyData.depth], by
  have := StrLaws.reprText_len x h
  have e : x.length = (cods x).length := len_cods x
  simp only [PyData.shown]
  omega⟩
theorem sh_all {n L : Nat} : ∀ {ds : List PyData}, (∀ x ∈ ds, Sh n L x) → PyData.showableAll ds = true ∧ PyData.hasDictAll ds = false ∧ noIAll ds = true ∧ PyData.depthAll ds ≤ n ∧ ((PyData.shownAll ds).map (·.length)).sum ≤ ds.length * L ∧ (PyData.shownAll ds).length = ds.length
  | [], _ => ⟨rfl, rfl, rfl, Nat.zero_le _, by simp [PyData.shownAll], rfl⟩
  | d :: ds, h => by
    obtain ⟨h1, h2, h3, h4, h5, h6⟩ := sh_all (ds := ds) fun x hx => h x (List.mem_cons_of_mem _ hx)
    have g := h d List.mem_cons_self
    refine ⟨?_, ?_, ?_, ?_, ?_, ?_⟩
    · simp [PyData.showableAll, g.sh, h1]
    · simp [PyData.hasDictAll, g.nd, h2]
    · simp [noIAll, g.ni, h3]
    · have := g.dp
      simp only [PyData.depthAll]
      omega
    · have := g.ln
      simp only [PyData.shownAll, List.map_cons, List.sum_cons, List.length_cons]
      have e : (ds.length + 1) * L = ds.length * L + L := Nat.succ_mul _ _
      omega
    · simp only [PyData.shownAll, List.length_cons, h6]
theorem sh_tup {n L k : Nat} {ds : List PyData} (h : ∀ x ∈ ds, Sh n L x) (hl : ds.length ≤ k) : Sh (n + 1) (k * (L + 2) + 3) (.tuple ds) := by
  obtain ⟨h1, h2, h3, h4, h5, h6⟩ := sh_all h
  refine ⟨by simpa [PyData.showable] using h1, by simpa [PyData.hasDict] using h2, by simpa [noI] using h3, by simp only [PyData.depth]; omega, ?_⟩
  have := tupleText_len_le (PyData.shownAll ds)
  have e : ds.length * (L + 2) = ds.length * L + ds.length * 2 := Nat.mul_add _ _ _
  have e2 : ds.length * (L + 2) ≤ k * (L + 2) := Nat.mul_le_mul_right _ hl
  simp only [PyData.shown]
  omega
theorem sh_lst {n L k : Nat} {ds : List PyData} (h : ∀ x ∈ ds, Sh n L x) (hl : ds.length ≤ k) : Sh (n + 1) (k * (L + 2) + 3) (.list ds) := by
  obtain ⟨h1, h2, h3, h4, h5, h6⟩ := sh_all h
  refine ⟨by simpa [PyData.showable] using h1, by simpa [PyData.hasDict] using h2, by simpa [noI] using h3, by simp only [PyData.depth]; omega, ?_⟩
  have := listText_len_le (PyData.shownAll ds)
  have e : ds.length * (L + 2) = ds.length * L + ds.length * 2 := Nat.mul_add _ _ _
  have e2 : ds.length * (L + 2) ≤ k * (L + 2) := Nat.mul_le_mul_right _ hl
  simp only [PyData.shown]
  omega
theorem sh_lot {z : Str} (h : Lot z) : Sh 0 2000 (.str z) := sh_str (fun c hc => by have := (h.az c hc).2; omega) (by have := h.le; omega)
theorem joinL_mem {S : List Nat} : ∀ {l : List (List Nat)} {c : Nat}, c ∈ TL.joinL S l → c ∈ S ∨ ∃ w ∈ l, c ∈ w
  | [], _, h => by cases h
  | [p], _, h => .inr ⟨p, List.mem_cons_self, h⟩
  | p :: q :: r, c, h => by
    rcases List.mem_append.mp h with h | h
    · exact .inr ⟨p, List.mem_cons_self, h⟩
    · rcases List.mem_append.mp h with h | h
      · exact .inl h
      · rcases joinL_mem (l := q :: r) h with h | ⟨w, hw, hc⟩
        · exact .inl h
        · exact .inr ⟨w, List.mem_cons_of_mem _ hw, hc⟩
theorem joinL_len {S : List Nat} {k : Nat} : ∀ {l : List (List Nat)}, (∀ w ∈ l, w.length ≤ k) → (TL.joinL S l).length ≤ l.length * (k + S.length)
  | [], _ => Nat.zero_le _
  | [p], h => by
    have := h p List.mem_cons_self
    show p.length ≤ 1 * (k + S.length)
    omega
  | p :: q :: r, h => by
    have h1 := h p List.mem_cons_self
    have h2 := joinL_len (S := S) (l := q :: r) fun w hw => h w (List.mem_cons_of_mem _ hw)
    have e : (p :: q :: r).length * (k + S.length) = (q :: r).length * (k + S.length) + (k + S.length) := Nat.succ_mul _ _
    show (p ++ (S ++ TL.joinL S (q :: r))).length ≤ _
    rw [List.length_append, List.length_append, e]
    omega
theorem sh_told {ws : List Str} (g : Gw ws) : Sh 0 2000 (.str (Txt.join (" " : Str) ws)) := by
  have e : cods (Txt.join (" " : Str) ws) = TL.joinL (cods " ") (ws.map cods) := by
    have e := TL.tl_join (" " : Str) ws
    rw [← TL.join_eq] at e
    exact e
  refine sh_str (fun c hc => ?_) ?_
  · rw [e] at hc
    rcases joinL_mem hc with h | ⟨w, hw, h⟩
    · have : c ∈ [32] := h
      rw [List.mem_singleton.mp this]
      decide
    · obtain ⟨z, hz, rfl⟩ := List.mem_map.mp hw
      have := ((g.lot z hz).az c h).2
      omega
  · rw [e]
    have h1 := joinL_len (S := cods " ") (k := 8) (l := ws.map cods) fun w hw => by
      obtain ⟨z, hz, rfl⟩ := List.mem_map.mp hw
      exact (g.lot z hz).le
    have h2 : (cods " ").length = 1 := rfl
    have := g.le
    rw [h2, List.length_map] at h1
    omega
theorem sh_wish {x : Wish} (h : x.ok) : Sh 1 4007 x.data := by
  have two : ∀ {n : Str} {d : PyData}, Sh 0 2000 (.str n) → Sh 0 2000 d → Sh 1 4007 (.tuple [.str n, d]) := fun h1 h2 => sh_tup (k := 2) (fun y hy => by
    rcases List.mem_cons.mp hy with rfl | hy
    · exact h1
    · rw [List.mem_singleton.mp hy]; exact h2) (Nat.le_refl _)
  have nm : ∀ n : Str, (n = "few" ∨ n = "folds" ∨ n = "has") → Sh 0 2000 (.str n) := fun n hn => by
    rcases hn with rfl | rfl | rfl <;> exact sh_str (by decide) (by decide)
  cases x with
  | few => exact two (nm _ (.inl rfl)) (sh_nat (k := 5) (by decide))
  | folds => exact two (nm _ (.inr (.inl rfl))) (sh_nat (k := 9) (by decide))
  | has w => exact two (nm _ (.inr (.inr rfl))) (sh_lot h)
def shD (c : S7) (ps : List S7) : PyData := .list [tws c.1, .str (Txt.join (" " : Str) c.1), wsD c.2, .int (ps.length : Nat)]
theorem sh_shD {c : S7} {ps : List S7} (h : c.Ok) (hp : ps.length ≤ 100) : Sh 3 1603623 (shD c ps) := sh_lst (k := 4) (n := 2) (L := 400903) (fun x hx => by
  have hle := h.le
  rcases List.mem_cons.mp hx with rfl | hx
  · exact (sh_tup (k := 6) (n := 0) (L := 2000) (fun y hy => by obtain ⟨w, hw, rfl⟩ := List.mem_map.mp hy; exact sh_lot (h.g.lot w hw)) (by rw [List.length_map]; exact h.g.le)).up (by decide) (by decide)
  · rcases List.mem_cons.mp hx with rfl | hx
    · exact (sh_told h.g).up (by decide) (by decide)
    · rcases List.mem_cons.mp hx with rfl | hx
      · exact (sh_tup (k := 100) (n := 1) (L := 4007) (fun y hy => by obtain ⟨w, hw, rfl⟩ := List.mem_map.mp hy; exact sh_wish (h.ok w hw)) (by rw [List.length_map]; exact hle)).up (by decide) (by decide)
      · rw [List.mem_singleton.mp hx]
        exact (sh_nat (k := ps.length) (by omega)).up (by decide) (by decide)) (Nat.le_refl _)
/-- a list or a tuple -/
def isSq : PyData → Bool
  | .list _ => true
  | .tuple _ => true
  | _ => false
theorem rp_ref {K : PySem.W.Frag} {H : Hp} {v : V} {d : PyData} (h : Rp K H v d) (s : isSq d = true) : ∃ a, v = .ref a := by
  cases h with
  | lst _ _ => exact ⟨_, rfl⟩
  | tup _ _ => exact ⟨_, rfl⟩
  | _ => cases s
theorem repr_of {K : PySem.W.Frag} {H : Hp} {v : V} {d : PyData} {Q : VK} (h : Rp K H v d) (s : isSq d = true) (g : Sh 50 2000000 d) (q : Q (.str d.shown) H) : rRepr K [v] H Q := by
  obtain ⟨a, rfl⟩ := rp_ref h s
  exact ⟨a, d, rfl, h.dp g.ni, g.sh, g.nd, g.dp, by rw [sizeLine_eq]; have := g.ln; omega, q⟩
theorem ev_repr {K : PySem.W.Frag} {σ : L2.St} {H : Hp} {ta : TE} {d : PyData} (ha : EvD K ta σ H d) (s : isSq d = true) (g : Sh 50 2000000 d) : EvD K (tCB (rRepr K) (tCons ta tNil)) σ H (.str d.shown) :=
  ev_cb1 ha fun v H1 e1 hv Q q => repr_of hv s g (q _ H1 (Same.refl _) (.str _))
/-! ### == of lots -/
theorem rcG_mt {X : Cx} {CX : CXT} {n : Nat} {C : Addr} {R : Addr → Addr → Hp → Prop} {E : XK} (M : Mt X.prog X.w X.K X.mg X.base CX n C "__eq__" ["self", "other"] (spEq R)) (hx : Passes CX X E) : RcG X n (DIns C R) := by
  obtain ⟨f, fd, F, m, b⟩ := M.ex
  exact rcG_ins F m.at_ m.fn b hx
theorem ev_eqLots {K : PySem.W.Frag} {σ : L2.St} {H : Hp} {ta tb : TE} {ws : List Str} (g : Gw ws) (ha : EvD K ta σ H (LDw K ws)) (hb : EvD K tb σ H (LDw K ws)) : EvD K (tOp (rEqG (DIns (He.ga K "Lots") (REq K))) ta tb) σ H (.bool true) :=
  ev_op2 ha hb fun v w H1 e1 hv hw Q q => by
    cases hv with
    | lots h1 h2 h3 =>
      cases hw with
      | lots k1 k2 k3 => exact ⟨⟨_, _, _, _, _, _, rfl, rfl, h1, k1, ws, _, _, .lots h1 h2 h3, .lots k1 k2 k3, g⟩, fun H' e => q _ H' e (.bl true)⟩
section
variable {P : Program} {w : World} {K : PySem.W.Frag} {mg : Str → Option Value} {base : Heap}
def spShows (K : PySem.W.Frag) : Sp := fun vs H Q _ => ∃ a c ps u x, vs = [.ref a, u, x, .int (ps.length : Nat)] ∧ DeskAt K H a c ps ∧ Rp K H u (tws c.1) ∧ Rp K H x (wsD c.2) ∧ ps.length ≤ 100 ∧ S7.Ok c ∧ ∀ H', Same H H' → Q (.bl true) H'

theorem ok__law_shows (W : Wr P w K mg base) (G_Desk_lots : Gt P w K mg base CX0 1 (He.ga K "Desk") "lots" (spDk K (fLots K))) (G_Desk_promises : Gt P w K mg base CX0 1 (He.ga K "Desk") "promises" (spDk K (fProm))) (G_Desk_changes : Gt P w K mg base CX0 1 (He.ga K "Desk") "changes" (spDk K (fChan))) (G_Lots_lots : Gt P w K mg base CX0 1 (He.ga K "Lots") "lots" (spD K (PWords (He.ga K "Lots")))) (M_Lots___str__ : Mt P w K mg base CX0 1 (He.ga K "Lots") "__str__" ["self"] (spD K (PStr (He.ga K "Lots")))) (I_Lots : Ini P w K mg base CX0 4 "Lots" (He.ga K "Lots") ["self", "lots"] (spInit (He.ga K "Lots") K PInit)) (M_Lots___eq__ : Mt P w K mg base CX0 1 (He.ga K "Lots") "__eq__" ["self", "other"] (spEq (REq K))) : FG P w K mg base 8 "_law_shows" ["_law_desk_here", "_law_words_here", "_law_wants", "_law_many"] (spShows K) := by
  obtain ⟨fdg, Fg⟩ := W.d__law_shows
  have hbg := Fg.bindsN (ps := ["_law_desk_here", "_law_words_here", "_law_wants", "_law_many"]) (fun _ _ _ _ _ _ us hl => match us, hl with | [_, _, _, _], _ => rfl)
  have hkg := Fg.kp
  obtain ⟨ocG, odG, dVG, kVG, docG, pmG, anG, cdvG, ctG, oslG, rfl, lkG, hcdG, _, _⟩ := Fg.ex
  refine ⟨_, _, fng_of (k := 7) lkG hcdG sc__law_shows (fun vs H Q h => ?_) (fun A outer s H vs Q hr hg h => ?_), W.g__law_shows, hkg, hbg⟩
  · obtain ⟨a, c, ps, u, x, rfl, _⟩ := h
    rfl
  · refine ⟨_, PSs.nox (pss_cons (setU (i := 4) sc__law_shows.nd (pe_lst (pa_cons (pe_gt G_Lots_lots W.cl_Lots (hr.mono (by decide)) pass0 (pe_gt G_Desk_lots W.cl_Desk (hr.mono (by decide)) pass0 (pv 0))) (pa_cons (pe_callTy (cr_strO M_Lots___str__ (hr.mono (by decide)) pass0) rfl W.n_str bt_str (pa_cons (pe_gt G_Desk_lots W.cl_Desk (hr.mono (by decide)) pass0 (pv 0)) pa_nil)) (pa_cons (pe_gt G_Desk_promises W.cl_Desk (hr.mono (by decide)) pass0 (pv 0)) (pa_cons (pe_gt G_Desk_changes W.cl_Desk (hr.mono (by decide)) pass0 (pv 0)) pa_nil))))))
  (pss_one (ps_ret (pe_and (pe_cmpR (eqU (K := K) hr.units) (pe_callB (cr_repr (K := K) hg hr.units) rfl W.n_repr bt_repr (pa_cons (pv 4) pa_nil)) (pe_callB (cr_repr (K := K) hg hr.units) rfl W.n_repr bt_repr (pa_cons (pe_lst (pa_cons (pv 1) (pa_cons (joinU (K := K) pe_str (pv 1)) (pa_cons (pv 2) (pa_cons (pv 3) pa_nil))))) pa_nil)) (nomark _)) (pe_one (pe_cmpR (op_eqG (rcG_mt M_Lots___eq__ pass0) (hr.mono (by decide))) (pe_gt G_Desk_lots W.cl_Desk (hr.mono (by decide)) pass0 (pv 0)) (pe_ini I_Lots (hr.mono (by decide)) rfl pass0 (pa_cons (pv 1) pa_nil)) (nomark _))))))), ?_⟩
    obtain ⟨a, c, ps, u, x, rfl, hd, hu, hx, hps, hok, q⟩ := h
    have hg := hok.g
    have hle := hg.le
    have htot := hg.tot
    have hL : ∀ {σ : L2.St} {H' : Hp}, σ[0]? = some (some (.ref a)) → Same H H' → EvD K (tProp (He.ga K "Desk") (spDk K (fLots K)) [] E0 (tVar 0)) σ H' (LDw K c.1) := fun e0 e => ev_dk (f := fLots K) e0 (hd.mono e)
    have hs : Sh 50 2000000 (shD c ps) := (sh_shD hok hps).up (by decide) (by decide)
    refine (eb_set (d := shD c ps) (ev_lst (ds := [tws c.1, .str (Txt.join (" " : Str) c.1), wsD c.2, .int (ps.length : Nat)]) (sz (by show 4 ≤ 100000; decide)) (ea_cons (ev_prop (P := PWords (He.ga K "Lots")) (hL rfl (Same.refl _)) ⟨_, _, rfl, rfl⟩) (ea_cons (ev_strO (P := PStr (He.ga K "Lots")) (hL rfl (Same.refl _)) ⟨c.1, _, rfl, hg, rfl⟩) (ea_cons (ev_dk (f := fProm) rfl hd) (ea_cons (ev_dk (f := fChan) rfl hd) ea_nil))))) fun v H1 e1 hv => ?_ : EvB K _ _ H (.bool true)) H (Same.refl _) _ fun v H' e hv => by cases hv; exact q H' e
    refine eb_ret ((ev_and (b := true) (c := true) ((ev_eqS (ev_repr (ev_var rfl hv) rfl hs) (ev_repr (d := shD c ps) (ev_lst (ds := [tws c.1, .str (Txt.join (" " : Str) c.1), wsD c.2, .int (ps.length : Nat)]) (sz (by show 4 ≤ 100000; decide)) (ea_cons (ev_var rfl (hu.mono e1)) (ea_cons (ev_joinT (a := " ") (ys := c.1) (by rw [sum_lens, show (" " : Str).length = 1 from rfl]; omega) ev_str (ev_var rfl (hu.mono e1))) (ea_cons (ev_var rfl (hx.mono e1)) (ea_cons (ev_var (d := .int (ps.length : Nat)) rfl (.int _)) ea_nil))))) rfl hs)).as (congrArg PyData.bool (decide_eq_true rfl))) fun _ => ev_eqLots hg (hL rfl e1) (ev_make (P := PInit) (ea_cons (ev_var rfl (hu.mono e1)) ea_nil) ⟨c.1, rfl, hg, hok.ne, rfl⟩)).as rfl)

end
end K7

set_option Elab.async false
set_option linter.all false
set_option maxRecDepth 100000
set_option maxHeartbeats 4000000
namespace K7
open PySem PySem.Spec PyProof.Rows L2
/-! ### states, step by step -/
def St (i : Nat) (x : S7) : Prop := x.Ok ∧ x.1.length ≤ 5 ∧ x.2.length ≤ i
theorem St.up {i j : Nat} {x : S7} (h : St i x) (l : i ≤ j) : St j x := ⟨h.1, h.2.1, Nat.le_trans h.2.2 l⟩
structure RsOk (r : PyData) : Prop where
  sh : Sh 50 2000000 r
  fr : Fr 2 r
  sq : isSq r = true
theorem rs_two {n : Str} {d : PyData} (hn : ∀ c ∈ cods n, c < 16 ^ 8) (hl : (cods n).length ≤ 150) (hd : Sh 3 9000 d) (hf : Fr 1 d) : RsOk (.tuple [.str n, d]) :=
  ⟨(sh_tup (n := 3) (L := 9000) (k := 2) (fun y hy => by
    rcases List.mem_cons.mp hy with rfl | hy
    · exact (sh_str hn hl).up (by decide) (by decide)
    · rw [List.mem_singleton.mp hy]; exact hd) (Nat.le_refl _)).up (by decide) (by decide), fr_tup fun x hx => by
    rcases List.mem_cons.mp hx with rfl | hx
    · exact fr_up rfl
    · rw [List.mem_singleton.mp hx]; exact hf, rfl⟩
theorem rs_gave : RsOk gave := rs_two (by decide) (by decide) (sh_non.up (by decide) (by decide)) (fr_up rfl)
theorem rs_brk {i : Nat} (h : i ≤ 1000) : RsOk (.tuple [.str "broken", .int i]) := rs_two (by decide) (by decide) ((sh_nat h).up (by decide) (by decide)) (fr_up rfl)
theorem sh_odd {n : Nat} {d : PyData} (hn : n ≤ 100) (h : Odd n d) : Sh 3 9000 d := by
  have neg : ∀ k : Nat, k ≤ 1000 → Sh 0 2000 (.int (-(k : Int))) := fun k hk => sh_int (by rw [Int.natAbs_neg, Int.natAbs_natCast]; exact Nat.lt_of_le_of_lt (Nat.log2_le_self _) (by omega))
  rcases h with ⟨k, hk, rfl⟩ | h
  · exact (sh_nat (by omega)).up (by decide) (by decide)
  · simp only [odds, List.mem_cons, List.not_mem_nil, or_false] at h
    rcases h with rfl | rfl | rfl | rfl | rfl | rfl | rfl | rfl | rfl | rfl | rfl
    · exact (neg 1 (by decide)).up (by decide) (by decide)
    · exact (sh_nat (by omega)).up (by decide) (by decide)
    · exact (sh_nat (k := n + 1) (by omega)).up (by decide) (by decide)
    · exact sh_non.up (by decide) (by decide)
    · exact (sh_bool _).up (by decide) (by decide)
    · exact (sh_bool _).up (by decide) (by decide)
    · exact (sh_str (by decide) (by decide)).up (by decide) (by decide)
    · exact (sh_tup (n := 0) (L := 2000) (k := 1) (fun y hy => by rw [List.mem_singleton.mp hy]; exact sh_nat (k := 0) (by decide)) (Nat.le_refl _)).up (by decide) (by decide)
    · exact (sh_lst (n := 0) (L := 2000) (k := 0) (fun y hy => by cases hy) (Nat.le_refl _)).up (by decide) (by decide)
    · exact (sh_int (by decide +kernel)).up (by decide) (by decide)
    · exact (neg n (by omega)).up (by decide) (by decide)
theorem firstB_lt {ws : List Str} {l : List Wish} {i : Nat} (h : firstB ws l = some i) : i < l.length := (List.findIdx?_eq_some_iff_getElem.mp h).1
/-- what a step leaves -/
structure StepOk (i : Nat) (c : S7) (ps : List S7) (t : S7 × List S7 × PyData) : Prop where
  all : ∀ x ∈ t.2.1 ++ [t.1], St (i + 1) x
  len : t.2.1.length ≤ ps.length + 1
  head : (t.2.1 ++ [t.1])[0]? = (ps ++ [c])[0]?
  rs : RsOk t.2.2
theorem so_same {i : Nat} {c : S7} {ps : List S7} {r : PyData} (h : ∀ x ∈ ps ++ [c], St i x) (hr : RsOk r) : StepOk i c ps (c, ps, r) := ⟨fun x hx => (h x hx).up (Nat.le_succ i), Nat.le_succ _, rfl, hr⟩
theorem so_new {i : Nat} {c n : S7} {ps : List S7} (h : ∀ x ∈ ps ++ [c], St i x) (hn : St (i + 1) n) : StepOk i c ps (n, ps ++ [c], gave) :=
  ⟨fun x hx => by
    rcases List.mem_append.mp hx with hx | hx
    · exact (h x hx).up (Nat.le_succ i)
    · rw [List.mem_singleton.mp hx]; exact hn, by show (ps ++ [c]).length ≤ _; rw [List.length_append]; exact Nat.le_refl _, by
    show ((ps ++ [c]) ++ [n])[0]? = _
    rw [List.getElem?_append_left (by rw [List.length_append]; exact Nat.succ_pos _)], rs_gave⟩
theorem so_fin {i : Nat} {c : S7} {ps : List S7} {ws : List Str} (h : ∀ x ∈ ps ++ [c], St i x) (g : Gw ws) (ne : ws ≠ []) (hl : ws.length ≤ 5) : StepOk i c ps (fin c ps ws) := by
  have hc := h c (List.mem_append_right _ List.mem_cons_self)
  unfold fin
  cases hf : firstB ws c.2 with
  | some j => exact so_same h (rs_brk (by have := firstB_lt hf; have := hc.1.le; omega))
  | none => exact so_new h ⟨⟨g, ne, hc.1.ok, hc.1.le⟩, hl, Nat.le_succ_of_le hc.2.2⟩
theorem step_ok {i : Nat} {c : S7} {ps : List S7} {e : Deed} (h : ∀ x ∈ ps ++ [c], St i x) (hi : i ≤ 50) (he : DeedOk c e) : StepOk i c ps (step c ps e) := by
  have hc := h c (List.mem_append_right _ List.mem_cons_self)
  obtain ⟨hok, h5, hli⟩ := hc
  obtain ⟨he, hodd, hput⟩ := he
  have hle := hok.le
  cases e with
  | undo =>
    rcases List.eq_nil_or_concat ps with rfl | ⟨qs, c', rfl⟩
    · exact so_same h (rs_two (by decide) (by decide) (sh_non.up (by decide) (by decide)) (fr_up rfl))
    · have hs : step c (qs.concat c') .undo = (c', qs, gave) := by rw [step, List.concat_eq_append, List.getLast?_append]; simp
      rw [hs, List.concat_eq_append]
      rw [List.concat_eq_append] at h
      exact ⟨fun x hx => (h x (List.mem_append_left _ hx)).up (Nat.le_succ i), by show qs.length ≤ _; rw [List.length_append]; omega, by
        show (qs ++ [c'])[0]? = _
        rw [List.getElem?_append_left (l₂ := [c]) (by rw [List.length_append]; exact Nat.succ_pos _)], rs_gave⟩
  | lift d =>
    rw [step]
    split
    · refine so_new h ⟨⟨hok.g, hok.ne, fun x hx => ?_, ?_⟩, h5, ?_⟩
      · rcases List.mem_append.mp hx with hx | hx
        · exact hok.ok x (List.mem_of_mem_take hx)
        · exact hok.ok x (List.mem_of_mem_drop hx)
      · show (c.2.take _ ++ c.2.drop _).length ≤ 100
        rw [List.length_append, List.length_take, List.length_drop]; omega
      · show (c.2.take _ ++ c.2.drop _).length ≤ i + 1
        rw [List.length_append, List.length_take, List.length_drop]; omega
    · exact so_same h (rs_two (by decide) (by decide) (sh_odd (by omega) (hodd d rfl)) (odd_fr (hodd d rfl)))
  | promise x =>
    rw [step]
    split
    · refine so_new h ⟨⟨hok.g, hok.ne, fun y hy => ?_, ?_⟩, h5, ?_⟩
      · rcases List.mem_append.mp hy with hy | hy
        · exact hok.ok y hy
        · rw [List.mem_singleton.mp hy]; exact he
      · show (c.2 ++ [x]).length ≤ 100
        rw [List.length_append, List.length_singleton]; omega
      · show (c.2 ++ [x]).length ≤ i + 1
        rw [List.length_append, List.length_singleton]; omega
    · exact so_same h (rs_brk (by omega))
  | take j =>
    rw [step]
    split
    · exact so_same h (rs_two (by decide) (by decide) (sh_non.up (by decide) (by decide)) (fr_up rfl))
    · rename_i h1
      have hj : j < c.1.length := he
      have hl := List.length_eraseIdx_of_lt hj
      refine so_fin h (hok.g.erase j) (fun z => ?_) (by omega)
      rw [z, List.length_nil] at hl
      omega
  | change j z => exact so_fin h he.2 (by simp [chg]) (by rw [chg_len he.1]; exact h5)
  | put z => exact so_fin h he (by simp) (by rw [List.length_append]; have := hput z rfl; show _ + 1 ≤ _; omega)
/-! ### the view without the coil -/
theorem fr_sts (l : List S7) : Fr 4 (stsD l) := ⟨by rcases l with _ | ⟨a, _ | ⟨b, _ | ⟨c, _ | ⟨d, r⟩⟩⟩⟩ <;> rfl, fun x hx => by
  obtain ⟨s, _, rfl⟩ := List.mem_map.mp hx
  intro y hy
  rcases List.mem_cons.mp hy with rfl | hy
  · exact fr_le (by decide) (fr_tws _)
  · rw [List.mem_singleton.mp hy]; exact fr_wsD _⟩
section
variable {K : PySem.W.Frag} {H H' B B' : Hp} {a p : Addr} {c c' : S7} {ps ps' : List S7} {m : Nat}
theorem fr_ldw (ws : List Str) : Fr 2 (LDw K ws) := fun kv hk => by
  rcases List.mem_cons.mp hk with rfl | hk
  · exact fr_tws ws
  · rw [List.mem_singleton.mp hk]; exact fr_up rfl
theorem fr_held (c : S7) (ps : List S7) : Fr 5 (heldD K c ps) := fun x hx => by
  rcases List.mem_cons.mp hx with rfl | hx
  · exact fr_le (by decide) (fr_ldw _)
  · rcases List.mem_cons.mp hx with rfl | hx
    · exact fr_le (by decide) (fr_wsD _)
    · rw [List.mem_singleton.mp hx]
      intro y hy
      obtain ⟨s, _, rfl⟩ := List.mem_map.mp hy
      intro z hz
      rcases List.mem_cons.mp hz with rfl | hz
      · exact fr_ldw _
      · rw [List.mem_singleton.mp hz]; exact fr_wsD _
theorem cut_comm : cut (cut H a) p = cut (cut H p) a := funext fun b => by
  unfold cut
  by_cases h1 : b = p <;> by_cases h2 : b = a <;> simp [h1, h2]
theorem coil_ne (hc : CoilAt m H p) (hd : DeskAt K H a c ps) : p ≠ a := fun z => by
  obtain ⟨h, s, n, h1, _⟩ := hc
  obtain ⟨dx, hv, h2, _⟩ := hd
  rw [z, h2] at h1
  cases h1
theorem desk_cut (hc : CoilAt m H p) (hd : DeskAt K H a c ps) : DeskAt K (cut H p) a c ps := by
  have ne := coil_ne hc hd
  obtain ⟨dx, hv, h1, h2⟩ := hd
  refine ⟨dx, hv, by rw [cut_ne (Ne.symm ne)]; exact h1, ?_⟩
  have hc2 : CoilAt m (cut H a) p := let ⟨h, s, n, k1, k2, k3⟩ := hc; ⟨h, s, n, by rw [cut_ne ne]; exact k1, k2, k3⟩
  rw [← cut_comm]
  exact hc2.data (fr_held c ps) h2
theorem tabs_coil {T : List (Addr × Str)} (hc : CoilAt m H p) (t : LamX.Tabs T H) : LamX.Tabs T (cut H p) := by
  obtain ⟨h, s, n, h1, _⟩ := hc
  exact tabs_cut h1 (fun ps z => by cases z) (fun c q z => by unfold LamX.CodeO at z; cases z) t
/-- the desk was asked -/
structure Act (K : PySem.W.Frag) (m : Nat) (p a : Addr) (B : Hp) (c : S7) (ps : List S7) (H : Hp) : Prop where
  coil : CoilAt m H p
  ext : LamX.ExtN (cut B a) (cut H p)
  tabs : LamX.Tabs (lamT K) (cut H p)
  desk : DeskAt K (cut H p) a c ps
theorem view_act (eB : cut H p = B) (hc : CoilAt m H p) (hd : DeskAt K B a c ps) (x : LamX.ExtN (cut H a) H') (t : LamX.Tabs (lamT K) H') (d : DeskAt K H' a c' ps') : Act K m p a B c' ps' H' := by
  subst eB
  have ne := coil_ne hc (hd.mono (cut_same p))
  have hc' : CoilAt m H' p := let ⟨h, s, n, k1, k2, k3⟩ := hc; ⟨h, s, n, x _ _ (by rw [cut_ne ne]; exact k1) (fun ps z => by cases z), k2, k3⟩
  refine ⟨hc', ?_, tabs_coil hc' t, desk_cut hc' d⟩
  rw [← cut_comm]
  exact ext_cut x
theorem Act.mono (h : Act K m p a B c ps H) (e : Same H H') : Act K m p a B c ps H' := ⟨h.coil.mono e (Nat.le_refl _), h.ext.trans (ext_same (cut_mono e)), h.tabs.ext (cut_mono e), h.desk.mono (cut_mono e)⟩
theorem Act.data {v : V} {d : PyData} (h : Act K m p a B c' ps' H) (hd : DeskAt K B a c ps) (r : Rp K B v d) : Rp K (cut H p) v d := rp_ext h.ext (r.cut hd.bear)
theorem ext_cutOf (h : LamX.ExtN B B') (n : B a = none) : LamX.ExtN B (cut B' a) := fun b o e k => by
  rw [cut_ne (ne_of_none e n)]
  exact h b o e k
theorem Act.from0 {B0 : Hp} (h : Act K m p a B c ps H) (x : LamX.ExtN B0 B) (n : B0 a = none) : LamX.ExtN B0 (cut H p) := (ext_cutOf x n).trans h.ext
theorem dk_make {σ : L2.St} {ta : TE} {ws : List Str} {Q : VK} {E : XK} (ha : EvD K ta σ H (LDw K ws)) (q : ∀ a H', H a = none → Same H H' → DeskAt K H' a (ws, []) [] → Q (.ref a) H') : tMake (He.ga K "Desk") (spDkI K) [] E (tCons ta tNil) σ H Q := by
  refine (ea_cons ha ea_nil) H (Same.refl _) _ fun vs H2 e2 hvs x dx hx hd ne => ?_
  obtain ⟨v, rfl, hv⟩ := hvs.one
  have s1 : Same H2 (upd H2 dx (.own x)) := same_new hd
  have sx : Same H2 (upd (upd H2 dx (.own x)) x (.ins (He.ga K "Desk") dx [])) := fun b o e => by
    rw [upd_ne (ne_of_none e hx)]
    exact s1 _ _ e
  refine ⟨x, dx, v, ws, rfl, upd_same, hv.mono sx, fun H' e' hd' => ⟨rfl, q x H' (e2.free hx) (e2.trans ((cut_of sx hx).trans e')) hd'⟩⟩
end
/-- between the turns -/
structure RI (K : PySem.W.Frag) (p : Addr) (B0 : Hp) (ws : List Str) (i : Nat) (a : Addr) (c : S7) (ps : List S7) (σ : L2.St) (B : Hp) : Prop where
  len : σ.length = 7
  h0 : σ[0]? = some (some (.ref p))
  h2 : σ[2]? = some (some (.ref a))
  ext : LamX.ExtN B0 B
  new : B0 a = none
  tabs : LamX.Tabs (lamT K) B
  desk : DeskAt K B a c ps
  w : ∃ v, σ[1]? = some (some v) ∧ Rp K B v (tws ws)
  st : ∃ v, σ[3]? = some (some v) ∧ Rp K B v (stsD (ps ++ [c]))
  all : ∀ x ∈ ps ++ [c], St i x
  few : ps.length ≤ i
  head : (ps ++ [c])[0]? = some (ws, [])
section
variable {K : PySem.W.Frag} {p a : Addr} {B0 B B' : Hp} {ws : List Str} {i k : Nat} {c : S7} {ps : List S7} {σ : L2.St}
theorem RI.set {v : Option V} (h : RI K p B0 ws i a c ps σ B) (hk : 4 ≤ k) (e : Same B B') : RI K p B0 ws i a c ps (σ.set k v) B' :=
  ⟨by rw [List.length_set]; exact h.len, by rw [set_off (by omega)]; exact h.h0, by rw [set_off (by omega)]; exact h.h2, h.ext.trans (ext_same e), h.new, h.tabs.ext e, h.desk.mono e,
    let ⟨v, x, y⟩ := h.w; ⟨v, by rw [set_off (by omega)]; exact x, y.mono e⟩, let ⟨v, x, y⟩ := h.st; ⟨v, by rw [set_off (by omega)]; exact x, y.mono e⟩, h.all, h.few, h.head⟩
theorem RI.mono (h : RI K p B0 ws i a c ps σ B) (e : Same B B') : RI K p B0 ws i a c ps σ B' :=
  ⟨h.len, h.h0, h.h2, h.ext.trans (ext_same e), h.new, h.tabs.ext e, h.desk.mono e, let ⟨v, x, y⟩ := h.w; ⟨v, x, y.mono e⟩, let ⟨v, x, y⟩ := h.st; ⟨v, x, y.mono e⟩, h.all, h.few, h.head⟩
/-- what the desk shows -/
theorem ev_shows {E : XK} {tb tc td : TE} (h2 : σ[2]? = some (some (.ref a))) (hd : DeskAt K B a c ps) (hb : EvD K tb σ B (tws c.1)) (hc : EvD K tc σ B (wsD c.2)) (he : EvD K td σ B (.int (ps.length : Nat))) (hps : ps.length ≤ 100) (hok : S7.Ok c) :
    EvD K (tCall (spShows K) [] E (tCons (tVar 2) (tCons tb (tCons tc (tCons td tNil))))) σ B (.bool true) := fun H1 e1 Q q =>
  ⟨.ref a, h2, (ea_cons hb (ea_cons hc (ea_cons he ea_nil))) H1 e1 _ fun vs H2 e2 hvs => by
    obtain ⟨u, x, y, rfl, r1, r2, r3⟩ := hvs.three
    cases r3
    exact ⟨a, c, ps, u, x, rfl, hd.mono (e1.trans e2), r1, r2, hps, hok, fun H' e' => q _ H' (e2.trans e') (.bl true)⟩⟩
end
section
variable {P : Program} {w : World} {K : PySem.W.Frag} {mg : Str → Option Value} {base : Heap}
def spRight (K : PySem.W.Frag) : Sp := fun vs H Q _ => ∃ p, vs = [.ref p] ∧ CoilAt 0 H p ∧ LamX.Tabs (lamT K) H ∧ ∀ H', LamX.ExtN (cut H p) H' → LamX.Tabs (lamT K) H' → Q (.bl true) H'

end
end K7

set_option Elab.async false
set_option linter.all false
set_option maxRecDepth 100000
set_option maxHeartbeats 4000000
namespace K7
open PySem PySem.Spec PyProof.Rows L2
section
variable {P : Program} {w : World} {K : PySem.W.Frag} {mg : Str → Option Value} {base : Heap}
theorem dk_callI {σ : L2.St} {H : Hp} {a : Addr} {c : S7} {ps : List S7} {i : Nat} {sp : Sp} {m : Str} {t : TA} {E : XK} {Q : VK} (hi : σ[i]? = some (some (.ref a))) (hd : DeskAt K H a c ps) (k : t σ H (fun vs H2 => sp (.ref a :: (vs ++ [])) H2 Q E)) (hl : (m == ("held" : Str)) = false := by decide) : tMeth (He.ga K "Desk") m sp [] E (tVar i) t σ H Q := by
  obtain ⟨dx, hv, h1, _⟩ := hd
  exact ⟨.ref a, hi, a, dx, _, rfl, h1, by simp only [List.lookup, hl], k⟩
theorem asg_tup {ta : TE} {tb : TA} {g : TG} {D : Ends} {σ : L2.St} {H : Hp} (h : ta σ H fun v H1 => tb σ H1 fun vs H2 => (v :: vs).length ≤ sizeLine ∧ ∀ p, H2 p = none → g (.ref p) σ (upd H2 p (.tup (v :: vs))) D.nx) : tAsg (tTup (tCons ta tb)) g D σ H := h
theorem if_cb {rr : List V → Hp → VK → Prop} {r : R2} {ta tb : TE} {t u : TS} {D : Ends} {σ : L2.St} {H : Hp} (h : ta σ H fun v H1 => rr [v] H1 fun x H2 => tIfS (tTest (tOp r (tC x) tb)) t u D σ H2) : tIfS (tTest (tOp r (tCB rr (tCons ta tNil)) tb)) t u D σ H := h
theorem ev_last {σ : L2.St} {B : Hp} {v : V} {c : S7} {ps : List S7} (h : σ[3]? = some (some v)) (r : Rp K B v (stsD (ps ++ [c]))) : EvD K (tOp (rIx K) (tVar 3) (tUn (rU fun i => .int (-i)) (tC (.int 1)))) σ B (.tuple [tws c.1, wsD c.2]) := ev_ixL (atI_last stD ps c) (ev_var h r) (ev_negI (ev_int (i := 1)))
theorem ev_many {σ : L2.St} {B : Hp} {v : V} {c : S7} {ps : List S7} (h : σ[3]? = some (some v)) (r : Rp K B v (stsD (ps ++ [c]))) : EvD K (tOp (rI0 fun i j => .int (i - j)) (tCB (rLen K) (tCons (tVar 3) tNil)) (tC (.int 1))) σ B (.int (ps.length : Nat)) := (ev_subI (ev_lenL (ev_var h r)) ev_int).as (by
  rw [List.length_map, List.length_append]
  congr 1
  show ((ps.length + 1 : Nat) : Int) - 1 = _
  omega)

theorem ok__law_right (W : Wr P w K mg base) (F__law_sort : FV P w K mg base 1 "_law_sort" ["_law_e"] (spSort K)) (F__law_words : Fn P w K mg base CX0 4 "_law_words" ["_law_coil_here", "_law_most_letters", "_law_most_words"] (spCo K PWords2)) (I_Lots : Ini P w K mg base CX0 4 "Lots" (He.ga K "Lots") ["self", "lots"] (spInit (He.ga K "Lots") K PInit)) (I_Desk : Ini P w K mg base CX0 2 "Desk" (He.ga K "Desk") ["self", "lots"] (spDkI K)) (F__law_deed : Fn P w K mg base CX0 5 "_law_deed" ["_law_coil_here", "_law_stands"] (spCo K PDeed)) (F__law_led : Fn P w K mg base CX0 11 "_law_led" ["_law_stands", "_law_deed_here"] (spD K PLed)) (F__law_did : Fn P w K mg base CX0 16 "_law_did" ["_law_desk_here", "_law_deed_here"] (spDid K)) (F__law_shows : FG P w K mg base 8 "_law_shows" ["_law_desk_here", "_law_words_here", "_law_wants", "_law_many"] (spShows K)) (M_Desk_undo : Mt P w K mg base (L2.CX P w) 2 (He.ga K "Desk") "undo" ["self"] (spUndo K)) (G_Desk_lots : Gt P w K mg base CX0 1 (He.ga K "Desk") "lots" (spDk K (fLots K))) (M_Lots___eq__ : Mt P w K mg base CX0 1 (He.ga K "Lots") "__eq__" ["self", "other"] (spEq (REq K))) : FG P w K mg base 17 "_law_right" ["_law_coil_here"] (spRight K) := by
  obtain ⟨fdc, Fc⟩ := W.d__law_caught
  have hbc := Fc.bindsN (ps := ["_law_act"]) (fun _ _ _ _ _ _ us hl => match us, hl with | [_], _ => rfl)
  have hkc := Fc.kp
  obtain ⟨ocC, odC, dVC, kVC, docC, pmC, anC, cdvC, ctC, oslC, rfl, lkC, hcdC, _, _⟩ := Fc.ex
  obtain ⟨fdd, Fd⟩ := W.d__law_right
  have hbd := Fd.bindsN (ps := ["_law_coil_here"]) (fun _ _ _ _ _ _ us hl => match us, hl with | [_], _ => rfl)
  have hkd := Fd.kp
  obtain ⟨ocD, odD, dVD, kVD, docD, pmD, anD, cdvD, ctD, oslD, rfl, lkD, hcdD, _, _⟩ := Fd.ex
  obtain ⟨cD, rfl⟩ := He.codeIn_ref hcdD
  have TB := W.tabs ("_law_right", none) (List.mem_cons_of_mem _ List.mem_cons_self)
  have hcT : (He.cT K ("_law_right", none)).1 = cD := He.codeOf_eq lkD rfl
  rw [hcT] at TB
  have hneT := of_decide_eq_true (W.ex 7)
  have hu : ∀ p ∈ lamT K, p.1 = (He.cT K ("_law_right", none)).2 → p.2 = (("_law_right" : Str) ++ ".<locals>.") ++ "<lambda>" := fun p hp e => by
    rcases List.mem_cons.mp hp with rfl | hp
    · exact absurd e hneT
    · rw [List.mem_singleton.mp hp]
  refine ⟨_, _, fng_of (k := 16) lkD hcdD sc__law_right (fun vs H Q h => ?_) (fun A outer s H vs Q hr hg h => ?_), W.g__law_right, hkd, hbd⟩
  · obtain ⟨p, rfl, _⟩ := h
    rfl
  obtain ⟨p, rfl, hc, hT, q⟩ := h
  refine ⟨_, PSs.nox (pss_cons (setU (i := 1) sc__law_right.nd (pe_fn F__law_words (hr.mono (by decide)) rfl pass0 (pa_cons (pv 0) (pa_cons pe_int (pa_cons pe_int pa_nil)))))
  (pss_cons (ps_asg (pe_tup (pa_cons (pe_ini I_Desk (hr.mono (by decide)) rfl pass0 (pa_cons (pe_ini I_Lots (hr.mono (by decide)) rfl pass0 (pa_cons (pv 1) pa_nil)) pa_nil)) (pa_cons (pe_lst (pa_cons (pe_tup (pa_cons (pv 1) (pa_cons (pe_tup pa_nil) pa_nil))) pa_nil)) pa_nil))) (gtupU (K := K) (n := 2) rfl (pgs_cons (nameU (i := 2) sc__law_right.nd) (pgs_cons (nameU (i := 3) sc__law_right.nd) pgs_nil))))
  (pss_cons (ps_for PassesOwn.never rfl (pi_range1 rfl W.n_range (pa_cons pe_int pa_nil)) (nameU (i := 4) sc__law_right.nd) (pss_cons (setU (i := 5) sc__law_right.nd (pe_fn F__law_deed (hr.mono (by decide)) rfl pass0 (pa_cons (pv 0) (pa_cons (pv 3) pa_nil))))
  (pss_cons (ps_asg (pe_fn F__law_led (hr.mono (by decide)) rfl pass0 (pa_cons (pv 3) (pa_cons (pv 5) pa_nil))) (gtupU (K := K) (n := 2) rfl (pgs_cons (nameU (i := 3) sc__law_right.nd) (pgs_cons (nameU (i := 6) sc__law_right.nd) pgs_nil))))
  (pss_cons (ps_if (pt_cmpR (neU (K := K) hr.units) (pe_callB (cr_repr (K := K) hg hr.units) rfl W.n_repr bt_repr (pa_cons (pe_fn F__law_did (hr.mono (by decide)) rfl pass0 (pa_cons (pv 2) (pa_cons (pv 5) pa_nil))) pa_nil)) (pe_callB (cr_repr (K := K) hg hr.units) rfl W.n_repr bt_repr (pa_cons (pv 6) pa_nil)) (nomark _)) (pss_one ps_never) pss_nil)
  (pss_one (ps_if (pt_not (pt_val (pe_fg F__law_shows (hr.mono (by decide)) hg rfl (pa_cons (pv 2) (pa_cons (pe_ix (ixU (K := K)) (pe_ix (ixU (K := K)) (pv 3) (pe_un un_neg pe_int) (fun _ _ => rfl)) pe_int (fun _ _ => rfl)) (pa_cons (pe_ix (ixU (K := K)) (pe_ix (ixU (K := K)) (pv 3) (pe_un un_neg pe_int) (fun _ _ => rfl)) pe_int (fun _ _ => rfl)) (pa_cons (pe_op op_sub (pe_callB (lenU (K := K)) rfl W.n_len bt_len (pa_cons (pv 3) pa_nil)) pe_int) pa_nil))))))) (pss_one ps_never) pss_nil))))))
  (pss_cons (ps_for PassesOwn.never rfl (pi_range1 rfl W.n_range (pa_cons (pe_op op_sub (pe_callB (lenU (K := K)) rfl W.n_len bt_len (pa_cons (pv 3) pa_nil)) pe_int) pa_nil)) (nameU (i := 4) sc__law_right.nd) (pss_cons (setU (i := 3) sc__law_right.nd (pe_slice (slU (K := K)) (pv 3) po_none (po_some (pe_un un_neg pe_int))))
  (pss_one (ps_if (PW.pt (pw_or (pt_cmp (pc_notN (pe_mt0 M_Desk_undo W.cl_Desk (hr.mono (by decide)) (passes_call LamX.takes0 (fun _ _ _ _ h => h)) (pv 2)))) (pw_or1 (pt_not (pt_val (pe_fg F__law_shows (hr.mono (by decide)) hg rfl (pa_cons (pv 2) (pa_cons (pe_ix (ixU (K := K)) (pe_ix (ixU (K := K)) (pv 3) (pe_un un_neg pe_int) (fun _ _ => rfl)) pe_int (fun _ _ => rfl)) (pa_cons (pe_ix (ixU (K := K)) (pe_ix (ixU (K := K)) (pv 3) (pe_un un_neg pe_int) (fun _ _ => rfl)) pe_int (fun _ _ => rfl)) (pa_cons (pe_op op_sub (pe_callB (lenU (K := K)) rfl W.n_len bt_len (pa_cons (pv 3) pa_nil)) pe_int) pa_nil)))))))))) (pss_one ps_never) pss_nil))))
  (pss_one (ps_ret (pe_and (pe_cmpR (eqU (K := K) hr.units) (LamX.pe_lamcall (T := lamT K) (TT := TCau K) (k := 13) rfl W.g__law_caught hkc lkC hcdC hbc sc__law_caught rfl (.inl rfl) (caught_gives W F__law_sort (hr.mono (by decide))) TB rfl (List.mem_cons_of_mem _ List.mem_cons_self) hu (hr.mono (by decide)) (LamX.lamS_by (sc := defScope s__law_right) (by decide +kernel)) rfl (fun _ _ _ _ _ => rfl) (fun _ _ _ _ _ _ _ hr => (pe_mt0 M_Desk_undo W.cl_Desk (hr.mono (by decide)) (passes_call (takes_of rfl rfl rfl rfl) (fun _ _ _ _ h => h)) (pv 2)))) (pe_tup (pa_cons pe_str (pa_cons pe_non pa_nil))) (nomark _)) (pe_one (pe_cmpR (op_eqG (rcG_mt M_Lots___eq__ pass0) (hr.mono (by decide))) (pe_gt G_Desk_lots W.cl_Desk (hr.mono (by decide)) pass0 (pv 2)) (pe_ini I_Lots (hr.mono (by decide)) rfl pass0 (pa_cons (pv 1) pa_nil)) (nomark _)))))))))), ?_⟩
  refine tk_run (N := 23 + (0 + ((0 + 14 * 5) + (0 + 0)))) (R := fun v B' => v = .bl true ∧ LamX.ExtN (cut H p) B' ∧ LamX.Tabs (lamT K) B') ?_ hc (by omega) fun v H' c ⟨e, x, t⟩ => e ▸ q H' (x.trans (ext_same (cut_same p))) (t.ext (cut_same p))
  refine tk_seq (tk_set (ek_call (n := 0) rfl (ea_cons (K := K) (ev_int (i := 4)) (ea_cons (ev_int (i := 4)) ea_nil)) (fun d hd => ?_) ⟨rfl, rfl, rfl⟩)) fun σ1 B1 ⟨e1, v1, d1, ⟨ws, ed1, g, hne, hl4⟩, hv1, hs1⟩ => ?_
  · rcases List.mem_cons.mp hd with rfl | hd
    · rfl
    · rw [List.mem_singleton.mp hd]; rfl
  subst ed1 hs1
  refine tk_seq (P := fun σ' B' => ∃ a, RI K p (cut H p) ws 0 a (ws, []) [] σ' B') (fun m H1 eB hc1 hm D qn _ => ?_) fun σ2 B2 ⟨a, hI⟩ => ?_
  · subst eB
    have hw : EvD K (tVar 1) ((start N__law_right [.ref p]).set 1 (some v1)) H1 (tws ws) := ev_var rfl (hv1.mono (cut_same p))
    refine asg_tup ?_
    refine dk_make (ev_make (P := PInit) (ea_cons hw ea_nil) ⟨ws, rfl, g, hne, rfl⟩) fun a H2 ha e2 hd => ?_
    refine (ev_lst (K := K) (ds := [stD (ws, [])]) s1 (ea_cons (ev_tup s2 (ea_cons (hw.mono e2) (ea_cons (ev_tup s0 ea_nil) ea_nil))) ea_nil)) H2 (Same.refl _) _ fun v3 H3 e3 hv3 => ?_
    refine ⟨by show 2 ≤ sizeLine; rw [sizeLine_eq]; omega, fun t ht => ?_⟩
    have eA := e2.trans (e3.trans (same_new (o := .tup [.ref a, v3]) ht))
    have hc' := hc1.mono eA (Nat.le_refl _)
    refine ⟨t, _, rfl, SqT.of upd_same, rfl, _, _, rfl, _, _, rfl, rfl, qn _ _ hc' ⟨a, ?_⟩⟩
    exact ⟨rfl, rfl, rfl, (ext_same e1).trans (ext_same (cut_mono eA)), e1.free ((cut_same p).free ha), ((tabs_coil hc hT).ext e1).ext (cut_mono eA), desk_cut hc' (hd.mono (e3.trans (same_new ht))), ⟨v1, rfl, hv1.mono (cut_mono eA)⟩, ⟨v3, rfl, hc'.data (fr_sts [(ws, [])]) (hv3.mono (same_new ht))⟩,
      fun x hx => by rw [List.mem_singleton.mp hx]; exact ⟨⟨g, hne, (fun x hx => by cases hx), Nat.zero_le _⟩, by show ws.length ≤ 5; omega, Nat.le_refl _⟩, Nat.le_refl _, rfl⟩
  refine tk_seq (tk_for (n := 14) (N1 := 0) (N := 5) (Sk := fun j => j = 14) (ek_imp (ek_ev (K := K) (n := 0) (ev_int (i := 14)) rfl) fun d hd => ⟨14, rfl, hd⟩) (fun j hj => by omega) (by decide) (fun i σ' B' => ∃ a c ps, RI K p (cut H p) ws i a c ps σ' B') (fun B' e => ⟨a, _, _, hI.mono e⟩) fun i σ' B' hi ⟨a, c, ps, hI⟩ => ?_) fun σ3 B3 ⟨j, hj, a, c, ps, hI⟩ => ?_
  · have hI := hI.set (k := 4) (v := some (.int (i : Nat))) (by decide) (Same.refl _)
    generalize σ'.set 4 (some (V.int (i : Nat))) = σ' at hI ⊢
    obtain ⟨vst, hs3, hst⟩ := hI.st
    have hcc := hI.all c (List.mem_append_right _ List.mem_cons_self)
    have hfew := hI.few
    refine tk_le (N := 5 + (0 + (0 + 0))) (tk_seq (tk_set (ek_call (n := 4) hI.h0 (ea_cons (ev_var hs3 hst) ea_nil) (fun d hd => by rw [List.mem_singleton.mp hd]; exact fr_sts _) ⟨c, ps, rfl, hcc.1, hcc.2.1, rfl, rfl⟩)) fun σ4 B4 ⟨e4, v5, d5, ⟨e, ed5, hdeed⟩, hv5, hs4⟩ => ?_) (by decide)
    subst ed5
    have hI4 := hI.set (k := 5) (v := some v5) (by decide) e4
    rw [← hs4] at hI4
    have h5 : σ4[5]? = some (some v5) := by rw [hs4]; exact List.getElem?_set_self (by rw [hI.len]; decide)
    clear hs4 hs3 hst
    have hso := step_ok hI.all (by omega) hdeed
    obtain ⟨vst, hs3, hst⟩ := hI4.st
    obtain ⟨vw, hs1, hvw⟩ := hI4.w
    generalize hstep : step c ps e = t at hso
    refine tk_seq (tk_setP (n := 4) (d := stsD (t.2.1 ++ [t.1])) (e := t.2.2) (ev_call (P := PLed) (ea_cons (ev_var hs3 hst) (ea_cons (ev_var h5 hv5) ea_nil)) ⟨c, ps, e, rfl, hcc.1, by omega, hdeed.1, by rw [hstep]⟩) (fr_sts _) (fr_le (by decide) hso.rs.fr)) fun σ5 B5 ⟨e5, w3, w6, hw3, hw6, hs5⟩ => ?_
    have len5 : σ5.length = 7 := by rw [hs5, List.length_set, List.length_set]; exact hI4.len
    have k0 : σ5[0]? = some (some (.ref p)) := by rw [hs5, set_off (by decide), set_off (by decide)]; exact hI4.h0
    have k1 : σ5[1]? = some (some vw) := by rw [hs5, set_off (by decide), set_off (by decide)]; exact hs1
    have k2 : σ5[2]? = some (some (.ref a)) := by rw [hs5, set_off (by decide), set_off (by decide)]; exact hI4.h2
    have k3 : σ5[3]? = some (some w3) := by rw [hs5, set_off (by decide)]; exact List.getElem?_set_self (by rw [hI4.len]; decide)
    have k5 : σ5[5]? = some (some v5) := by rw [hs5, set_off (by decide), set_off (by decide)]; exact h5
    have k6 : σ5[6]? = some (some w6) := by rw [hs5]; exact List.getElem?_set_self (by rw [List.length_set, hI4.len]; decide)
    clear hs5
    have D5 : DeskAt K B5 a c ps := hI4.desk.mono e5
    have T5 := hI4.tabs.ext e5
    have X5 := hI4.ext.trans (ext_same e5)
    refine tk_seq (P := RI K p (cut H p) ws (i + 1) a t.1 t.2.1) (fun m H1 eB hc1 hm D qn _ => ?_) fun σ6 B6 hI6 => ?_
    · subst eB
      refine if_cb ?_
      refine ⟨.ref a, k2, v5, k5, a, c, ps, v5, e, rfl, T5.ext (cut_same p), D5.mono (cut_same p), by omega, hcc.1, (hv5.mono e5).mono (cut_same p), hdeed.1, fun v' H2 x2 t2 d2 r2 => ?_⟩
      rw [hstep] at d2 r2
      have act := view_act rfl hc1 D5 x2 t2 d2
      have hw6' : Rp K H2 w6 t.2.2 := rp_ext x2 ((hw6.mono (cut_same p)).cut (D5.mono (cut_same p)).bear)
      refine repr_of r2 hso.rs.sq hso.rs.sh ?_
      have ht : EvT (tTest (tOp (rNeU K) (tC (.str t.2.2.shown)) (tCB (rRepr K) (tCons (tVar 6) tNil)))) σ5 H2 false := (et_test (ev_neS ev_str (ev_repr (ev_var k6 hw6') hso.rs.sq hso.rs.sh))).as (by simp)
      refine ht H2 (Same.refl _) _ fun H3 e3 => iteF ?_
      have act := act.mono e3
      exact qn _ _ act.coil ⟨len5, k0, k2, act.from0 X5 hI4.new, hI4.new, act.tabs, act.desk, ⟨vw, k1, act.data D5 (hvw.mono e5)⟩, ⟨w3, k3, act.data D5 hw3⟩, hso.all, by have := hso.len; omega, by rw [hso.head]; exact hI.head⟩
    · obtain ⟨vst, hs3, hst⟩ := hI6.st
      have hcs := hI6.all t.1 (List.mem_append_right _ List.mem_cons_self)
      have hfew6 := hI6.few
      exact tk_if (b := false) ((et_not (b := true) (et_val (ev_shows (E := E0) hI6.h2 hI6.desk (ev_ixT (d := tws t.1.1) (i := 0) rfl (ev_last hs3 hst) ev_int) (ev_ixT (d := wsD t.1.2) (i := 1) rfl (ev_last hs3 hst) ev_int) (ev_many hs3 hst) (by omega) hcs.1))).as rfl) (fun z => by cases z) fun _ B' e => tk_imp tk_next (fun σ' B2 ⟨a, b⟩ => by subst a b; exact ⟨_, _, _, hI6.mono e⟩) fun _ _ z => z
  subst hj
  have hfew := hI.few
  obtain ⟨vst, hs3, hst⟩ := hI.st
  refine tk_seq (P := fun σ' B' => RI K p (cut H p) ws 14 a (ws, []) [] σ' B') (tk_imp (tk_le (N := 0 + ps.length * 0) (tk_for (n := ps.length) (Sk := fun j => j = ps.length) (ek_imp (ek_ev (K := K) (n := 0) (ev_many hs3 hst) rfl) fun d hd => ⟨ps.length, rfl, hd⟩) (fun j hj => by omega) (by omega) (fun i σ' B' => ∃ c' ps', RI K p (cut H p) ws 14 a c' ps' σ' B' ∧ ps'.length + i = ps.length) (fun B' e => ⟨c, ps, hI.mono e, rfl⟩) fun i σ' B' hi ⟨c', ps', hI, hl⟩ => ?_) (by rw [Nat.mul_zero]; exact Nat.le_refl _)) (fun σ' B' ⟨j, hj, c', ps', hI, hl⟩ => ?_) fun _ _ z => z) fun σ4 B4 hI => ?_
  · have hI := hI.set (k := 4) (v := some (.int (i : Nat))) (by decide) (Same.refl _)
    generalize σ'.set 4 (some (V.int (i : Nat))) = σ' at hI ⊢
    obtain ⟨ys, c2, rfl⟩ : ∃ ys c2, ps' = ys ++ [c2] := by
      rcases List.eq_nil_or_concat ps' with rfl | ⟨ys, c2, rfl⟩
      · simp at hl; omega
      · exact ⟨ys, c2, List.concat_eq_append⟩
    obtain ⟨vst, hs3, hst⟩ := hI.st
    obtain ⟨vw, hs1, hvw⟩ := hI.w
    have hfew2 := hI.few
    rw [List.length_append, List.length_singleton] at hl hfew2
    refine tk_seq (N1 := 0) (N2 := 0) (tk_set (ek_ev (n := 4) ((ev_slL (ev_var hs3 hst) eo_none (eo_some (K := K) (ev_negI (ev_int (i := 1))))).as (e := stsD (ys ++ [c2])) (by rw [cutD_init]; rfl)) (fr_sts _))) fun σ5 B5 ⟨e5, w3, d3, ed3, hw3, hs5⟩ => ?_
    subst ed3
    have len5 : σ5.length = 7 := by rw [hs5, List.length_set]; exact hI.len
    have k0 : σ5[0]? = some (some (.ref p)) := by rw [hs5, set_off (by decide)]; exact hI.h0
    have k1 : σ5[1]? = some (some vw) := by rw [hs5, set_off (by decide)]; exact hs1
    have k2 : σ5[2]? = some (some (.ref a)) := by rw [hs5, set_off (by decide)]; exact hI.h2
    have k3 : σ5[3]? = some (some w3) := by rw [hs5]; exact List.getElem?_set_self (by rw [hI.len]; decide)
    clear hs5
    have D5 : DeskAt K B5 a c' (ys ++ [c2]) := hI.desk.mono e5
    have T5 := hI.tabs.ext e5
    have X5 := hI.ext.trans (ext_same e5)
    have hall : ∀ x ∈ ys ++ [c2], St 14 x := fun x hx => hI.all x (List.mem_append_left _ hx)
    have hc2 := hall c2 (List.mem_append_right _ List.mem_cons_self)
    intro m H1 eB hc1 hm D qn _
    subst eB
    have D1 := D5.mono (cut_same p)
    show tMeth (He.ga K "Desk") "undo" (spUndo K) [] E0 (tVar 2) tNil σ5 H1 _
    refine dk_callI k2 D1 ⟨a, c', ys ++ [c2], rfl, D1, by rw [List.length_append, List.length_singleton]; omega, fun z => by simp at z, fun zs c3 hy H2 e2 d2 => ?_⟩
    obtain ⟨rfl, h⟩ := List.append_inj' hy rfl
    cases h
    have act := view_act rfl hc1 D5 (ext_same e2) ((D1.tabs (T5.ext (cut_same p))).ext e2) d2
    refine ⟨false, rfl, iteF ?_⟩
    have hst2 := (act.data D5 hw3).mono (cut_same p)
    refine (show EvT _ σ5 H2 false from (et_not (b := true) (et_val (ev_shows (E := E0) k2 d2 (ev_ixT (d := tws c2.1) (i := 0) rfl (ev_last k3 hst2) ev_int) (ev_ixT (d := wsD c2.2) (i := 1) rfl (ev_last k3 hst2) ev_int) (ev_many k3 hst2) (by omega) hc2.1))).as rfl) H2 (Same.refl _) _ fun H3 e3 => iteF ?_
    have act := act.mono e3
    exact qn _ _ act.coil ⟨c2, ys, ⟨len5, k0, k2, act.from0 X5 hI.new, hI.new, act.tabs, act.desk, ⟨vw, k1, act.data D5 (hvw.mono e5)⟩, ⟨w3, k3, act.data D5 hw3⟩, hall, by omega, by
      have hh := hI.head
      rwa [List.getElem?_append_left (by rw [List.length_append]; exact Nat.succ_pos _)] at hh⟩, by omega⟩
  · subst hj
    have hn : ps' = [] := List.eq_nil_of_length_eq_zero (by omega)
    subst hn
    have hh := hI.head
    have e0 : c' = (ws, []) := Option.some.inj hh
    subst e0
    exact hI
  obtain ⟨vw, hs1, hvw⟩ := hI.w
  intro m H1 eB hc1 hm D _ q2
  subst eB
  refine ⟨hI.tabs.ext (cut_same p), fun H2 x2 t2 Q2 hQ2 => ?_⟩
  have D1 := hI.desk.mono (cut_same p)
  have D2 := D1.ext x2
  refine dk_callI hI.h2 D2 ⟨a, _, [], rfl, D2, Nat.zero_le _, fun _ H3 e3 => ech_undo (W6 (x := "NothingToUndo") W (by decide)).2 fun t H4 e4 ht => ?_, fun ys c3 hy => by simp at hy⟩
  have D4 := D2.mono (e3.trans e4)
  have x4 : LamX.ExtN (cut H1 a) H4 := (ext_same (cut_same a)).trans (x2.trans (ext_same (e3.trans e4)))
  have act := view_act rfl hc1 hI.desk x4 (t2.ext (e3.trans e4)) D4
  have sd : SeqAt.shaped (.tuple [.str "undo", .none]) = true := by decide +kernel
  have heq := (ev_eqG (K := K) (σ := σ4) (H := H4) (ta := tC (.ref t)) sd sd (ev_c (.tup (SqT.of ht) (.cons (.str _) (.cons .non .nil)))) (ev_tup s2 (ea_cons ev_str (ea_cons ev_non ea_nil)))).as (e := .bool true) (by rw [SeqAt.eqv_refl _ (SeqAt.canLay_of_shaped sd)])
  have hfin := (ev_and (b := true) (c := true) heq fun _ => ev_eqLots g (ev_dk (E := E0) (f := fLots K) hI.h2 D4) (ev_make (E := E0) (P := PInit) (ea_cons (ev_var hs1 ((act.data hI.desk hvw).mono (cut_same p))) ea_nil) ⟨ws, rfl, g, hne, rfl⟩)).as rfl
  refine hfin H4 (Same.refl _) _ fun v5 H5 e5 hv5 => ?_
  cases hv5
  have act := act.mono e5
  exact q2 _ _ act.coil ⟨rfl, act.from0 hI.ext hI.new, act.tabs⟩
end
end K7

set_option Elab.async false
set_option linter.all false
set_option maxRecDepth 100000
set_option maxHeartbeats 4000000
namespace K7
open PySem PySem.Spec PyProof.Rows L2
section
variable {K : PySem.W.Frag} {H H' : Hp} {D a : Addr} {o : HO}
theorem yes_if {σ : L2.St} {A B : Hp → Prop} (h : A H) : tYes σ H fun b H3 => if b = true then A H3 else B H3 := by
  show (if true = true then A H else B H)
  rw [if_pos rfl]
  exact h
theorem ret_lc {rr : List V → Hp → VK → Prop} {te0 te : TE} {g : TG} {tt : TT} {vs : List Nat} {E : Ends} {σ : L2.St} (h : (tCons te0 tNil) σ H fun xs H1 => ∃ i, xs = [.int i] ∧ -(2 ^ 62) ≤ i ∧ i < 2 ^ 62 ∧ (fun J H1 => ∀ D, H1 D = none → ∃ W : Nat → Nat → Hp → Prop, (∃ m, W 0 m (upd H1 D (.lst []))) ∧ ∀ i m H, W i m H →
    (J.stop i H ∧ rr [.ref D] H E.rt) ∨ (J.go i H ∧ ∃ Nx : Hp → Prop, (∀ H', Nx H' → ∃ m', m' < m ∧ W (i + 1) m' H') ∧ ∀ x H', J.yld i H x H' → g x (wipe σ vs) H' fun σ2 H2 => wipe σ2 vs = wipe σ vs ∧ tt σ2 H2 fun b H3 =>
      if b = true then te σ2 H3 fun y H4 => ∃ acc, H4 D = some (.lst acc) ∧ acc.length < sizeLine ∧ Nx (upd H4 D (.lst (acc ++ [y]))) else Nx H3)) (Itr 0 i.toNat) H1) : tRet (tCB rr (tCons (tLc (iRng1 (tCons te0 tNil)) g tt te vs) tNil)) E σ H := h
theorem sql_ext {xs : List V} (e : LamX.ExtN H H') (h : SqL K H a xs) : SqL K H' a xs := by
  rcases h with (h | ⟨o, h⟩) | h
  · exact .inl (.inl (e _ _ h fun ps z => by cases z))
  · exact .inl (.inr ⟨o, e _ _ h fun ps z => by cases z⟩)
  · exact .inr h
theorem ext_upd (e : LamX.ExtN H H') (n : H D = none) : LamX.ExtN H (upd H' D o) := fun b u h k => by
  rw [upd_ne (ne_of_none h n)]
  exact e b u h k
theorem tabs_upd {T : List (Addr × Str)} {xs ys : List V} (h : H D = some (.lst xs)) (t : LamX.Tabs T H) : LamX.Tabs T (upd H D (.lst ys)) :=
  (tabs_cut h (fun ps z => by cases z) (fun c q z => by unfold LamX.CodeO at z; cases z) t).ext (cut_upd.mpr (cut_same D))
end
section
variable {P : Program} {w : World} {K : PySem.W.Frag} {mg : Str → Option Value} {base : Heap}
def spLaw (K : PySem.W.Frag) : Sp := fun vs H Q _ => ∃ (a : Addr) (ns : List Int), vs = [.ref a] ∧ SqL K H a (ns.map V.int) ∧ ns.length ≤ 63 ∧ LamX.Tabs (lamT K) H ∧ ∀ H', Q (.bl true) H'

theorem ok_law (W : Wr P w K mg base) (F__law_coil : Fn P w K mg base CX0 1 "_law_coil" ["_law_script", "_law_turn"] (spCoil K)) (F__law_right : FG P w K mg base 17 "_law_right" ["_law_coil_here"] (spRight K)) : FG P w K mg base 18 "law" ["_law_script"] (spLaw K) := by
  obtain ⟨fdg, Fg⟩ := W.d_law
  have hbg := Fg.bindsN (ps := ["_law_script"]) (fun _ _ _ _ _ _ us hl => match us, hl with | [_], _ => rfl)
  have hkg := Fg.kp
  obtain ⟨ocG, odG, dVG, kVG, docG, pmG, anG, cdvG, ctG, oslG, rfl, lkG, hcdG, _, _⟩ := Fg.ex
  refine ⟨_, _, fng_of (k := 17) lkG hcdG sc_law (fun vs H Q h => ?_) (fun A outer s H vs Q hr hg h => ?_), W.g_law, hkg, hbg⟩
  · obtain ⟨a, ns, rfl, _⟩ := h
    rfl
  · refine ⟨_, PSs.nox (pss_one (ps_ret (pe_callB (allU (K := K) rfl) rfl W.n_all bt_all (pa_cons (pe_lc (own := [("_law_turn", 1)]) rfl sc_law.nd (pi_range1 rfl W.n_range (pa_cons (pe_callB (call_max2 rfl) rfl W.n_max bt_max (pa_cons pe_int (pa_cons (pe_callB (call_min2 rfl) rfl W.n_min bt_min (pa_cons (pe_callB (lenU (K := K)) rfl W.n_len bt_len (pa_cons (pv 0) pa_nil)) (pa_cons pe_int pa_nil))) pa_nil))) pa_nil)) (blkOk_by (own := [("_law_turn", 1)]) (N := N_law) (sc := (defScope s_law)) (by decide +kernel)) (fun _ _ _ _ _ => (nameU (i := 1) sc_law.nd)) (fun _ _ _ _ _ => pts_nil) (fun _ _ _ _ _ => (pe_fg F__law_right (hr.mono (by decide)) hg rfl (pa_cons (pe_fn F__law_coil (hr.mono (by decide)) rfl pass0 (pa_cons (pv 0) (pa_cons (pv 1) pa_nil))) pa_nil)))) pa_nil)))), ?_⟩
    obtain ⟨a, ns, rfl, hs, hl, hT, q⟩ := h
    have hN := ev_max2 (K := K) (σ := start N_law [.ref a]) (H := H) (ev_int (i := 2)) (ev_min2 (ev_lenQ (i := 0) rfl hs) (ev_int (i := 4)))
    generalize hM : (if (if (4 : Int) < (ns.length : Int) then (4 : Int) else (ns.length : Int)) > 2 then (if (4 : Int) < (ns.length : Int) then (4 : Int) else (ns.length : Int)) else 2) = M at hN
    have hM1 : 0 ≤ M ∧ M ≤ 4 := by
      rw [← hM]
      split <;> split <;> omega
    clear hM
    refine ret_lc ?_
    refine hN H (Same.refl _) _ fun v H1 e1 hv => ?_
    cases hv
    refine ⟨M, rfl, by omega, by omega, fun D hD => ?_⟩
    refine lc_it (walk_range (lo := 0) (n := M.toNat)) (Pv := fun k H' => LamX.ExtN H1 H' ∧ LamX.Tabs (lamT K) H' ∧ H' D = some (.lst (List.replicate k (.bl true)))) ⟨ext_same (same_new hD), (hT.ext e1).ext (same_new hD), upd_same⟩ (fun _ _ _ _ => trivial) (fun i x H2 H3 hi ⟨x2, t2, h2⟩ y => ?_) fun H' ⟨_, _, h⟩ => ?_
    · obtain ⟨rfl, rfl⟩ := y
      refine ⟨wipe_set _ _ _, ?_⟩
      refine yes_if ?_
      refine ⟨.ref a, rfl, .int (0 + (i : Nat)), rfl, a, i, ns, by rw [Int.zero_add]; rfl, sql_ext ((ext_same e1).trans x2) hs, hl, by omega, fun p H4 hp e4 hc4 => ?_⟩
      refine ⟨p, rfl, hc4, t2.ext e4, fun H5 x5 t5 => ?_⟩
      have hDp : D ≠ p := ne_of_none h2 hp
      have h5 : H5 D = some (.lst (List.replicate i (.bl true))) := x5 _ _ (by rw [cut_ne hDp]; exact e4 _ _ h2) fun ps z => by cases z
      refine ⟨_, h5, by rw [List.length_replicate, sizeLine_eq]; omega, ext_upd (x2.trans ?_) hD, tabs_upd h5 t5, ?_⟩
      · exact fun b o hb n => x5 b o (by rw [cut_ne (ne_of_none hb hp)]; exact e4 _ _ hb) n
      · rw [upd_same, List.replicate_succ']
    · refine ⟨D, List.replicate M.toNat true, rfl, SqL.of (by rw [List.map_replicate]; exact h), ?_⟩
      rw [show (List.replicate M.toNat true).all id = true by simp]
      exact q H' 

end
end K7

set_option Elab.async false
set_option linter.all false
set_option maxRecDepth 100000
set_option maxHeartbeats 4000000
namespace K7
open PySem PySem.Spec PyProof.Rows L2
/-! ### all defs keep their promises -/
section
variable {P : Program} {w : World} {K : PySem.W.Frag} {mg : Str → Option Value} {base : Heap}
theorem ok_all (W : Wr P w K mg base) : FG P w K mg base 18 "law" ["_law_script"] (spLaw K) := by
  have F_is_integer := ok_is_integer W 
  have F_is_within := ok_is_within W F_is_integer
  have F_is_rising := ok_is_rising W 
  have F_is_lot := ok_is_lot W F_is_rising
  have F_things_in := ok_things_in W 
  have F_check_words := ok_check_words W F_is_lot F_things_in
  have G_Lots_lots := ok_Lots_lots W 
  have G_Lots_things := ok_Lots_things W 
  have I_Lots := ok_Lots___init__ W F_check_words F_things_in
  have M_Lots___len__ := ok_Lots___len__ W 
  have M_Lots___str__ := ok_Lots___str__ W 
  have F_check_lots := ok_check_lots W 
  have F_check_lot := ok_check_lot W F_is_lot
  have F_check_many := ok_check_many W F_things_in
  have F_check_index := ok_check_index W F_is_within M_Lots___len__
  have F_check_indexes := ok_check_indexes W F_is_within M_Lots___len__
  have M_Lots_added := ok_Lots_added W F_check_lot F_check_many I_Lots
  have F_bits_of := ok_bits_of W G_Lots_lots G_Lots_things
  have F_unions_by_choice := ok_unions_by_choice W 
  have F_choices_by_union := ok_choices_by_union W F_unions_by_choice
  have F_has_part := ok_has_part W 
  have F_least_by_union := ok_least_by_union W F_bits_of F_has_part F_choices_by_union
  have F_packed := ok_packed W 7
  have F_most_of := ok_most_of W F_least_by_union F_packed
  have F_most_folds := ok_most_folds W F_check_lots F_most_of
  have F_is_wish := ok_is_wish W F_is_lot F_is_within
  have F_check_wish := ok_check_wish W F_is_wish
  have F_is_kept := ok_is_kept W F_most_folds G_Lots_lots M_Lots___len__
  have M_Lots_without := ok_Lots_without W F_check_indexes I_Lots
  have M_Lots___eq__ := ok_Lots___eq__ W 
  have G_Desk_lots := ok_Desk_lots W 
  have G_Desk_promises := ok_Desk_promises W 
  have G_Desk_changes := ok_Desk_changes W 
  have I_Desk := ok_Desk___init__ W F_check_lots
  have M_Desk_become := ok_Desk_become W 
  have M_Desk_turn := ok_Desk_turn W G_Desk_promises F_is_kept M_Desk_become
  have M_Desk_put := ok_Desk_put W G_Desk_lots M_Lots_added M_Desk_turn
  have M_Desk_take := ok_Desk_take W G_Desk_lots F_check_index M_Lots_without M_Desk_turn
  have M_Desk_change := ok_Desk_change W G_Desk_lots G_Lots_lots F_check_index F_check_lot F_check_many I_Lots M_Desk_turn
  have M_Desk_promise := ok_Desk_promise W G_Desk_lots G_Desk_promises F_check_wish F_is_kept M_Desk_become
  have M_Desk_lift := ok_Desk_lift W G_Desk_lots G_Desk_promises F_is_within M_Desk_become
  have M_Desk_undo := ok_Desk_undo W 
  have F__law_is_lot := ok__law_is_lot W 
  have F__law_is_number := ok__law_is_number W 
  have F__law_is_wish := ok__law_is_wish W F__law_is_lot F__law_is_number
  have F__law_letters_of := ok__law_letters_of W 
  have F__law_masks := ok__law_masks W 
  have F__law_apart := ok__law_apart W 6
  have F__law_most := ok__law_most W F__law_masks F__law_apart
  have F__law_keeps := ok__law_keeps W F__law_most
  have F__law_later := ok__law_later W F__law_is_number F__law_is_lot F__law_letters_of
  have F__law_broken := ok__law_broken W F__law_keeps
  have F__law_led := ok__law_led W F__law_is_number F__law_is_wish F__law_keeps F__law_later F__law_broken
  have F__law_tug := ok__law_tug W 
  have F__law_take := ok__law_take W F__law_tug
  have F__law_letters := ok__law_letters W F__law_tug
  have F__law_word := ok__law_word W F__law_tug
  have F__law_words := ok__law_words W F__law_tug F__law_letters F__law_word F__law_take
  have F__law_any_index := ok__law_any_index W F__law_tug F__law_take
  have F__law_deed := ok__law_deed W F__law_tug F__law_take F__law_any_index F__law_word F__law_letters_of
  have F__law_coil := ok__law_coil W 
  have F__law_sort := ok__law_sort W 
  have F__law_did := ok__law_did W F__law_sort M_Desk_put M_Desk_take M_Desk_change M_Desk_promise M_Desk_lift M_Desk_undo
  have F__law_shows := ok__law_shows W G_Desk_lots G_Desk_promises G_Desk_changes G_Lots_lots M_Lots___str__ I_Lots M_Lots___eq__
  have F__law_right := ok__law_right W F__law_sort F__law_words I_Lots I_Desk F__law_deed F__law_led F__law_did F__law_shows M_Desk_undo G_Desk_lots M_Lots___eq__
  exact ok_law W F__law_coil F__law_right
end
/-! ### the call of the law -/
/-- what is followed from the start on: the tables; the script, where the written part has it not -/
def H0 (K : PySem.W.Frag) (a : Addr) (o : Obj) (ns : List Int) : Hp := fun b =>
  if b ∈ tf.map (fun p => (He.cT K p).2) then some (.tbl #[]) else if b = a ∧ (K.lookup a).isNone = true then some (.frz o (.lst (ns.map V.int))) else none
section
variable {K : PySem.W.Frag} {h : Heap} {a b : Addr} {o x : Obj} {ns : List Int} {u : HO}
theorem h0_cases (e : H0 K a o ns b = some u) : (∃ p, p ∈ tf ∧ b = (He.cT K p).2 ∧ u = .tbl #[]) ∨ (b = a ∧ K.lookup a = none ∧ u = .frz o (.lst (ns.map V.int))) := by
  unfold H0 at e
  split at e
  · rename_i hm
    obtain ⟨p, hp, eb⟩ := List.mem_map.mp hm
    exact .inl ⟨p, hp, eb.symm, (Option.some.inj e).symm⟩
  · split at e
    · rename_i hc
      exact .inr ⟨hc.1, Option.isNone_iff_eq_none.mp hc.2, (Option.some.inj e).symm⟩
    · cases e
theorem h0_tab {p : He.Defn} (hp : p ∈ tf) : H0 K a o ns (He.cT K p).2 = some (.tbl #[]) := if_pos (List.mem_map.mpr ⟨p, hp, rfl⟩)
theorem h0_none {vs : Array Value} (S : SaysK h K) (ha : h.get? a = some { cls := .type "list", data := .seq vs }) (e : h.get? b = some x) (n1 : ∀ v n, x.data ≠ .seq v n) (n2 : x.data ≠ .fields #[]) : H0 K a o ns b = none := by
  cases q : H0 K a o ns b with
  | none => rfl
  | some u =>
    rcases h0_cases q with ⟨p, hp, rfl, _⟩ | ⟨rfl, _, _⟩
    · cases (S.empty p hp).symm.trans e
      exact (n2 rfl).elim
    · cases ha.symm.trans e
      exact (n1 _ _ rfl).elim
end
theorem law_start {P : Program} {w : World} {K : PySem.W.Frag} {mg mb : Str → Option Value} {s : Shared} {a : Addr} {vs : List Value} {ns : List Int} (S : SaysK s.heap K) (KX : K.In s.heap) (gm : s.heap.Ns mainGlobals mg) (gb : s.heap.Ns builtinsNs mb)
    (bb : ∀ x : Str, x ≠ "__name__" → mb x = bootBuiltins x) (nl : s.heap.NoLimit) (ng : s.gens = #[]) (bmo : ∃ (bm : Addr) (ob : Obj), mg "__builtins__" = some (.ref bm) ∧ bm ≠ builtinsNs ∧ s.heap.get? bm = some ob ∧ ob.cls = .type "module" ∧ ob.dict = some builtinsNs ∧ ob.data = .plain)
    (ha : s.heap.get? a = some { cls := .type "list", data := .seq vs.toArray }) (hi : IntsAre vs ns) (hz : ns.length ≤ sizeLine) :
    ∃ (base : Heap) (H : Hp), Wr P w K mg base ∧ Env0 P w K mg base callerA [] s H ∧ LamX.Tabs (lamT K) H ∧ SqL K H a (ns.map V.int) ∧ ∀ (s' : Shared) (H' : Hp), Un [] [] H H' s.heap s'.heap → HOk P w H' s'.heap → OldK s.heap s'.heap := by
  have hv := vals_ints hi
  have hvl := hi.length
  generalize eo : ({ cls := .type "list", data := .seq vs.toArray } : Obj) = o at ha
  have untr : ∀ {b : Addr} {x : Obj}, s.heap.get? b = some x → (∀ v n, x.data ≠ .seq v n) → x.data ≠ .fields #[] → (hidT s.heap (H0 K a o ns)).get? b = some x := fun e n1 n2 => hidT_get e (h0_none S (by rw [ha, ← eo]) e n1 n2)
  have kin : K.In (hidT s.heap (H0 K a o ns)) := fun b x e => hidT_get (KX b x e) (by
    cases q : H0 K a o ns b with
    | none => rfl
    | some u =>
      rcases h0_cases q with ⟨p, hp, rfl, _⟩ | ⟨rfl, hn, _⟩
      · rw [S.out p hp] at e; cases e
      · rw [hn] at e; cases e)
  have nsB : ∀ {b : Addr} {m : Str → Option Value}, s.heap.Ns b m → (hidT s.heap (H0 K a o ns)).Ns b m := fun ⟨x, es, ep, e, d, r⟩ => ⟨x, es, ep, untr e (fun v n z => by rw [d] at z; cases z) (fun z => by rw [d] at z; cases z), d, r⟩
  have md : L2.Mod K mg (hidT s.heap (H0 K a o ns)) := ⟨kin, nsB gm, ⟨mb, nsB gb, bb⟩, let ⟨mc, z1, z2⟩ := nl; ⟨mc, nsB z1, z2⟩⟩
  have tabs : ∀ p ∈ tf, LamX.TabB (hidT s.heap (H0 K a o ns)) mg (He.cT K p).1 (He.cT K p).2 := fun p hp => by
    have hE := S.empty p hp
    refine ⟨PySem.W.codeHd_of_K kin (S.hd p hp), ?_, fun z => ?_⟩
    · obtain ⟨bm, ob, b1, b2, b3, b4, b5, b6⟩ := bmo
      refine ⟨bm, ob, b1, b2, fun z => ?_, fun z => ?_, untr b3 (fun v n z => by rw [b6] at z; cases z) (fun z => by rw [b6] at z; cases z), b4, b5, b6⟩
      · obtain ⟨x, es, ep, e, d, _⟩ := gm
        rw [z, e] at b3
        cases b3
        rw [d] at b6
        cases b6
      · rw [z, hE] at b3
        cases b3
        cases b6
    · obtain ⟨x, es, ep, e, d, _⟩ := gm
      rw [z, hE] at e
      cases e
      cases d
  have hok : HOk P w (H0 K a o ns) s.heap := fun b u e => by
    rcases h0_cases e with ⟨p, hp, rfl, rfl⟩ | ⟨rfl, _, rfl⟩
    · exact S.empty p hp
    · exact ⟨ha, by rw [List.length_map]; exact hz, vs, _, hv, by rw [ha, ← eo]⟩
  refine ⟨hidT s.heap (H0 K a o ns), H0 K a o ns, ⟨kin, nsB gm, S.d, S.more, S.gets, tabs⟩, ⟨rfl, md, fun b x e => of_hidT e, Nat.le_of_eq (hidT_size _ _), trivial, (fun b hb => by cases hb), hok, .of_eq ng⟩, fun p hp => ?_, ?_, fun s' H' un hok' => ?_⟩
  · rcases List.mem_cons.mp hp with rfl | hp
    · exact LamX.TabS.nil (h0_tab List.mem_cons_self)
    · rw [List.mem_singleton.mp hp]
      exact LamX.TabS.nil (h0_tab (List.mem_cons_of_mem _ List.mem_cons_self))
  · cases hk : K.lookup a with
    | some x =>
      have e := KX a x hk
      rw [ha] at e
      cases e
      rw [← eo] at hk
      exact .inr ⟨_, vs.toArray, _, hk, rfl, rfl, rfl, by rw [List.size_toArray, hvl]; exact hz, by simpa using hv⟩
    | none =>
      refine .inl (.inr ⟨o, ?_⟩)
      unfold H0
      rw [if_neg, if_pos ⟨rfl, by rw [hk]; rfl⟩]
      intro hm
      obtain ⟨p, hp, eb⟩ := List.mem_map.mp hm
      have z := S.empty p hp
      rw [eb, ha, ← eo] at z
      cases z
  · have key : ∀ b x, s.heap.get? b = some x → asItWas s.heap s'.heap b x ∧ ∃ y, s'.heap.get? b = some y := fun b x e => by
      cases q : H0 K a o ns b with
      | none =>
        have k := un.keep b x e q (by intro z; cases z) (by intro z; cases z)
        exact ⟨.inl k, x, k⟩
      | some u =>
        rcases h0_cases q with ⟨p, hp, rfl, rfl⟩ | ⟨rfl, _, rfl⟩
        · obtain ⟨more, z⟩ := un.tbls _ #[] q
          have k : s'.heap.get? (He.cT K p).2 = some { cls := .none, data := .fields (#[] ++ more) } := hok' _ _ z
          cases (S.empty p hp).symm.trans e
          exact ⟨.inr (.inl ⟨((PySem.W.codeHd_of_K KX (S.hd p hp)).tab (S.empty p hp)).isCodeTable, rfl, #[], more, rfl, k⟩), _, k⟩
        · have k : s'.heap.get? b = some o := (hok' _ _ (un.frzs _ _ _ q)).1
          cases ha.symm.trans e
          exact ⟨.inl k, _, k⟩
    exact ⟨fun b x e => (key b x e).1, fun b x e => (key b x e).2⟩
theorem law_done {P : Program} {w : World} {K : PySem.W.Frag} {mg mb : Str → Option Value} {s : Shared} {a fa : Addr} {vs : List Value} {ns : List Int} (S : SaysK s.heap K) (KX : K.In s.heap) (gm : s.heap.Ns mainGlobals mg) (gb : s.heap.Ns builtinsNs mb)
    (bb : ∀ x : Str, x ≠ "__name__" → mb x = bootBuiltins x) (nl : s.heap.NoLimit) (ng : s.gens = #[]) (bmo : ∃ (bm : Addr) (ob : Obj), mg "__builtins__" = some (.ref bm) ∧ bm ≠ builtinsNs ∧ s.heap.get? bm = some ob ∧ ob.cls = .type "module" ∧ ob.dict = some builtinsNs ∧ ob.data = .plain)
    (ha : s.heap.get? a = some { cls := .type "list", data := .seq vs.toArray }) (hi : IntsAre vs ns) (hz : ns.length ≤ 63) (hfa : mg ("law" : Str) = some (.ref fa)) :
    codeAny (model P w) callerA (.call (.ref fa) ⟨[.ref a], []⟩) (fun r s' => r = .ok (.ret (.bool true)) ∧ OldK s.heap s'.heap ∧ s'.os = s.os ∧ AllBare s'.gens) s := by
  obtain ⟨base, H, W, e0, T, hS, last⟩ := law_start (P := P) (w := w) S KX gm gb bb nl ng bmo ha hi (by rw [sizeLine_eq]; omega)
  obtain ⟨f, fd, F, hm, _, hb⟩ := (ok_all W).ex
  cases hm.symm.trans hfa
  have bd := hb s [.ref a] KX rfl
  rw [List.append_nil] at bd
  refine codeAny_mono (F.run callerA [] s H ⟨[.ref a], []⟩ [.ref a] [.ref a] (fun v _ => v = .bl true) ⟨rfl, by decide, by decide⟩ rfl e0 bd (.cons rfl .nil) ⟨a, ns, rfl, hS, hz, T, fun _ => rfl⟩) fun r s' q => ?_
  cases r with
  | error e => exact False.elim q
  | ok fl =>
    cases fl with
    | ret u =>
      obtain ⟨v, H', os, bare, un, hok', rv, ev⟩ := q
      subst ev
      obtain rfl : u = Value.bool true := rv
      exact ⟨rfl, last s' H' un hok', os, bare⟩
    | next => exact False.elim q
    | brk => exact False.elim q
    | cont => exact False.elim q
end K7

set_option Elab.async false
set_option linter.all false
set_option maxRecDepth 100000
set_option maxHeartbeats 0
namespace K7
open PySem PySem.Spec PyProof.Rows L2
theorem run (w : World) : HandSHeadRun.RunEq Rw qv hookK ob 20000 names w :=
  run_of ((run_A w).map Prod.fst) ((run_A w).map Prod.snd) ((run_B w).map Prod.fst) ((run_B w).map Prod.snd) ((run_C w).map Prod.fst) ((run_D w).map Prod.fst) ((run_D w).map Prod.snd) ((run_C w).map Prod.snd)
end K7
open PySem PySem.W PySem.Calls PyProof.Rows
theorem PySem.Challenge.cw_sameunions_k71_whole_desks_led_back_holds : PySem.Challenge.rw_sameunions_k71_whole_desks_led_back.Holds := by
  w_on; o_law
  refine HandSHeadRun.head_any (r := K7.Rw) (q := K7.qv) (H := K7.hookK) (ob := K7.ob) (M := 20000) (loose := K7.names) (d := HandSHeadRun.topDef K7.Rw.prog 115) (kwd := []) K7.ob_eq (by kernel_rfl) (fun s => by kernel_rfl) K7.run (by kernel_rfl) (by kernel_rfl) (by kernel_rfl) (by rfl) (by first | assumption | decide +kernel) (by decide +kernel) ⟨rfl, rfl, rfl, rfl, rfl, by decide +kernel⟩ ?hw ?hc
  case hw => w_witness2
  case hc =>
    refine Att.attach_callB (n := 63) rfl (by kernel_rfl) fun w s₀ s₁ mg mb fa o pm cd doc a vs ns G Y ho hd hcd hmg hobj hints hlen hbits hg => ?_
    obtain ⟨K, KX, S⟩ := Y
    have en : (HandSHeadRun.topDef K7.Rw.prog 115).name = ("law" : PySem.Str) := by kernel_rfl
    rw [en] at hmg
    exact K7.law_done S KX G.T.g G.T.b G.T.builtins G.T.nolimit hg G.T.bmain hobj hints hlen hmg

