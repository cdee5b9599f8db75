import PyProof.Rows.All
import Wide.All
import OpenK.AllK
import Wide.FinOn
import HandS.ForMost
import HandS.ForExc
import HandS.Deep
import HandS.IsInst
import HandS.ExcIs
import HandS.SortRule
import PySem.Challenge.RW_siblingshelf_k01_marks
set_option Elab.async false
set_option maxRecDepth 100000
set_option maxHeartbeats 4000000
set_option linter.all false
set_option Elab.async false
set_option maxRecDepth 100000
set_option maxHeartbeats 4000000
/-! Data that stands in the heap: the value v stands for the data d; its lists lie where M does not hold. -/
namespace Sb
open PySem L2
abbrev Frag := PySem.W.Frag

inductive Rp (M : Addr → Prop) (H : Hp) : V → PyData → Prop
  | non : Rp M H .non .none
  | bl (b : Bool) : Rp M H (.bl b) (.bool b)
  | int (i : Int) : Rp M H (.int i) (.int i)
  | str (x : Str) : Rp M H (.str x) (.str x)
  | lst {a : Addr} {xs : List V} {ds : List PyData} : ¬ M a → H a = some (.lst xs) → xs.length = ds.length → (∀ (i : Nat) (x : V) (d : PyData), xs[i]? = some x → ds[i]? = some d → Rp M H x d) → Rp M H (.ref a) (.list ds)
  | tup {a : Addr} {xs : List V} {ds : List PyData} : H a = some (.tup xs) → xs.length = ds.length → (∀ (i : Nat) (x : V) (d : PyData), xs[i]? = some x → ds[i]? = some d → Rp M H x d) → Rp M H (.ref a) (.tuple ds)
/-- item by item -/
def RpA (M : Addr → Prop) (H : Hp) (xs : List V) (ds : List PyData) : Prop := xs.length = ds.length ∧ ∀ (i : Nat) (x : V) (d : PyData), xs[i]? = some x → ds[i]? = some d → Rp M H x d

section
variable {M M' : Addr → Prop} {H H' : Hp} {v x : V} {d : PyData} {xs ys : List V} {ds es : List PyData} {a : Addr}
theorem RpA.nil : RpA M H [] [] := ⟨rfl, fun i x d h => by simp at h⟩
theorem RpA.cons (h : Rp M H x d) (t : RpA M H xs ds) : RpA M H (x :: xs) (d :: ds) := by
  refine ⟨by simp [t.1], fun i y e h1 h2 => ?_⟩
  cases i with
  | zero => simp at h1 h2; subst h1; subst h2; exact h
  | succ i => exact t.2 i y e (by simpa using h1) (by simpa using h2)
theorem RpA.head (h : RpA M H (x :: xs) (d :: ds)) : Rp M H x d := h.2 0 x d rfl rfl
theorem RpA.tail (h : RpA M H (x :: xs) (d :: ds)) : RpA M H xs ds := ⟨by simpa using h.1, fun i y e h1 h2 => h.2 (i + 1) y e (by simpa using h1) (by simpa using h2)⟩
theorem RpA.append (h : RpA M H xs ds) (t : RpA M H ys es) : RpA M H (xs ++ ys) (ds ++ es) := by
  refine ⟨by simp [h.1, t.1], fun i y e h1 h2 => ?_⟩
  by_cases hi : i < xs.length
  · rw [List.getElem?_append_left hi] at h1
    rw [List.getElem?_append_left (by rw [← h.1]; exact hi)] at h2
    exact h.2 i y e h1 h2
  · rw [List.getElem?_append_right (by omega)] at h1
    rw [List.getElem?_append_right (by rw [← h.1]; omega), ← h.1] at h2
    exact t.2 _ y e h1 h2
theorem RpA.snoc (h : RpA M H xs ds) (t : Rp M H x d) : RpA M H (xs ++ [x]) (ds ++ [d]) := h.append (RpA.nil.cons t)
theorem RpA.at (h : RpA M H xs ds) {i : Nat} (e : ds[i]? = some d) : ∃ x, xs[i]? = some x ∧ Rp M H x d := by
  have hi : i < ds.length := (List.getElem?_eq_some_iff.mp e).1
  have hx : i < xs.length := by rw [h.1]; exact hi
  exact ⟨xs[i], List.getElem?_eq_getElem hx, h.2 i _ _ (List.getElem?_eq_getElem hx) e⟩
theorem RpA.atx (h : RpA M H xs ds) {i : Nat} (e : xs[i]? = some x) : ∃ d, ds[i]? = some d ∧ Rp M H x d := by
  have hi : i < xs.length := (List.getElem?_eq_some_iff.mp e).1
  have hx : i < ds.length := by rw [← h.1]; exact hi
  exact ⟨ds[i], List.getElem?_eq_getElem hx, h.2 i _ _ e (List.getElem?_eq_getElem hx)⟩
theorem Rp.lstA (m : ¬ M a) (h : H a = some (.lst xs)) (r : RpA M H xs ds) : Rp M H (.ref a) (.list ds) := .lst m h r.1 r.2
theorem Rp.tupA (h : H a = some (.tup xs)) (r : RpA M H xs ds) : Rp M H (.ref a) (.tuple ds) := .tup h r.1 r.2
theorem Rp.int_inv {i : Int} (h : Rp M H v (.int i)) : v = .int i := by cases h; rfl
theorem Rp.str_inv {i : Str} (h : Rp M H v (.str i)) : v = .str i := by cases h; rfl
theorem Rp.bool_inv {i : Bool} (h : Rp M H v (.bool i)) : v = .bl i := by cases h; rfl
theorem Rp.none_inv (h : Rp M H v .none) : v = .non := by cases h; rfl
theorem Rp.tup_inv (h : Rp M H v (.tuple ds)) : ∃ a xs, v = .ref a ∧ H a = some (.tup xs) ∧ RpA M H xs ds := by
  cases h with
  | tup h1 h2 h3 => exact ⟨_, _, rfl, h1, h2, h3⟩
theorem Rp.lst_inv (h : Rp M H v (.list ds)) : ∃ a xs, v = .ref a ∧ ¬ M a ∧ H a = some (.lst xs) ∧ RpA M H xs ds := by
  cases h with
  | lst h0 h1 h2 h3 => exact ⟨_, _, rfl, h0, h1, h2, h3⟩
/-- what lists and tuples of H there are stand in H' too -/
structure Ext (M M' : Addr → Prop) (H H' : Hp) : Prop where
  tup : ∀ a xs, H a = some (.tup xs) → H' a = some (.tup xs)
  lst : ∀ a xs, ¬ M a → H a = some (.lst xs) → ¬ M' a ∧ H' a = some (.lst xs)
theorem Rp.ext (h : Rp M H v d) (e : Ext M M' H H') : Rp M' H' v d := by
  induction h with
  | non => exact .non
  | bl b => exact .bl b
  | int i => exact .int i
  | str x => exact .str x
  | lst h0 h1 h2 h3 ih => exact .lst (e.lst _ _ h0 h1).1 (e.lst _ _ h0 h1).2 h2 ih
  | tup h1 h2 h3 ih => exact .tup (e.tup _ _ h1) h2 ih
theorem Ext.same (s : Same H H') : Ext M M H H' := ⟨fun a xs h => s a _ h, fun a xs m h => ⟨m, s a _ h⟩⟩
theorem Rp.same (h : Rp M H v d) (s : Same H H') : Rp M H' v d := h.ext (.same s)
theorem RpA.ext (h : RpA M H xs ds) (e : Ext M M' H H') : RpA M' H' xs ds := ⟨h.1, fun i x d h1 h2 => (h.2 i x d h1 h2).ext e⟩
theorem RpA.same (h : RpA M H xs ds) (s : Same H H') : RpA M H' xs ds := h.ext (.same s)
/-- .. as the layer's own data -/
theorem dpAll_of {K : Frag} : ∀ {xs : List V} {ds : List PyData}, xs.length = ds.length → (∀ (i : Nat) (x : V) (d : PyData), xs[i]? = some x → ds[i]? = some d → Dp K H x d) → DpAll K H xs ds
  | [], [], _, _ => .nil
  | x :: xs, d :: ds, h, k => .cons (k 0 x d rfl rfl) (dpAll_of (by simpa using h) fun i y e h1 h2 => k (i + 1) y e (by simpa using h1) (by simpa using h2))
  | [], _ :: _, h, _ => by simp at h
  | _ :: _, [], h, _ => by simp at h
theorem Rp.dp {K : Frag} (h : Rp M H v d) : Dp K H v d := by
  induction h with
  | non => exact .non
  | bl b => exact .bl b
  | int i => exact .int i
  | str x => exact .str x
  | lst h0 h1 h2 h3 ih => exact .lst (SqL.of h1) (dpAll_of h2 ih)
  | tup h1 h2 h3 ih => exact .tup (SqT.of h1) (dpAll_of h2 ih)
/-- data of ints -/
theorem RpA.ints : ∀ {ns : List Int}, RpA M H (ns.map V.int) (ns.map PyData.int)
  | [] => RpA.nil
  | n :: ns => RpA.cons (.int n) RpA.ints
theorem RpA.ints_inv : ∀ {ns : List Int} {xs : List V}, RpA M H xs (ns.map PyData.int) → xs = ns.map V.int
  | [], [], _ => rfl
  | [], x :: xs, h => by have := h.1; simp at this
  | n :: ns, [], h => by have := h.1; simp at this
  | n :: ns, x :: xs, h => by
    have h1 := h.head.int_inv
    have h2 := RpA.ints_inv h.tail
    rw [h1, h2, List.map_cons]
end
end Sb

set_option Elab.async false
set_option maxRecDepth 100000
set_option maxHeartbeats 4000000
set_option linter.all false
/-! Steps of a reading, one a rule. -/
namespace Sb
open PySem L2
section
variable {K : Frag} {σ : L2.St} {H : Hp} {Q : VK} {QT : Bool → Hp → Prop} {QA : List V → Hp → Prop} {D : Ends} {ta tb te : TE} {tt t1 t2 : TT} {tr : TA} {ts tu : TS} {i : Nat} {v x y : V} {b : Bool}
theorem w_var (h : σ[i]? = some (some v)) (q : Q v H) : tVar i σ H Q := ⟨v, h, q⟩
theorem w_c (q : Q v H) : tC v σ H Q := q
theorem w_nil (q : QA [] H) : tNil σ H QA := q
theorem w_cons (q : ta σ H fun x H1 => tr σ H1 fun xs H2 => QA (x :: xs) H2) : tCons ta tr σ H QA := q
theorem w_op {r : R2} (q : ta σ H fun x H1 => tb σ H1 fun y H2 => r x y H2 Q) : tOp r ta tb σ H Q := q
theorem w_un {r : V → Hp → VK → Prop} (q : ta σ H fun x H1 => r x H1 Q) : tUn r ta σ H Q := q
theorem w_test (q : te σ H fun x H1 => ∃ k, x = .bl k ∧ QT k H1) : tTest te σ H QT := q
theorem w_tB (q : te σ H fun x H1 => ∃ k, x = .bl k ∧ QT k H1) : tB te σ H QT := q
theorem w_bl {R : Bool → Prop} (q : R b) : ∃ k, V.bl b = V.bl k ∧ R k := ⟨b, rfl, q⟩
theorem w_and (q : t1 σ H fun c H1 => if c = true then t2 σ H1 QT else QT false H1) : tAnd t1 t2 σ H QT := q
theorem w_or (q : t1 σ H fun c H1 => if c = true then QT true H1 else t2 σ H1 QT) : tOr t1 t2 σ H QT := q
theorem w_not (q : tt σ H fun c H1 => QT (!c) H1) : tNot tt σ H QT := q
theorem w_andV (q : ta σ H fun x H1 => ∃ c, x = .bl c ∧ if c = true then tb σ H1 Q else Q (.bl false) H1) : tAndV ta tb σ H Q := q
theorem w_orV (q : ta σ H fun x H1 => ∃ c, x = .bl c ∧ if c = true then Q (.bl true) H1 else tb σ H1 Q) : tOrV ta tb σ H Q := q
theorem w_notV (q : ta σ H fun x H1 => ∃ c, x = .bl c ∧ Q (.bl (!c)) H1) : tNotV ta σ H Q := q
theorem w_if (q : tt σ H fun c H1 => if c = true then ta σ H1 Q else tb σ H1 Q) : tIf tt ta tb σ H Q := q
theorem w_ifS (q : tt σ H fun c H1 => if c = true then ts D σ H1 else tu D σ H1) : tIfS tt ts tu D σ H := q
theorem w_seq (q : ts { D with nx := tu D } σ H) : tSeq ts tu D σ H := q
theorem w_set (q : te σ H fun x H1 => D.nx (σ.set i (some x)) H1) : tAsg te (gName i) D σ H := q
theorem w_asg {g : TG} (q : te σ H fun x H1 => g x σ H1 D.nx) : tAsg te g D σ H := q
theorem w_ret (q : te σ H D.rt) : tRet te D σ H := q
theorem w_retN (q : D.rt .non H) : tRetN D σ H := q
theorem w_drop (q : te σ H fun _ H1 => D.nx σ H1) : tDrop te D σ H := q
theorem w_next (q : D.nx σ H) : tNext D σ H := q
theorem w_gName {Qs : L2.St → Hp → Prop} (q : Qs (σ.set i (some v)) H) : gName i v σ H Qs := q
theorem w_I0 {g : Int → Int → V} {i j : Int} (q : Q (g i j) H) : rI0 g (.int i) (.int j) H Q := ⟨i, j, rfl, rfl, q⟩
theorem w_I {C : Int → Int → Prop} {g : Int → Int → V} {i j : Int} (c : C i j) (q : Q (g i j) H) : rI C g (.int i) (.int j) H Q := ⟨i, j, rfl, rfl, c, q⟩
theorem w_eq (h : scal x y = true) (q : Q (.bl (decide (x = y))) H) : rEq x y H Q := ⟨h, q⟩
theorem w_ne (h : scal x y = true) (q : Q (.bl (!decide (x = y))) H) : rNe x y H Q := ⟨h, q⟩
theorem w_CB {r : List V → Hp → VK → Prop} (q : tr σ H fun vs H1 => r vs H1 Q) : tCB r tr σ H Q := q
theorem w_call {sp : Sp} {dvs : List V} {E : XK} (q : tr σ H fun vs H1 => sp (vs ++ dvs) H1 Q E) : tCall sp dvs E tr σ H Q := q
theorem w_callS {sp : Sp} {E : L2.St → XK} (q : tr σ H fun vs H1 => sp vs H1 Q (E σ)) : tCallS sp E tr σ H Q := q
end
end Sb

set_option Elab.async false
set_option maxRecDepth 100000
set_option maxHeartbeats 4000000
set_option linter.all false
/-! Comprehensions whose turns only add to the heap: the new list's data, item by item. -/
namespace Sb
open PySem L2
/-- a new address is not among the changing ones -/
def Fr (M : Addr → Prop) (H : Hp) : Prop := ∀ a, H a = none → ¬ M a
theorem Fr.same {M : Addr → Prop} {H H' : Hp} (f : Fr M H) (s : Same H H') : Fr M H' := fun a h => f a (s.free h)
section
variable {M M' M'' : Addr → Prop} {H H' H'' : Hp} {v x : V} {d : PyData} {xs ys : List V} {ds es : List PyData} {a p : Addr} {o : HO}
theorem Ext.trans (e : Ext M M' H H') (e' : Ext M' M'' H' H'') : Ext M M'' H H'' :=
  ⟨fun a xs h => e'.tup a xs (e.tup a xs h), fun a xs m h => e'.lst a xs (e.lst a xs m h).1 (e.lst a xs m h).2⟩
/-- one address more changes: it was new -/
theorem Ext.fresh (s : Same H H') (h : H p = none) : Ext M (fun a => M a ∨ a = p) H H' :=
  ⟨fun a xs e => s a _ e, fun a xs m e => ⟨fun z => z.elim m fun z => (by subst z; rw [h] at e; cases e), s a _ e⟩⟩
/-- fewer change -/
theorem Ext.less (k : ∀ a, M' a → M a) : Ext M M' H H := ⟨fun _ _ e => e, fun a xs m e => ⟨fun z => m (k a z), e⟩⟩
/-- the changing one is written -/
theorem Ext.write (m : M p) (hp : ∀ xs, H p ≠ some (.tup xs)) : Ext M M H (upd H p o) := by
  refine ⟨fun a xs e => ?_, fun a xs n e => ⟨n, ?_⟩⟩
  · rw [upd_ne (fun z => by subst z; exact hp xs e)]; exact e
  · rw [upd_ne (fun z => by subst z; exact n m)]; exact e
theorem Same.new (h : H p = none) : Same H (upd H p o) := fun b u e => by rw [upd_ne (ne_of_none e h)]; exact e
theorem Same.mut (s : Same H H') (h : H p = none) : Same H (upd H' p o) := fun b u e => by rw [upd_ne (ne_of_none e h)]; exact s b u e
/-- one turn of a comprehension -/
abbrev LcItem (g : TG) (tt : TT) (te : TE) (vs : List Nat) (σ : L2.St) (x : V) (H : Hp) (Yes : V → Hp → Prop) (No : Hp → Prop) : Prop :=
  g x (wipe σ vs) H fun σ2 H2 => wipe σ2 vs = wipe σ vs ∧ tt σ2 H2 fun b H3 => if b = true then te σ2 H3 Yes else No H3
/-- what stands between two turns -/
def LcInv (M : Addr → Prop) (H1 : Hp) (D : Addr) (es : List PyData) (H : Hp) : Prop := Same H1 H ∧ ∃ ys, H D = some (.lst ys) ∧ RpA (fun a => M a ∨ a = D) H ys es
variable {g : TG} {tt : TT} {te : TE} {vs : List Nat} {σ : L2.St} {H1 : Hp} {D : Addr} {Qd : Addr → Hp → Prop}
theorem LcInv.start (hD : H1 D = none) : LcInv M H1 D [] (upd H1 D (.lst [])) := ⟨Same.new hD, [], upd_same, RpA.nil⟩
theorem LcInv.more {Hx H4 : Hp} {y : V} {e : PyData} (hD : H1 D = none) (w : LcInv M H1 D es Hx) (s : Same Hx H4) (r : Rp (fun a => M a ∨ a = D) H4 y e) (hl : es.length < sizeLine) :
    ∃ acc, H4 D = some (.lst acc) ∧ acc.length < sizeLine ∧ LcInv M H1 D (es ++ [e]) (upd H4 D (.lst (acc ++ [y]))) := by
  obtain ⟨s1, ys, hy, ra⟩ := w
  have h4 := s D _ hy
  have ex : Ext (fun a => M a ∨ a = D) (fun a => M a ∨ a = D) H4 (upd H4 D (.lst (ys ++ [y]))) := Ext.write (.inr rfl) fun xs z => by rw [h4] at z; cases z
  refine ⟨ys, h4, by rw [ra.1]; exact hl, Same.mut (Same.trans s1 s) hD, _, upd_same, ?_⟩
  exact ((ra.same s).snoc r).ext ex
theorem LcInv.out (fr : Fr M H1) (hD : H1 D = none) (w : LcInv M H1 D es H) : Same H1 H ∧ Rp M H (.ref D) (.list es) := by
  obtain ⟨s, ys, hy, ra⟩ := w
  exact ⟨s, .lstA (fr D hD) hy (ra.ext (Ext.less fun a z => .inl z))⟩
theorem LcInv.ext (hD : H1 D = none) (w : LcInv M H1 D es H) : Ext M (fun a => M a ∨ a = D) H1 H := Ext.fresh w.1 hD
theorem LcInv.fr (fr : Fr M H1) (w : LcInv M H1 D es H) : Fr (fun a => M a ∨ a = D) H := fun a h z => by
  rcases z with z | z
  · exact fr a (w.1.free h) z
  · obtain ⟨_, ys, hy, _⟩ := w
    rw [z, hy] at h; cases h
theorem fm_take {δ : Type} {f : δ → Option PyData} {ds : List δ} {i : Nat} {d : δ} (h : ds[i]? = some d) : (ds.take (i + 1)).filterMap f = (ds.take i).filterMap f ++ (f d).toList := by
  have hi := (List.getElem?_eq_some_iff.mp h).1
  have e : ds.take (i + 1) = ds.take i ++ [d] := by
    rw [List.take_succ, h]; rfl
  rw [e, List.filterMap_append]
  cases q : f d <;> simp [q]
/-- over a list -/
theorem lcL {K : Frag} {δ : Type} {a : Addr} {xs : List V} (ds : List δ) (f : δ → Option PyData) (M : Addr → Prop) (fr : Fr M H1) (hl : SqL K H1 a xs) (hlen : xs.length = ds.length) (hz : ds.length ≤ sizeLine)
    (hs : ∀ (i : Nat) (x : V) (d : δ) (H2 : Hp) (M' : Addr → Prop) (Yes : V → Hp → Prop) (No : Hp → Prop), xs[i]? = some x → ds[i]? = some d → Same H1 H2 → Ext M M' H1 H2 → Fr M' H2 → (∀ y H4 e, f d = some e → Same H2 H4 → Rp M' H4 y e → Yes y H4) → (∀ H4, f d = none → Same H2 H4 → No H4) → LcItem g tt te vs σ x H2 Yes No)
    (hd : ∀ D H', H1 D = none → Same H1 H' → Rp M H' (.ref D) (.list (ds.filterMap f)) → Qd D H') :
    ∀ D, H1 D = none → ∃ W : Nat → Nat → Hp → Prop, (∃ m, W 0 m (upd H1 D (.lst []))) ∧ ∀ i m H, W i m H →
      ((Itl K a).stop i H ∧ Qd D H) ∨ ((Itl K a).go i H ∧ ∃ Nx : Hp → Prop, (∀ H', Nx H' → ∃ m', m' < m ∧ W (i + 1) m' H') ∧ ∀ x H', (Itl K a).yld i H x H' → g x (wipe σ vs) H' fun σ2 H2 => wipe σ2 vs = wipe σ vs ∧ tt σ2 H2 fun b H3 =>
        if b = true then te σ2 H3 fun y H4 => ∃ acc, H4 D = some (.lst acc) ∧ acc.length < sizeLine ∧ Nx (upd H4 D (.lst (acc ++ [y]))) else Nx H3) := by
  intro D hD
  refine lc_list (K := K) (a := a) (xs := xs) (fun i H => LcInv M H1 D ((ds.take i).filterMap f) H) (by simpa using LcInv.start hD) (fun i H _ w => w.1.seq hl) (fun i x H hx w => ?_) (fun H w => ?_)
  · obtain ⟨d, hdd⟩ : ∃ d, ds[i]? = some d := by
      have := (List.getElem?_eq_some_iff.mp hx).1
      exact ⟨_, List.getElem?_eq_getElem (by omega)⟩
    have hi := (List.getElem?_eq_some_iff.mp hdd).1
    refine hs i x d H _ (fun y H4 => _) (fun H4 => _) hx hdd w.1 (w.ext hD) (w.fr fr) (fun y H4 e he s r => ?_) (fun H4 he s => ?_)
    · obtain ⟨acc, h1, h2, h3⟩ := w.more hD s r (Nat.lt_of_le_of_lt (List.length_filterMap_le f (ds.take i)) (by rw [List.length_take]; omega))
      refine ⟨acc, h1, h2, ?_⟩
      rw [fm_take hdd, he]; exact h3
    · rw [fm_take hdd, he]
      obtain ⟨s1, ys, hy, ra⟩ := w
      exact ⟨Same.trans s1 s, ys, s _ _ hy, by simpa using ra.same s⟩
  · rw [hlen, List.take_length] at w
    obtain ⟨s, r⟩ := w.out fr hD
    exact hd D H hD s r
/-- over a tuple -/
theorem lcT {K : Frag} {δ : Type} {a : Addr} {xs : List V} (ds : List δ) (f : δ → Option PyData) (M : Addr → Prop) (fr : Fr M H1) (hl : H1 a = some (.tup xs)) (hlen : xs.length = ds.length) (hz : ds.length ≤ sizeLine)
    (hs : ∀ (i : Nat) (x : V) (d : δ) (H2 : Hp) (M' : Addr → Prop) (Yes : V → Hp → Prop) (No : Hp → Prop), xs[i]? = some x → ds[i]? = some d → Same H1 H2 → Ext M M' H1 H2 → Fr M' H2 → (∀ y H4 e, f d = some e → Same H2 H4 → Rp M' H4 y e → Yes y H4) → (∀ H4, f d = none → Same H2 H4 → No H4) → LcItem g tt te vs σ x H2 Yes No)
    (hd : ∀ D H', H1 D = none → Same H1 H' → Rp M H' (.ref D) (.list (ds.filterMap f)) → Qd D H') :
    ∀ D, H1 D = none → ∃ W : Nat → Nat → Hp → Prop, (∃ m, W 0 m (upd H1 D (.lst []))) ∧ ∀ i m H, W i m H →
      ((Itt K a).stop i H ∧ Qd D H) ∨ ((Itt K a).go i H ∧ ∃ Nx : Hp → Prop, (∀ H', Nx H' → ∃ m', m' < m ∧ W (i + 1) m' H') ∧ ∀ x H', (Itt K a).yld i H x H' → g x (wipe σ vs) H' fun σ2 H2 => wipe σ2 vs = wipe σ vs ∧ tt σ2 H2 fun b H3 =>
        if b = true then te σ2 H3 fun y H4 => ∃ acc, H4 D = some (.lst acc) ∧ acc.length < sizeLine ∧ Nx (upd H4 D (.lst (acc ++ [y]))) else Nx H3) := by
  intro D hD
  refine lc_tup (K := K) (a := a) (xs := xs) (fun i H => LcInv M H1 D ((ds.take i).filterMap f) H) (by simpa using LcInv.start hD) (fun i H _ w => SqT.of (w.1 a _ hl)) (fun i x H hx w => ?_) (fun H w => ?_)
  · obtain ⟨d, hdd⟩ : ∃ d, ds[i]? = some d := by
      have := (List.getElem?_eq_some_iff.mp hx).1
      exact ⟨_, List.getElem?_eq_getElem (by omega)⟩
    have hi := (List.getElem?_eq_some_iff.mp hdd).1
    refine hs i x d H _ (fun y H4 => _) (fun H4 => _) hx hdd w.1 (w.ext hD) (w.fr fr) (fun y H4 e he s r => ?_) (fun H4 he s => ?_)
    · obtain ⟨acc, h1, h2, h3⟩ := w.more hD s r (Nat.lt_of_le_of_lt (List.length_filterMap_le f (ds.take i)) (by rw [List.length_take]; omega))
      refine ⟨acc, h1, h2, ?_⟩
      rw [fm_take hdd, he]; exact h3
    · rw [fm_take hdd, he]
      obtain ⟨s1, ys, hy, ra⟩ := w
      exact ⟨Same.trans s1 s, ys, s _ _ hy, by simpa using ra.same s⟩
  · rw [hlen, List.take_length] at w
    obtain ⟨s, r⟩ := w.out fr hD
    exact hd D H hD s r
/-- over a range -/
theorem lcR {lo : Int} (n : Nat) (f : Nat → Option PyData) (M : Addr → Prop) (fr : Fr M H1) (hz : n ≤ sizeLine)
    (hs : ∀ (i : Nat) (H2 : Hp) (M' : Addr → Prop) (Yes : V → Hp → Prop) (No : Hp → Prop), i < n → Same H1 H2 → Ext M M' H1 H2 → Fr M' H2 → (∀ y H4 e, f i = some e → Same H2 H4 → Rp M' H4 y e → Yes y H4) → (∀ H4, f i = none → Same H2 H4 → No H4) → LcItem g tt te vs σ (.int (lo + i)) H2 Yes No)
    (hd : ∀ D H', H1 D = none → Same H1 H' → Rp M H' (.ref D) (.list ((List.range n).filterMap f)) → Qd D H') :
    ∀ D, H1 D = none → ∃ W : Nat → Nat → Hp → Prop, (∃ m, W 0 m (upd H1 D (.lst []))) ∧ ∀ i m H, W i m H →
      ((Itr lo n).stop i H ∧ Qd D H) ∨ ((Itr lo n).go i H ∧ ∃ Nx : Hp → Prop, (∀ H', Nx H' → ∃ m', m' < m ∧ W (i + 1) m' H') ∧ ∀ x H', (Itr lo n).yld i H x H' → g x (wipe σ vs) H' fun σ2 H2 => wipe σ2 vs = wipe σ vs ∧ tt σ2 H2 fun b H3 =>
        if b = true then te σ2 H3 fun y H4 => ∃ acc, H4 D = some (.lst acc) ∧ acc.length < sizeLine ∧ Nx (upd H4 D (.lst (acc ++ [y]))) else Nx H3) := by
  intro D hD
  refine lc_range (fun i H => LcInv M H1 D ((List.range i).filterMap f) H) (by simpa using LcInv.start hD) (fun i H hi w => ?_) (fun H w => ?_)
  · have er : (List.range (i + 1)).filterMap f = (List.range i).filterMap f ++ (f i).toList := by
      rw [List.range_succ, List.filterMap_append]
      cases q : f i <;> simp [q]
    refine hs i H _ (fun y H4 => _) (fun H4 => _) hi w.1 (w.ext hD) (w.fr fr) (fun y H4 e he s r => ?_) (fun H4 he s => ?_)
    · obtain ⟨acc, h1, h2, h3⟩ := w.more hD s r (Nat.lt_of_le_of_lt (List.length_filterMap_le f (List.range i)) (by rw [List.length_range]; omega))
      refine ⟨acc, h1, h2, ?_⟩
      rw [er, he]; exact h3
    · rw [er, he]
      obtain ⟨s1, ys, hy, ra⟩ := w
      exact ⟨Same.trans s1 s, ys, s _ _ hy, by simpa using ra.same s⟩
  · obtain ⟨s, r⟩ := w.out fr hD
    exact hd D H hD s r
end
end Sb

set_option Elab.async false
set_option maxRecDepth 100000
set_option maxHeartbeats 4000000
set_option linter.all false
/-! Marks as data; places; steps that want a fact of the data. -/
namespace Sb
open PySem L2
def markD (m : List Int) : PyData := .tuple (m.map PyData.int)
def joinM (a b : List Int) : List Int := List.zipWith max a b
section
variable {K : Frag} {M : Addr → Prop} {H : Hp} {v x y : V} {d : PyData} {xs : List V} {ds : List PyData} {a : Addr} {Q : VK} {i : Int} {m : List Int}
theorem ixN_nat {n : Nat} {i : Int} {j : Nat} (e : i = (j : Int)) (h : j < n) : ixN n i = some j := by
  unfold ixN
  subst e
  rw [if_pos (by omega), if_pos (by omega)]
  simp
theorem Rp.mark {M' : Addr → Prop} (h : Rp M H v (markD m)) : Rp M' H v (markD m) := by
  obtain ⟨a, xs, rfl, ha, r⟩ := Rp.tup_inv (ds := m.map PyData.int) h
  rw [r.ints_inv] at ha
  exact .tupA ha RpA.ints
/-- t[i] of data -/
theorem w_ixT (j : Nat) (h : Rp M H x (.tuple ds)) (ei : i = (j : Int)) (e : ds[j]? = some d) (q : ∀ v, Rp M H v d → Q v H) : rIxT K x (.int i) H Q := by
  obtain ⟨a, xs, rfl, ha, r⟩ := h.tup_inv
  obtain ⟨v, hv, rv⟩ := r.at e
  exact ⟨a, xs, i, v, rfl, rfl, SqT.of ha, by rw [ei]; exact atI_nat hv, q v rv⟩
theorem w_ixL (j : Nat) (h : Rp M H x (.list ds)) (ei : i = (j : Int)) (e : ds[j]? = some d) (q : ∀ v, Rp M H v d → Q v H) : rIxL K x (.int i) H Q := by
  obtain ⟨a, xs, rfl, _, ha, r⟩ := h.lst_inv
  obtain ⟨v, hv, rv⟩ := r.at e
  exact ⟨a, xs, i, v, rfl, rfl, SqL.of ha, by rw [ei]; exact atI_nat hv, q v rv⟩
theorem w_ixM (j : Nat) (h : Rp M H x (markD m)) (ei : i = (j : Int)) (hj : j < m.length) (q : Q (.int (m.getD j 0)) H) : rIxT K x (.int i) H Q := by
  refine w_ixT j h ei (d := .int (m.getD j 0)) ?_ fun v r => ?_
  · rw [List.getElem?_map, List.getD_eq_getElem?_getD, List.getElem?_eq_getElem hj]; rfl
  · rw [r.int_inv]; exact q
/-- a display -/
def rNewT (xs : List V) (H : Hp) (Q : VK) : Prop := xs.length ≤ sizeLine ∧ ∀ p, H p = none → Q (.ref p) (upd H p (.tup xs))
def rNewL (xs : List V) (H : Hp) (Q : VK) : Prop := xs.length ≤ sizeLine ∧ ∀ p, H p = none → Q (.ref p) (upd H p (.lst xs))
theorem w_tTup {t : TA} {σ : L2.St} (q : t σ H fun xs H1 => rNewT xs H1 Q) : tTup t σ H Q := q
theorem w_tLst {t : TA} {σ : L2.St} (q : t σ H fun xs H1 => rNewL xs H1 Q) : tLst t σ H Q := q
theorem w_newT (r : RpA M H xs ds) (hl : xs.length ≤ sizeLine) (q : ∀ v H2, Same H H2 → Rp M H2 v (.tuple ds) → Q v H2) : rNewT xs H Q :=
  ⟨hl, fun p hp => q _ _ (Same.new hp) (.tupA upd_same (r.same (Same.new hp)))⟩
theorem w_newL (fr : Fr M H) (r : RpA M H xs ds) (hl : xs.length ≤ sizeLine) (q : ∀ v H2, Same H H2 → Rp M H2 v (.list ds) → Q v H2) : rNewL xs H Q :=
  ⟨hl, fun p hp => q _ _ (Same.new hp) (.lstA (fr p hp) upd_same (r.same (Same.new hp)))⟩
theorem sz_small {n : Nat} (h : n ≤ 100000) : n ≤ sizeLine := Nat.le_trans h (by decide)
theorem sz_smallL {n : Nat} (h : n < 100000) : n < sizeLine := Nat.lt_of_lt_of_le h (by decide)
/-! named readings of calls -/
def rTup (K : Frag) : List V → Hp → VK → Prop := fun xs H Q => ∃ p ys, xs = [.ref p] ∧ ((SqL K H p ys ∧ ∀ l, H l = none → Q (.ref l) (upd H l (.tup ys))) ∨ (SqT K H p ys ∧ Q (.ref p) H))
theorem cl_tup {X : Cx} : CallR X (.type "tuple") (rTup X.K) := call_tuple_of
def rLst (K : Frag) : List V → Hp → VK → Prop := fun xs H Q => ∃ p ys, xs = [.ref p] ∧ (SqL K H p ys ∨ SqT K H p ys) ∧ ∀ l, H l = none → Q (.ref l) (upd H l (.lst ys))
theorem cl_lst {X : Cx} : CallR X (.type "list") (rLst X.K) := call_list_of
def rLen (K : Frag) : List V → Hp → VK → Prop := fun xs H Q => ∃ p ys, xs = [.ref p] ∧ (SqL K H p ys ∨ SqT K H p ys) ∧ Q (.int ys.length) H
theorem cl_len {X : Cx} : CallR X (.builtin "len") (rLen X.K) := call_len_seq
def rMx : List V → Hp → VK → Prop := fun xs H Q => ∃ i j, xs = [.int i, .int j] ∧ Q (.int (if j > i then j else i)) H
theorem cl_max {X : Cx} (hc : X.calm = true) : CallR X (.builtin "max") rMx := call_max2 hc
/-- tuple(x), list(x) of new lists and tuples -/
theorem w_tupleL (h : Rp M H x (.list ds)) (q : ∀ v H2, Same H H2 → Rp M H2 v (.tuple ds) → Q v H2) : rTup K [x] H Q := by
  obtain ⟨a, xs, rfl, m, ha, r⟩ := h.lst_inv
  exact ⟨a, xs, rfl, .inl ⟨SqL.of ha, fun l hl => q _ _ (Same.new hl) (.tupA upd_same (r.same (Same.new hl)))⟩⟩
theorem w_listT (fr : Fr M H) (h : Rp M H x (.tuple ds)) (q : ∀ v H2, Same H H2 → Rp M H2 v (.list ds) → Q v H2) : rLst K [x] H Q := by
  obtain ⟨a, xs, rfl, ha, r⟩ := h.tup_inv
  exact ⟨a, xs, rfl, .inr (SqT.of ha), fun l hl => q _ _ (Same.new hl) (.lstA (fr l hl) upd_same (r.same (Same.new hl)))⟩
theorem w_listL (fr : Fr M H) (h : Rp M H x (.list ds)) (q : ∀ v H2, Same H H2 → Rp M H2 v (.list ds) → Q v H2) : rLst K [x] H Q := by
  obtain ⟨a, xs, rfl, m, ha, r⟩ := h.lst_inv
  exact ⟨a, xs, rfl, .inl (SqL.of ha), fun l hl => q _ _ (Same.new hl) (.lstA (fr l hl) upd_same (r.same (Same.new hl)))⟩
/-- len -/
theorem w_lenT (h : Rp M H x (.tuple ds)) (q : Q (.int ds.length) H) : rLen K [x] H Q := by
  obtain ⟨a, xs, rfl, ha, r⟩ := h.tup_inv
  exact ⟨a, xs, rfl, .inr (SqT.of ha), by rw [r.1]; exact q⟩
theorem w_lenL (h : Rp M H x (.list ds)) (q : Q (.int ds.length) H) : rLen K [x] H Q := by
  obtain ⟨a, xs, rfl, m, ha, r⟩ := h.lst_inv
  exact ⟨a, xs, rfl, .inl (SqL.of ha), by rw [r.1]; exact q⟩
theorem w_lenM (h : Rp M H x (markD m)) (q : Q (.int m.length) H) : rLen K [x] H Q := w_lenT h (by rw [List.length_map]; exact q)
theorem w_lenS (h : SqL K H a xs) (q : Q (.int xs.length) H) : rLen K [.ref a] H Q := ⟨a, xs, rfl, .inl h, q⟩
theorem w_max {i j : Int} (q : Q (.int (max i j)) H) : rMx [.int i, .int j] H Q := by
  refine ⟨i, j, rfl, ?_⟩
  have e : (if j > i then j else i) = max i j := by
    rw [Int.max_def]; split <;> split <;> omega
  rw [e]; exact q
/-- a comprehension's beginning -/
theorem w_lc {wi : TI} {g : TG} {tt : TT} {te : TE} {vs : List Nat} {σ : L2.St} (q : wi σ H fun J H1 => ∀ D, H1 D = none → ∃ W : Nat → Nat → Hp → Prop, (∃ m, W 0 m (upd H1 D (.lst []))) ∧ ∀ i m H, W i m H →
  (J.stop i H ∧ Q (.ref D) H) ∨ (J.go i H ∧ ∃ Nx : Hp → Prop, (∀ H', Nx H' → ∃ m', m' < m ∧ W (i + 1) m' H') ∧ ∀ x H', J.yld i H x H' → g x (wipe σ vs) H' fun σ2 H2 => wipe σ2 vs = wipe σ vs ∧ tt σ2 H2 fun b H3 =>
    if b = true then te σ2 H3 fun y H4 => ∃ acc, H4 D = some (.lst acc) ∧ acc.length < sizeLine ∧ Nx (upd H4 D (.lst (acc ++ [y]))) else Nx H3)) : tLc wi g tt te vs σ H Q := q
/-- a turn without a test, with one -/
theorem w_it0 {te : TE} {vs : List Nat} {σ : L2.St} {i : Nat} {Yes : V → Hp → Prop} {No : Hp → Prop} (hw : wipe ((wipe σ vs).set i (some x)) vs = wipe σ vs) (q : te ((wipe σ vs).set i (some x)) H Yes) : LcItem (gName i) tYes te vs σ x H Yes No :=
  ⟨hw, iteT (B := No H) q⟩
theorem w_it1 {te : TE} {tt : TT} {vs : List Nat} {σ : L2.St} {i : Nat} {Yes : V → Hp → Prop} {No : Hp → Prop} (hw : wipe ((wipe σ vs).set i (some x)) vs = wipe σ vs)
    (q : tt ((wipe σ vs).set i (some x)) H fun b H3 => if b = true then te ((wipe σ vs).set i (some x)) H3 Yes else No H3) : LcItem (gName i) tt te vs σ x H Yes No := ⟨hw, q⟩
section
variable {R : It → Hp → Prop} {ta : TA} {te : TE} {σ : L2.St}
theorem w_iRng1 (q : ta σ H fun vs H1 => ∃ j : Int, vs = [.int j] ∧ -(2 ^ 62) ≤ j ∧ j < 2 ^ 62 ∧ R (Itr 0 j.toNat) H1) : iRng1 ta σ H R := q
theorem w_iRng2 (q : ta σ H fun vs H1 => ∃ i j : Int, vs = [.int i, .int j] ∧ (-(2 ^ 62) ≤ i ∧ i < 2 ^ 62 ∧ -(2 ^ 62) ≤ j ∧ j < 2 ^ 62) ∧ R (Itr i (j - i).toNat) H1) : iRng2 ta σ H R := q
theorem w_iList (q : te σ H fun x H1 => ∃ a, x = .ref a ∧ (∃ xs, SqL K H1 a xs) ∧ R (Itl K a) H1) : iList K te σ H R := q
theorem w_iTup (q : te σ H fun x H1 => ∃ a, x = .ref a ∧ (∃ xs, SqT K H1 a xs) ∧ R (Itt K a) H1) : iTup K te σ H R := q
end
theorem joinM_get {m n : List Int} (e : m.length = n.length) {i : Nat} (hi : i < m.length) : (joinM m n)[i]? = some (max (m.getD i 0) (n.getD i 0)) := by
  unfold joinM
  rw [List.getElem?_zipWith, List.getElem?_eq_getElem hi, List.getElem?_eq_getElem (by omega), List.getD_eq_getElem?_getD, List.getD_eq_getElem?_getD, List.getElem?_eq_getElem hi, List.getElem?_eq_getElem (by omega)]
  rfl
theorem joinM_len {m n : List Int} (e : m.length = n.length) : (joinM m n).length = m.length := by
  unfold joinM
  rw [List.length_zipWith]; omega
theorem fm_some {f : Nat → PyData} (n : Nat) : (List.range n).filterMap (fun i => some (f i)) = (List.range n).map f := by
  rw [List.filterMap_eq_map']
theorem range_map_eq {α : Type} {f : Nat → α} {l : List α} {n : Nat} (hn : l.length = n) (h : ∀ i, i < n → l[i]? = some (f i)) : (List.range n).map f = l := by
  refine List.ext_getElem? fun i => ?_
  by_cases hi : i < n
  · rw [List.getElem?_map, List.getElem?_range hi, h i hi]; rfl
  · rw [List.getElem?_eq_none (by simp; omega), List.getElem?_eq_none (by omega)]
theorem fm_join {m n : List Int} (e : m.length = n.length) : (List.range ((m.length : Int)).toNat).filterMap (fun i => some (PyData.int (max (m.getD i 0) (n.getD i 0)))) = (joinM m n).map PyData.int := by
  rw [fm_some]
  refine range_map_eq (by rw [List.length_map, joinM_len e]; omega) fun i hi => ?_
  rw [List.getElem?_map, joinM_get e (by omega)]; rfl
/-- isinstance -/
theorem isi_of {t c : String} {b : Bool} (h : TyX K H x (.type t)) (k : kitB t c = some b) (q : Q (.bl b) H) : rIsi K [x, .ty c] H Q :=
  ⟨x, .ty c, .type t, .type c, b, rfl, .ty c, h, kit_ty k, q⟩
theorem Rp.tyT (h : Rp M H x (.tuple ds)) : TyX K H x (.type "tuple") := by
  obtain ⟨a, xs, rfl, ha, r⟩ := h.tup_inv
  exact .base (.tup ha)
theorem Rp.tyL (h : Rp M H x (.list ds)) : TyX K H x (.type "list") := by
  obtain ⟨a, xs, rfl, m, ha, r⟩ := h.lst_inv
  exact .base (.lst ha)
theorem w_isiTT (h : Rp M H x (.tuple ds)) (q : Q (.bl true) H) : rIsi K [x, .ty "tuple"] H Q := isi_of h.tyT (by decide +kernel) q
theorem w_isiLL (h : Rp M H x (.list ds)) (q : Q (.bl true) H) : rIsi K [x, .ty "list"] H Q := isi_of h.tyL (by decide +kernel) q
theorem w_isiLT (h : Rp M H x (.list ds)) (q : Q (.bl false) H) : rIsi K [x, .ty "tuple"] H Q := isi_of h.tyL (by decide +kernel) q
theorem w_isiII (q : Q (.bl true) H) : rIsi K [.int i, .ty "int"] H Q := isi_of (.base (.int i)) (by decide +kernel) q
theorem w_isiIB (q : Q (.bl false) H) : rIsi K [.int i, .ty "bool"] H Q := isi_of (.base (.int i)) (by decide +kernel) q
theorem w_isiBB {b : Bool} (q : Q (.bl true) H) : rIsi K [.bl b, .ty "bool"] H Q := isi_of (.base (.bl b)) (by decide +kernel) q
theorem w_isiBI {b : Bool} (q : Q (.bl true) H) : rIsi K [.bl b, .ty "int"] H Q := isi_of (.base (.bl b)) (by decide +kernel) q
theorem w_isiSI {b : Str} (q : Q (.bl false) H) : rIsi K [.str b, .ty "int"] H Q := isi_of (.base (.str b)) (by decide +kernel) q
theorem w_isiNI (q : Q (.bl false) H) : rIsi K [.non, .ty "int"] H Q := isi_of (.base .non) (by decide +kernel) q
theorem w_isiSS {b : Str} (q : Q (.bl true) H) : rIsi K [.str b, .ty "str"] H Q := isi_of (.base (.str b)) (by decide +kernel) q
/-- for -/
theorem w_for {wi : TI} {g : TG} {tb : TS} {D : Ends} {σ : L2.St} (q : wi σ H fun J H1 => ∃ W : Nat → Nat → L2.St → Hp → Prop, (∃ m, W 0 m σ H1) ∧ ∀ i m σ H, W i m σ H →
  (J.stop i H ∧ D.nx σ H) ∨ (J.go i H ∧ ∃ N : L2.St → Hp → Prop, (∀ σ' H', N σ' H' → ∃ m', m' < m ∧ W (i + 1) m' σ' H') ∧ ∀ x H', J.yld i H x H' → g x σ H' fun σ2 H2 => tb { D with nx := N, ct := N, bk := D.nx } σ2 H2)) : tFor wi g tb D σ H := q
/-- s[i] of a list as it stands -/
theorem w_ixS (j : Nat) (h : SqL K H a xs) (ei : i = (j : Int)) (e : xs[j]? = some v) (q : Q v H) : rIxL K (.ref a) (.int i) H Q := ⟨a, xs, i, v, rfl, rfl, h, by rw [ei]; exact atI_nat e, q⟩
end
theorem w_bm {K : Frag} {T : String} {r : V → List V → Hp → VK → Prop} {to : TE} {t : TA} {σ : L2.St} {H : Hp} {Q : VK} (q : to σ H fun x H1 => tyV K T x H1 ∧ t σ H1 fun xs H2 => r x xs H2 Q) : tBM K T r to t σ H Q := q
theorem ty_lst {K : Frag} {H : Hp} {a : Addr} {xs : List V} (h : SqL K H a xs) : tyV K "list" (.ref a) H := .inl ⟨rfl, xs, h⟩
/-- if c: x = e (and no else): both ways meet with a value of which P holds -/
theorem w_ifJoin {c : Prop} [Decidable c] {ts : TS} {D : Ends} {σ : L2.St} {H : Hp} (i : Nat) (old : V) (P : V → Prop) (hold : σ.set i (some old) = σ) (po : ¬ c → P old) (key : ∀ x, P x → D.nx (σ.set i (some x)) H)
    (hA : ∀ N : L2.St → Hp → Prop, (∀ x, P x → N (σ.set i (some x)) H) → c → ts { D with nx := N } σ H) : if c then ts D σ H else tNext D σ H := by
  by_cases h : c
  · rw [if_pos h]; exact hA D.nx key h
  · rw [if_neg h]
    show D.nx σ H
    have := key old (po h)
    rw [hold] at this
    exact this
theorem w_projn {f bk ct : L2.St → Hp → Prop} {rt : VK} {σ : L2.St} {H : Hp} (q : f σ H) : (Ends.mk f rt bk ct).nx σ H := q
theorem w_projr {f bk ct : L2.St → Hp → Prop} {rt : VK} {v : V} {H : Hp} (q : rt v H) : (Ends.mk f rt bk ct).rt v H := q
/-- a cut behind a statement -/
theorem w_cut {ts tu : TS} {D : Ends} {σ : L2.St} {H : Hp} (mid : L2.St → Hp → Prop) (h1 : ∀ N : L2.St → Hp → Prop, (∀ σ' H', mid σ' H' → N σ' H') → ts { D with nx := N } σ H) (h2 : ∀ σ' H', mid σ' H' → tu D σ' H') : tSeq ts tu D σ H := h1 (tu D) h2
theorem iteD {c : Prop} [Decidable c] {A B : Prop} (h : c) (q : A) : if decide c = true then A else B := by rw [if_pos (decide_eq_true h)]; exact q
theorem iteDn {c : Prop} [Decidable c] {A B : Prop} (h : ¬ c) (q : B) : if decide c = true then A else B := by rw [if_neg (fun z => h (of_decide_eq_true z))]; exact q
theorem iteN {b : Bool} {A B : Prop} (h : b = false) (q : B) : if b = true then A else B := by rw [h]; exact iteF q
theorem iteY {b : Bool} {A B : Prop} (h : b = true) (q : A) : if b = true then A else B := by rw [h]; exact iteT q
/-! equal data -/
theorem eqvAll_ints : ∀ m n : List Int, PyData.eqvAll (m.map PyData.int) (n.map PyData.int) = decide (m = n)
  | [], [] => rfl
  | [], _ :: _ => rfl
  | _ :: _, [] => rfl
  | a :: m, b :: n => by
    rw [List.map_cons, List.map_cons]
    unfold PyData.eqvAll
    rw [eqvAll_ints m n]
    unfold PyData.eqv
    by_cases h : a = b <;> by_cases h' : m = n <;> simp [h, h']
theorem eqv_mark (m n : List Int) : PyData.eqv (markD m) (markD n) = decide (m = n) := by
  unfold markD PyData.eqv
  exact eqvAll_ints m n
theorem lay_ints : ∀ m : List Int, PyData.canLayAll0 (m.map PyData.int) = true
  | [] => by simp [PyData.canLayAll0]
  | a :: m => by simp [PyData.canLayAll0, PyData.canLay0, lay_ints m]
theorem depth_ints : ∀ m : List Int, PyData.depthAll (m.map PyData.int) = 0
  | [] => by simp [PyData.depthAll]
  | a :: m => by simp [PyData.depthAll, PyData.depth, depth_ints m]
theorem shaped_mark (m : List Int) : SeqAt.shaped (markD m) = true := by
  unfold SeqAt.shaped markD
  simp [PyData.canLay0, lay_ints, PyData.depth, depth_ints]
section
variable {K : Frag} {M M' : Addr → Prop} {H : Hp} {x y : V} {m n : List Int} {Q : VK}
theorem w_eqM (h : Rp M H x (markD m)) (h' : Rp M' H y (markD n)) (q : Q (.bl (decide (m = n))) H) : rEqD K x y H Q :=
  ⟨_, _, h.dp, h'.dp, shaped_mark m, shaped_mark n, by rw [eqv_mark]; exact q⟩
theorem w_neM (h : Rp M H x (markD m)) (h' : Rp M' H y (markD n)) (q : Q (.bl (!decide (m = n))) H) : rNeD K x y H Q :=
  ⟨_, _, h.dp, h'.dp, shaped_mark m, shaped_mark n, by rw [eqv_mark]; exact q⟩
end
theorem w_chain {r r' : R2} {ta tb tc : TE} {σ : L2.St} {H : Hp} {Q : VK} (q : ta σ H fun x H1 => tb σ H1 fun y H2 => r x y H2 fun z H3 => ∃ k, z = .bl k ∧ (if k = true then tc σ H3 fun w' H4 => r' y w' H4 Q else Q (.bl false) H3)) : tChain r r' ta tb tc σ H Q := q
/-- the law's promise -/
def sp_law (K : Frag) : Sp := fun vs H Q _ => ∃ (b : Addr) (ns : List Int), vs = [.ref b] ∧ SqL K H b (ns.map V.int) ∧ ns.length ≤ 63 ∧ ∀ H', Q (.bl true) H'
section
variable {X : Cx} {o e : Expr} {es : List Expr} {to : TE} {t : TA} {name : Str} {apos cpos pos : Pos} {T id : String} {r : V → List V → Hp → VK → Prop}
theorem pe_bm0K (K : Frag) (hK : X.K = K) (pa : PlainAttrs T) (slot : Slot T name id) (hty : typeOf (.builtin id) = pure (.type "method_descriptor")) (hm : MtR X id r) (ho : PE X o to)
    (hbase : attributeBase o name X.env (eval o X.env) = eval o X.env := by rfl) (hline : (apos.endLine == cpos.line) = true := by rfl) : PE X (.Call (.Attribute o name apos) [] [] cpos) (tBM0 K T r to) :=
  hK ▸ pe_bm0 pa slot hty hm ho hbase hline
theorem pe_bmK (K : Frag) (hK : X.K = K) (pa : PlainAttrs T) (slot : Slot T name id) (hty : typeOf (.builtin id) = pure (.type "method_descriptor")) (hm : MtR X id r) (ho : PE X o to) (ha : PA X (e :: es) t)
    (hbase : attributeBase o name X.env (eval o X.env) = eval o X.env := by rfl)
    (hfew : ((backTo cpos (starEach (e :: es) X.env)).all (fun x => !x.1) && (backToKw cpos (keywordEach [] X.env)).all (fun x => x.1.isSome)
      && decide ((e :: es).length + ([] : List Keyword).length + (if ([] : List Keyword).isEmpty then 0 else 1) < 30)) = true := by rfl)
    (hline : (apos.endLine == cpos.line) = true := by rfl) (hs : starEach (e :: es) X.env = (false, eval e X.env) :: starEach es X.env := by rfl) (hplain : (backTo cpos (starEach es X.env)).any (·.1) = false := by rfl) :
    PE X (.Call (.Attribute o name apos) (e :: es) [] cpos) (tBM K T r to t) := hK ▸ pe_bm pa slot hty hm ho ha hbase hfew hline hs hplain
theorem pe_fldK (K : Frag) (hK : X.K = K) {ta : TE} {f : Str} (he : PE X e ta) (hb : attributeBase e f X.env (eval e X.env) = eval e X.env) : PE X (.Attribute e f pos) (tFld K ta f) := hK ▸ pe_fld he hb
end
end Sb

namespace Sb
open PySem L2
def top (i : Nat) : Stmt := PySem.Challenge.pw_siblingshelf_k01_marks.main.body.getD i (.Pass ⟨0, 0, 0, 0⟩)
abbrev s_blank : Stmt := top 8
abbrev N_blank : List Str := ["many", "keeper"]
theorem sc_blank : FnScope N_blank ["many"] (defScope s_blank) := ⟨rfl, rfl, rfl, by decide +kernel, rfl, by decide +kernel, by decide +kernel⟩
abbrev s_need_alike : Stmt := top 9
abbrev N_need_alike : List Str := ["one", "other"]
theorem sc_need_alike : FnScope N_need_alike ["one", "other"] (defScope s_need_alike) := ⟨rfl, rfl, rfl, by decide +kernel, rfl, by decide +kernel, by decide +kernel⟩
abbrev s_joined : Stmt := top 10
abbrev N_joined : List Str := ["one", "other", "keeper"]
theorem sc_joined : FnScope N_joined ["one", "other"] (defScope s_joined) := ⟨rfl, rfl, rfl, by decide +kernel, rfl, by decide +kernel, by decide +kernel⟩
abbrev s_within : Stmt := top 11
abbrev N_within : List Str := ["one", "other", "keeper"]
theorem sc_within : FnScope N_within ["one", "other"] (defScope s_within) := ⟨rfl, rfl, rfl, by decide +kernel, rfl, by decide +kernel, by decide +kernel⟩
abbrev s_has_seen : Stmt := top 12
abbrev N_has_seen : List Str := ["mark", "keeper", "number"]
theorem sc_has_seen : FnScope N_has_seen ["mark", "keeper", "number"] (defScope s_has_seen) := ⟨rfl, rfl, rfl, by decide +kernel, rfl, by decide +kernel, by decide +kernel⟩
abbrev s_l_cell_at : Stmt := top 14
abbrev N_l_cell_at : List Str := ["_law_script", "_law_k"]
theorem sc_l_cell_at : FnScope N_l_cell_at ["_law_script", "_law_k"] (defScope s_l_cell_at) := ⟨rfl, rfl, rfl, by decide +kernel, rfl, by decide +kernel, by decide +kernel⟩
abbrev s_l_same : Stmt := top 15
abbrev N_l_same : List Str := ["_law_found", "_law_due", "_law_k"]
theorem sc_l_same : FnScope N_l_same ["_law_found", "_law_due"] (defScope s_l_same) := ⟨rfl, rfl, rfl, by decide +kernel, rfl, by decide +kernel, by decide +kernel⟩
abbrev s_l_mark : Stmt := top 16
abbrev N_l_mark : List Str := ["_law_script", "_law_first", "_law_many", "_law_most", "_law_k"]
theorem sc_l_mark : FnScope N_l_mark ["_law_script", "_law_first", "_law_many"] (defScope s_l_mark) := ⟨rfl, rfl, rfl, by decide +kernel, rfl, by decide +kernel, by decide +kernel⟩
abbrev s_l_refusal : Stmt := top 17
abbrev N_l_refusal : List Str := ["_law_sort", "_law_one", "_law_other", "e", "_law_kinds"]
theorem sc_l_refusal : FnScope N_l_refusal ["_law_sort", "_law_one", "_law_other"] (defScope s_l_refusal) := ⟨rfl, rfl, rfl, by decide +kernel, rfl, by decide +kernel, by decide +kernel⟩
abbrev s_law : Stmt := top 18
abbrev N_law : List Str := ["_law_script", "_law_many", "_law_size", "_law_one", "_law_other", "_law_count", "_law_keeper", "_law_number", "_law_seen", "_law_due", "_law_found", "_law_k"]
theorem sc_law : FnScope N_law ["_law_script"] (defScope s_law) := ⟨rfl, rfl, rfl, by decide +kernel, rfl, by decide +kernel, by decide +kernel⟩
structure Ad where
  C_ShelfError : Addr
  C_BadCount : Addr
  C_NoKeeper : Addr
  C_BadMark : Addr
  C_BadNote : Addr
  f_blank : Addr
  d_blank : FuncData
  f_need_alike : Addr
  d_need_alike : FuncData
  f_joined : Addr
  d_joined : FuncData
  f_within : Addr
  d_within : FuncData
  f_has_seen : Addr
  d_has_seen : FuncData
  f_l_cell_at : Addr
  d_l_cell_at : FuncData
  f_l_same : Addr
  d_l_same : FuncData
  f_l_mark : Addr
  d_l_mark : FuncData
  f_l_refusal : Addr
  d_l_refusal : FuncData
  f_law : Addr
  d_law : FuncData
structure Txt (K : Frag) (mg : Str → Option Value) (a : Ad) : Prop where
  n_ValueError : mg "ValueError" = none
  n_bool : mg "bool" = none
  n_int : mg "int" = none
  n_isinstance : mg "isinstance" = none
  n_len : mg "len" = none
  n_max : mg "max" = none
  n_range : mg "range" = none
  n_tuple : mg "tuple" = none
  g_MOST_KEEPERS : ∃ t, mg "MOST_KEEPERS" = some (.int 9 t)
  g_ShelfError : mg "ShelfError" = some (.ref a.C_ShelfError)
  x_ShelfError : PySem.W.excIn K a.C_ShelfError [.type "ValueError", .type "Exception", .type "BaseException", .type "object"] "ValueError.__new__" = true
  k_ShelfError : PySem.W.keepIn K (.ref a.C_ShelfError) = true
  b_ShelfError : PySem.W.subIn K (.ref a.C_ShelfError) (.type "BaseException") = some true
  t_ShelfError : PySem.W.typeIn K (.ref a.C_ShelfError) = some (.type "type")
  h_ShelfError : PySem.W.hasDictIn K a.C_ShelfError = true
  v_ShelfError : PySem.W.subIn K (.ref a.C_ShelfError) (.type "ValueError") = some true
  e_ShelfError : ExcC K a.C_ShelfError
  s_ShelfError_ShelfError : PySem.W.subIn K (.ref a.C_ShelfError) (.ref a.C_ShelfError) = some true
  s_ShelfError_BadCount : PySem.W.subIn K (.ref a.C_ShelfError) (.ref a.C_BadCount) = some false
  s_ShelfError_NoKeeper : PySem.W.subIn K (.ref a.C_ShelfError) (.ref a.C_NoKeeper) = some false
  s_ShelfError_BadMark : PySem.W.subIn K (.ref a.C_ShelfError) (.ref a.C_BadMark) = some false
  s_ShelfError_BadNote : PySem.W.subIn K (.ref a.C_ShelfError) (.ref a.C_BadNote) = some false
  g_BadCount : mg "BadCount" = some (.ref a.C_BadCount)
  x_BadCount : PySem.W.excIn K a.C_BadCount [.type "ValueError", .type "Exception", .type "BaseException", .type "object"] "ValueError.__new__" = true
  k_BadCount : PySem.W.keepIn K (.ref a.C_BadCount) = true
  b_BadCount : PySem.W.subIn K (.ref a.C_BadCount) (.type "BaseException") = some true
  t_BadCount : PySem.W.typeIn K (.ref a.C_BadCount) = some (.type "type")
  h_BadCount : PySem.W.hasDictIn K a.C_BadCount = true
  v_BadCount : PySem.W.subIn K (.ref a.C_BadCount) (.type "ValueError") = some true
  e_BadCount : ExcC K a.C_BadCount
  s_BadCount_ShelfError : PySem.W.subIn K (.ref a.C_BadCount) (.ref a.C_ShelfError) = some true
  s_BadCount_BadCount : PySem.W.subIn K (.ref a.C_BadCount) (.ref a.C_BadCount) = some true
  s_BadCount_NoKeeper : PySem.W.subIn K (.ref a.C_BadCount) (.ref a.C_NoKeeper) = some false
  s_BadCount_BadMark : PySem.W.subIn K (.ref a.C_BadCount) (.ref a.C_BadMark) = some false
  s_BadCount_BadNote : PySem.W.subIn K (.ref a.C_BadCount) (.ref a.C_BadNote) = some false
  g_NoKeeper : mg "NoKeeper" = some (.ref a.C_NoKeeper)
  x_NoKeeper : PySem.W.excIn K a.C_NoKeeper [.type "ValueError", .type "Exception", .type "BaseException", .type "object"] "ValueError.__new__" = true
  k_NoKeeper : PySem.W.keepIn K (.ref a.C_NoKeeper) = true
  b_NoKeeper : PySem.W.subIn K (.ref a.C_NoKeeper) (.type "BaseException") = some true
  t_NoKeeper : PySem.W.typeIn K (.ref a.C_NoKeeper) = some (.type "type")
  h_NoKeeper : PySem.W.hasDictIn K a.C_NoKeeper = true
  v_NoKeeper : PySem.W.subIn K (.ref a.C_NoKeeper) (.type "ValueError") = some true
  e_NoKeeper : ExcC K a.C_NoKeeper
  s_NoKeeper_ShelfError : PySem.W.subIn K (.ref a.C_NoKeeper) (.ref a.C_ShelfError) = some true
  s_NoKeeper_BadCount : PySem.W.subIn K (.ref a.C_NoKeeper) (.ref a.C_BadCount) = some false
  s_NoKeeper_NoKeeper : PySem.W.subIn K (.ref a.C_NoKeeper) (.ref a.C_NoKeeper) = some true
  s_NoKeeper_BadMark : PySem.W.subIn K (.ref a.C_NoKeeper) (.ref a.C_BadMark) = some false
  s_NoKeeper_BadNote : PySem.W.subIn K (.ref a.C_NoKeeper) (.ref a.C_BadNote) = some false
  g_BadMark : mg "BadMark" = some (.ref a.C_BadMark)
  x_BadMark : PySem.W.excIn K a.C_BadMark [.type "ValueError", .type "Exception", .type "BaseException", .type "object"] "ValueError.__new__" = true
  k_BadMark : PySem.W.keepIn K (.ref a.C_BadMark) = true
  b_BadMark : PySem.W.subIn K (.ref a.C_BadMark) (.type "BaseException") = some true
  t_BadMark : PySem.W.typeIn K (.ref a.C_BadMark) = some (.type "type")
  h_BadMark : PySem.W.hasDictIn K a.C_BadMark = true
  v_BadMark : PySem.W.subIn K (.ref a.C_BadMark) (.type "ValueError") = some true
  e_BadMark : ExcC K a.C_BadMark
  s_BadMark_ShelfError : PySem.W.subIn K (.ref a.C_BadMark) (.ref a.C_ShelfError) = some true
  s_BadMark_BadCount : PySem.W.subIn K (.ref a.C_BadMark) (.ref a.C_BadCount) = some false
  s_BadMark_NoKeeper : PySem.W.subIn K (.ref a.C_BadMark) (.ref a.C_NoKeeper) = some false
  s_BadMark_BadMark : PySem.W.subIn K (.ref a.C_BadMark) (.ref a.C_BadMark) = some true
  s_BadMark_BadNote : PySem.W.subIn K (.ref a.C_BadMark) (.ref a.C_BadNote) = some false
  g_BadNote : mg "BadNote" = some (.ref a.C_BadNote)
  x_BadNote : PySem.W.excIn K a.C_BadNote [.type "ValueError", .type "Exception", .type "BaseException", .type "object"] "ValueError.__new__" = true
  k_BadNote : PySem.W.keepIn K (.ref a.C_BadNote) = true
  b_BadNote : PySem.W.subIn K (.ref a.C_BadNote) (.type "BaseException") = some true
  t_BadNote : PySem.W.typeIn K (.ref a.C_BadNote) = some (.type "type")
  h_BadNote : PySem.W.hasDictIn K a.C_BadNote = true
  v_BadNote : PySem.W.subIn K (.ref a.C_BadNote) (.type "ValueError") = some true
  e_BadNote : ExcC K a.C_BadNote
  s_BadNote_ShelfError : PySem.W.subIn K (.ref a.C_BadNote) (.ref a.C_ShelfError) = some true
  s_BadNote_BadCount : PySem.W.subIn K (.ref a.C_BadNote) (.ref a.C_BadCount) = some false
  s_BadNote_NoKeeper : PySem.W.subIn K (.ref a.C_BadNote) (.ref a.C_NoKeeper) = some false
  s_BadNote_BadMark : PySem.W.subIn K (.ref a.C_BadNote) (.ref a.C_BadMark) = some false
  s_BadNote_BadNote : PySem.W.subIn K (.ref a.C_BadNote) (.ref a.C_BadNote) = some true
  F_blank : Fun K "blank" "blank" s_blank a.f_blank a.d_blank
  b_blank : Binds K a.d_blank ["many"] []
  k_blank : PySem.W.keepIn K (.ref a.f_blank) = true
  g_blank : mg "blank" = some (.ref a.f_blank)
  F_need_alike : Fun K "need_alike" "need_alike" s_need_alike a.f_need_alike a.d_need_alike
  b_need_alike : Binds K a.d_need_alike ["one", "other"] []
  k_need_alike : PySem.W.keepIn K (.ref a.f_need_alike) = true
  g_need_alike : mg "need_alike" = some (.ref a.f_need_alike)
  F_joined : Fun K "joined" "joined" s_joined a.f_joined a.d_joined
  b_joined : Binds K a.d_joined ["one", "other"] []
  k_joined : PySem.W.keepIn K (.ref a.f_joined) = true
  g_joined : mg "joined" = some (.ref a.f_joined)
  F_within : Fun K "within" "within" s_within a.f_within a.d_within
  b_within : Binds K a.d_within ["one", "other"] []
  k_within : PySem.W.keepIn K (.ref a.f_within) = true
  g_within : mg "within" = some (.ref a.f_within)
  F_has_seen : Fun K "has_seen" "has_seen" s_has_seen a.f_has_seen a.d_has_seen
  b_has_seen : Binds K a.d_has_seen ["mark", "keeper", "number"] []
  k_has_seen : PySem.W.keepIn K (.ref a.f_has_seen) = true
  g_has_seen : mg "has_seen" = some (.ref a.f_has_seen)
  F_l_cell_at : Fun K "_law_cell_at" "_law_cell_at" s_l_cell_at a.f_l_cell_at a.d_l_cell_at
  b_l_cell_at : Binds K a.d_l_cell_at ["_law_script", "_law_k"] []
  k_l_cell_at : PySem.W.keepIn K (.ref a.f_l_cell_at) = true
  g_l_cell_at : mg "_law_cell_at" = some (.ref a.f_l_cell_at)
  F_l_same : Fun K "_law_same" "_law_same" s_l_same a.f_l_same a.d_l_same
  b_l_same : Binds K a.d_l_same ["_law_found", "_law_due"] []
  k_l_same : PySem.W.keepIn K (.ref a.f_l_same) = true
  g_l_same : mg "_law_same" = some (.ref a.f_l_same)
  F_l_mark : Fun K "_law_mark" "_law_mark" s_l_mark a.f_l_mark a.d_l_mark
  b_l_mark : Binds K a.d_l_mark ["_law_script", "_law_first", "_law_many"] []
  k_l_mark : PySem.W.keepIn K (.ref a.f_l_mark) = true
  g_l_mark : mg "_law_mark" = some (.ref a.f_l_mark)
  F_l_refusal : Fun K "_law_refusal" "_law_refusal" s_l_refusal a.f_l_refusal a.d_l_refusal
  b_l_refusal : Binds K a.d_l_refusal ["_law_sort", "_law_one", "_law_other"] []
  k_l_refusal : PySem.W.keepIn K (.ref a.f_l_refusal) = true
  g_l_refusal : mg "_law_refusal" = some (.ref a.f_l_refusal)
  F_law : Fun K "law" "law" s_law a.f_law a.d_law
  b_law : Binds K a.d_law ["_law_script"] []
  k_law : PySem.W.keepIn K (.ref a.f_law) = true
  g_law : mg "law" = some (.ref a.f_law)
end Sb

namespace Sb
open PySem L2
/-! ### marks -/
def sp_blank (a : Ad) : Sp := fun vs H Q E => ∃ (n : Int), vs = [.int n] ∧ (1 ≤ n ∧ n ≤ 9 → ∀ v H', Same H H' → (∀ M, Rp M H' v (markD (List.replicate n.toNat 0))) → Q v H') ∧ (¬ (1 ≤ n ∧ n ≤ 9) → E (.ref a.C_BadCount) none H)
def sp_need_alike (a : Ad) : Sp := fun vs H Q E => ∃ (M : Addr → Prop) (x y : V) (m n : List Int), vs = [x, y] ∧ Rp M H x (markD m) ∧ Rp M H y (markD n) ∧ (m.length = n.length → Q .non H) ∧ (m.length ≠ n.length → E (.ref a.C_BadMark) none H)
def sp_joined (a : Ad) : Sp := fun vs H Q E => ∃ (M : Addr → Prop) (x y : V) (m n : List Int), vs = [x, y] ∧ Rp M H x (markD m) ∧ Rp M H y (markD n) ∧ m.length ≤ 1000 ∧
  (m.length = n.length → ∀ v H', Same H H' → (∀ M, Rp M H' v (markD (joinM m n))) → Q v H') ∧ (m.length ≠ n.length → E (.ref a.C_BadMark) none H)
def sp_has_seen : Sp := fun vs H Q _ => ∃ (M : Addr → Prop) (x : V) (m : List Int) (k : Nat) (n : Int), vs = [x, .int k, .int n] ∧ Rp M H x (markD m) ∧ k < m.length ∧ Q (.bl (decide (n ≤ m.getD k 0))) H
section
variable {P : Program} {w : World} {K : Frag} {mg : Str → Option Value} {base : Heap} {a : Ad}
local macro_rules | `(tactic| walk_at "e1") => `(tactic| first
  | ((with_reducible refine' w_var ?wh ?_); (case wh => rfl))
  | with_reducible refine w_c ?_
  | with_reducible refine w_projn ?_
  | with_reducible refine w_projr ?_
  | with_reducible refine w_op ?_
  | with_reducible refine w_cons ?_
  | with_reducible refine w_nil ?_
  | with_reducible refine w_I0 ?_
  | ((with_reducible refine w_I ?wc ?_); (case wc => first | (show (0 : Int) < _; decide) | exact ⟨by decide, by decide⟩ | exact ⟨by decide, by decide, by decide⟩ | exact Or.inr ⟨by decide, by decide⟩ | exact Or.inl ⟨by decide, by decide⟩ | (show (0 : Int) < _; omega)))
  | with_reducible refine w_bl ?_
  | with_reducible refine w_test ?_
  | with_reducible refine w_tB ?_
  | with_reducible refine w_set ?_
  | with_reducible refine w_ifS ?_
  | with_reducible refine w_if ?_
  | with_reducible refine w_or ?_
  | with_reducible refine w_and ?_
  | with_reducible refine w_not ?_
  | with_reducible refine w_orV ?_
  | with_reducible refine w_andV ?_
  | with_reducible refine w_notV ?_
  | with_reducible refine w_ret ?_
  | with_reducible refine w_retN ?_
  | with_reducible refine w_drop ?_
  | with_reducible refine w_next ?_
  | with_reducible refine w_un ?_
  | with_reducible refine w_CB ?_
  | with_reducible refine w_call ?_
  | with_reducible refine w_callS ?_
  | with_reducible refine w_gName ?_
  | with_reducible refine w_asg ?_
  | with_reducible refine w_tTup ?_
  | with_reducible refine w_tLst ?_
  | with_reducible refine w_lc ?_
  | with_reducible refine w_iRng1 ?_
  | with_reducible refine w_iRng2 ?_
  | with_reducible refine w_iList ?_
  | with_reducible refine w_iTup ?_
  | with_reducible refine w_for ?_
  | with_reducible refine w_chain ?_
  | with_reducible refine w_bm ?_
  | with_reducible refine w_isiII ?_
  | with_reducible refine w_isiIB ?_
  | with_reducible refine w_isiBB ?_
  | with_reducible refine w_max ?_
  | ((with_reducible refine w_eq ?we ?_); (case we => rfl))
  | ((with_reducible refine w_ne ?we ?_); (case we => rfl)))
local macro_rules | `(tactic| walk_at "w1") => `(tactic| first | walk_at "e1" | with_reducible refine w_seq ?_)
local macro_rules | `(tactic| walk_at "e") => `(tactic| repeat walk_at "e1")
local macro_rules | `(tactic| walk_at "w") => `(tactic| repeat walk_at "w1")

theorem ok_blank (T : Txt K mg a) : FnOk P w K mg base (L2.CX P w) 1 a.f_blank a.d_blank ["many"] (sp_blank a) := by
  refine T.F_blank.okX sc_blank (fun vs H Q E h => ?_) (fun cdv A outer s H vs Q E hr h => ?_)
  · obtain ⟨n, rfl, _⟩ := h; rfl
  · obtain ⟨n, rfl, k1, k2⟩ := h
    refine ⟨_, (pss_cons (ps_if (PW.pt (pw_or (pt_cmpR op_lt (pv 0) pe_int (nomark _)) (pw_or1 (pt_cmpR op_gt (pv 0) (pe_glob (v := .int 9) rfl T.g_MOST_KEEPERS.choose_spec ⟨_, rfl⟩) (nomark _))))) (pss_one (ps_raise rfl (takes_of rfl rfl rfl rfl) (pmk_own PySem.F.excBase_ValueError T.x_BadCount T.g_BadCount T.k_BadCount (raises_own T.b_BadCount T.t_BadCount) rfl))) pss_nil)
  (pss_one (ps_ret (pe_callTy (r := rTup K) cl_tup rfl T.n_tuple (by decide +kernel) (pa_cons (pe_lc (own := [("keeper", 1)]) rfl sc_blank.nd (pi_range1 rfl T.n_range (pa_cons (pv 0) pa_nil)) (blkOk_by (own := [("keeper", 1)]) (N := N_blank) (sc := defScope s_blank) (by decide +kernel)) (fun _ _ _ _ _ => (pg_name (i := 1) sc_blank.nd rfl (by first | exact Or.inl rfl | exact Or.inr rfl))) (fun _ _ _ _ _ => pts_nil) (fun _ _ _ _ _ => pe_int)) pa_nil))))), ?_⟩
    have no : n < 1 ∨ 9 < n → ¬ (1 ≤ n ∧ n ≤ 9) := by omega
    walk_at "w"
    refine ite2 (fun h1 => ?_) (fun h1 => ?_)
    · refine iteT ?_
      exact k2 (no (.inl (of_decide_eq_true h1)))
    · walk_at "w"
      refine ite2 (fun h2 => ?_) (fun h2 => ?_)
      · exact k2 (no (.inr (of_decide_eq_true h2)))
      · have h3 : 1 ≤ n ∧ n ≤ 9 := by
          have a1 : ¬ n < 1 := fun z => h1 (decide_eq_true z)
          have a2 : ¬ 9 < n := fun z => h2 (decide_eq_true z)
          omega
        walk_at "w"
        refine ⟨n, rfl, by omega, by omega, ?_⟩
        refine lcR n.toNat (fun _ => some (.int 0)) (fun _ => False) (fun _ _ z => z) (sz_small (by omega)) (fun i H2 M' Yes No hi s ex fr yes no => ?_) (fun D H' hD s r => ?_)
        · refine w_it0 rfl ?_
          exact yes _ H2 _ rfl (Same.refl _) (.int 0)
        · refine w_tupleL r fun v H2 s2 r2 => ?_
          refine k1 h3 v H2 (Same.trans s s2) fun M => ?_
          have e : (List.range n.toNat).filterMap (fun _ => some (PyData.int 0)) = (List.replicate n.toNat (0 : Int)).map PyData.int := by
            rw [List.map_replicate, List.filterMap_eq_map', List.map_const', List.length_range]
          rw [e] at r2
          exact Rp.mark r2
theorem ok_need_alike (T : Txt K mg a) : FnOk P w K mg base (L2.CX P w) 1 a.f_need_alike a.d_need_alike ["one", "other"] (sp_need_alike a) := by
  refine T.F_need_alike.okX sc_need_alike (fun vs H Q E h => ?_) (fun cdv A outer s H vs Q E hr h => ?_)
  · obtain ⟨M, x, y, m, n, rfl, _⟩ := h; rfl
  · obtain ⟨M, x, y, m, n, rfl, hx, hy, k1, k2⟩ := h
    refine ⟨_, (pss_one (ps_if (pt_cmpR op_ne (pe_callB (r := rLen K) cl_len rfl T.n_len (by decide +kernel) (pa_cons (pv 0) pa_nil)) (pe_callB (r := rLen K) cl_len rfl T.n_len (by decide +kernel) (pa_cons (pv 1) pa_nil)) (nomark _)) (pss_one (ps_raise rfl (takes_of rfl rfl rfl rfl) (pmk_own PySem.F.excBase_ValueError T.x_BadMark T.g_BadMark T.k_BadMark (raises_own T.b_BadMark T.t_BadMark) rfl))) pss_nil)), ?_⟩
    walk_at "w"
    refine w_lenM hx ?_
    walk_at "w"
    refine w_lenM hy ?_
    walk_at "w"
    refine ite2 (fun h1 => ?_) (fun h1 => ?_)
    · exact k2 fun z => by simp [z] at h1
    · exact k1 (by simp at h1; omega)
theorem ok_joined (T : Txt K mg a) : FnOk P w K mg base (L2.CX P w) 2 a.f_joined a.d_joined ["one", "other"] (sp_joined a) := by
  refine T.F_joined.okX sc_joined (fun vs H Q E h => ?_) (fun cdv A outer s H vs Q E hr h => ?_)
  · obtain ⟨M, x, y, m, n, rfl, _⟩ := h; rfl
  · obtain ⟨M, x, y, m, n, rfl, hx, hy, hl, k1, k2⟩ := h
    refine ⟨_, (pss_cons (ps_expr (pe_call (ok_need_alike T) (hr.mono (by decide)) rfl T.g_need_alike T.k_need_alike T.b_need_alike .nil (passes_call (takes_of rfl rfl rfl rfl) (fun _ _ _ _ h => h)) (pa_cons (pv 0) (pa_cons (pv 1) pa_nil))))
  (pss_one (ps_ret (pe_callTy (r := rTup K) cl_tup rfl T.n_tuple (by decide +kernel) (pa_cons (pe_lc (own := [("keeper", 2)]) rfl sc_joined.nd (pi_range1 rfl T.n_range (pa_cons (pe_callB (r := rLen K) cl_len rfl T.n_len (by decide +kernel) (pa_cons (pv 0) pa_nil)) pa_nil)) (blkOk_by (own := [("keeper", 2)]) (N := N_joined) (sc := defScope s_joined) (by decide +kernel)) (fun _ _ _ _ _ => (pg_name (i := 2) sc_joined.nd rfl (by first | exact Or.inl rfl | exact Or.inr rfl))) (fun _ _ _ _ _ => pts_nil) (fun _ _ _ _ _ => (pe_callB (cl_max rfl) rfl T.n_max (by decide +kernel) (pa_cons (pe_ix (r := rIxT K) ix_tup (pv 0) (pv 2) (fun _ _ => rfl)) (pa_cons (pe_ix (r := rIxT K) ix_tup (pv 1) (pv 2) (fun _ _ => rfl)) pa_nil))))) pa_nil))))), ?_⟩
    walk_at "w"
    refine ⟨M, x, y, m, n, rfl, hx, hy, fun e => ?_, fun e => k2 e⟩
    walk_at "w"
    refine w_lenM hx ?_
    refine ⟨_, rfl, by omega, by omega, ?_⟩
    refine lcR _ (fun i => some (.int (max (m.getD i 0) (n.getD i 0)))) (fun _ => False) (fun _ _ z => z) (sz_small (by omega)) (fun i H2 M' Yes No hi s ex fr yes no => ?_) (fun D H' hD s r => ?_)
    · have hi : i < m.length := hi
      refine w_it0 rfl ?_
      walk_at "w"
      refine w_ixM i (hx.same s) (by omega) hi ?_
      walk_at "w"
      refine w_ixM i (hy.same s) (by omega) (by omega) ?_
      walk_at "w"
      exact yes _ H2 _ rfl (Same.refl _) (.int _)
    · refine w_tupleL r fun v H2 s2 r2 => ?_
      refine k1 e v H2 (Same.trans s s2) fun M => ?_
      rw [fm_join e] at r2
      exact Rp.mark r2
theorem ok_has_seen (T : Txt K mg a) : FnOk P w K mg base (L2.CX P w) 1 a.f_has_seen a.d_has_seen ["mark", "keeper", "number"] sp_has_seen := by
  refine T.F_has_seen.okX sc_has_seen (fun vs H Q E h => ?_) (fun cdv A outer s H vs Q E hr h => ?_)
  · obtain ⟨M, x, m, k, n, rfl, _⟩ := h; rfl
  · obtain ⟨M, x, m, k, n, rfl, hx, hk, q⟩ := h
    refine ⟨_, (pss_one (ps_ret (pe_cmpR op_le (pv 2) (pe_ix (r := rIxT K) ix_tup (pv 0) (pv 1) (fun _ _ => rfl)) (nomark _)))), ?_⟩
    walk_at "w"
    refine w_ixM k hx rfl hk ?_
    walk_at "w"
    exact q
end
end Sb

namespace Sb
open PySem L2
def withinM (m n : List Int) : Bool := (List.range m.length).all fun i => decide (m.getD i 0 ≤ n.getD i 0)
def sp_within (a : Ad) : Sp := fun vs H Q E => ∃ (M : Addr → Prop) (x y : V) (m n : List Int), vs = [x, y] ∧ Rp M H x (markD m) ∧ Rp M H y (markD n) ∧ m.length ≤ 1000 ∧
  (m.length = n.length → Q (.bl (withinM m n)) H) ∧ (m.length ≠ n.length → E (.ref a.C_BadMark) none H)
section
variable {P : Program} {w : World} {K : Frag} {mg : Str → Option Value} {base : Heap} {a : Ad}
local macro_rules | `(tactic| walk_at "e1") => `(tactic| first
  | ((with_reducible refine' w_var ?wh ?_); (case wh => rfl))
  | with_reducible refine w_c ?_
  | with_reducible refine w_projn ?_
  | with_reducible refine w_projr ?_
  | with_reducible refine w_op ?_
  | with_reducible refine w_cons ?_
  | with_reducible refine w_nil ?_
  | with_reducible refine w_I0 ?_
  | ((with_reducible refine w_I ?wc ?_); (case wc => first | (show (0 : Int) < _; decide) | exact ⟨by decide, by decide⟩ | exact ⟨by decide, by decide, by decide⟩ | exact Or.inr ⟨by decide, by decide⟩ | exact Or.inl ⟨by decide, by decide⟩ | (show (0 : Int) < _; omega)))
  | with_reducible refine w_bl ?_
  | with_reducible refine w_test ?_
  | with_reducible refine w_tB ?_
  | with_reducible refine w_set ?_
  | with_reducible refine w_ifS ?_
  | with_reducible refine w_if ?_
  | with_reducible refine w_or ?_
  | with_reducible refine w_and ?_
  | with_reducible refine w_not ?_
  | with_reducible refine w_orV ?_
  | with_reducible refine w_andV ?_
  | with_reducible refine w_notV ?_
  | with_reducible refine w_ret ?_
  | with_reducible refine w_retN ?_
  | with_reducible refine w_drop ?_
  | with_reducible refine w_next ?_
  | with_reducible refine w_un ?_
  | with_reducible refine w_CB ?_
  | with_reducible refine w_call ?_
  | with_reducible refine w_callS ?_
  | with_reducible refine w_gName ?_
  | with_reducible refine w_asg ?_
  | with_reducible refine w_tTup ?_
  | with_reducible refine w_tLst ?_
  | with_reducible refine w_lc ?_
  | with_reducible refine w_iRng1 ?_
  | with_reducible refine w_iRng2 ?_
  | with_reducible refine w_iList ?_
  | with_reducible refine w_iTup ?_
  | with_reducible refine w_for ?_
  | with_reducible refine w_chain ?_
  | with_reducible refine w_bm ?_
  | with_reducible refine w_isiII ?_
  | with_reducible refine w_isiIB ?_
  | with_reducible refine w_isiBB ?_
  | with_reducible refine w_max ?_
  | ((with_reducible refine w_eq ?we ?_); (case we => rfl))
  | ((with_reducible refine w_ne ?we ?_); (case we => rfl)))
local macro_rules | `(tactic| walk_at "w1") => `(tactic| first | walk_at "e1" | with_reducible refine w_seq ?_)
local macro_rules | `(tactic| walk_at "e") => `(tactic| repeat walk_at "e1")
local macro_rules | `(tactic| walk_at "w") => `(tactic| repeat walk_at "w1")

theorem within_no {m n : List Int} {i : Nat} (hi : i < m.length) (h : ¬ m.getD i 0 ≤ n.getD i 0) : withinM m n = false := by
  unfold withinM
  rw [List.all_eq_false]
  exact ⟨i, List.mem_range.mpr hi, by simpa using h⟩
theorem within_yes {m n : List Int} (h : ∀ i, i < m.length → m.getD i 0 ≤ n.getD i 0) : withinM m n = true := by
  unfold withinM
  rw [List.all_eq_true]
  exact fun i hi => decide_eq_true (h i (List.mem_range.mp hi))
theorem ok_within (T : Txt K mg a) : FnOk P w K mg base (L2.CX P w) 2 a.f_within a.d_within ["one", "other"] (sp_within a) := by
  refine T.F_within.okX sc_within (fun vs H Q E h => ?_) (fun cdv A outer s H vs Q E hr h => ?_)
  · obtain ⟨M, x, y, m, n, rfl, _⟩ := h; rfl
  · obtain ⟨M, x, y, m, n, rfl, hx, hy, hl, k1, k2⟩ := h
    refine ⟨_, (pss_cons (ps_expr (pe_call (ok_need_alike T) (hr.mono (by decide)) rfl T.g_need_alike T.k_need_alike T.b_need_alike .nil (passes_call (takes_of rfl rfl rfl rfl) (fun _ _ _ _ h => h)) (pa_cons (pv 0) (pa_cons (pv 1) pa_nil))))
  (pss_cons (ps_for (passes_of rfl) rfl (pi_range1 rfl T.n_range (pa_cons (pe_callB (r := rLen K) cl_len rfl T.n_len (by decide +kernel) (pa_cons (pv 0) pa_nil)) pa_nil)) (pg_name (i := 2) sc_within.nd rfl (by first | exact Or.inl rfl | exact Or.inr rfl))
  (pss_one (ps_if (pt_cmpR op_gt (pe_ix (r := rIxT K) ix_tup (pv 0) (pv 2) (fun _ _ => rfl)) (pe_ix (r := rIxT K) ix_tup (pv 1) (pv 2) (fun _ _ => rfl)) (nomark _)) (pss_one (ps_ret pe_bl)) pss_nil)))
  (pss_one (ps_ret pe_bl)))), ?_⟩
    walk_at "w"
    refine ⟨M, x, y, m, n, rfl, hx, hy, fun e => ?_, fun e => k2 e⟩
    walk_at "w"
    refine w_lenM hx ?_
    refine ⟨_, rfl, by omega, by omega, ?_⟩
    refine for_range (fun i σ H' => (∃ v, σ = [some x, some y, v]) ∧ H' = H ∧ ∀ j, j < i → m.getD j 0 ≤ n.getD j 0) ⟨⟨_, rfl⟩, rfl, fun j hj => absurd hj (Nat.not_lt_zero _)⟩ ?_ ?_
    · rintro i σ H' hi ⟨⟨v, rfl⟩, rfl, hj⟩
      have hi : i < m.length := hi
      walk_at "w"
      refine w_ixM i hx (by omega) hi ?_
      walk_at "w"
      refine w_ixM i hy (by omega) (by omega) ?_
      walk_at "w"
      refine ite2 (fun h1 => ?_) (fun h1 => ?_)
      · walk_at "w"
        have h2 := of_decide_eq_true h1
        rw [within_no hi (by omega)] at k1
        exact k1 e
      · walk_at "w"
        refine ⟨⟨_, rfl⟩, rfl, fun j hj' => ?_⟩
        by_cases z : j = i
        · subst z
          have h2 : ¬ _ := fun z => h1 (decide_eq_true z)
          omega
        · exact hj j (by omega)
    · rintro σ H' ⟨⟨v, rfl⟩, rfl, hj⟩
      walk_at "w"
      rw [within_yes fun i hi => hj i (by omega)] at k1
      exact k1 e
end
end Sb

namespace Sb
open PySem L2
def cell (ns : List Int) (k : Nat) : Int := ns.getD k 0
def sp_cell (K : Frag) : Sp := fun vs H Q _ => ∃ (b : Addr) (ns : List Int) (k : Nat), vs = [.ref b, .int k] ∧ SqL K H b (ns.map V.int) ∧ Q (.int (cell ns k)) H
section
variable {P : Program} {w : World} {K : Frag} {mg : Str → Option Value} {base : Heap} {a : Ad}
local macro_rules | `(tactic| walk_at "e1") => `(tactic| first
  | ((with_reducible refine' w_var ?wh ?_); (case wh => rfl))
  | with_reducible refine w_c ?_
  | with_reducible refine w_projn ?_
  | with_reducible refine w_projr ?_
  | with_reducible refine w_op ?_
  | with_reducible refine w_cons ?_
  | with_reducible refine w_nil ?_
  | with_reducible refine w_I0 ?_
  | ((with_reducible refine w_I ?wc ?_); (case wc => first | (show (0 : Int) < _; decide) | exact ⟨by decide, by decide⟩ | exact ⟨by decide, by decide, by decide⟩ | exact Or.inr ⟨by decide, by decide⟩ | exact Or.inl ⟨by decide, by decide⟩ | (show (0 : Int) < _; omega)))
  | with_reducible refine w_bl ?_
  | with_reducible refine w_test ?_
  | with_reducible refine w_tB ?_
  | with_reducible refine w_set ?_
  | with_reducible refine w_ifS ?_
  | with_reducible refine w_if ?_
  | with_reducible refine w_or ?_
  | with_reducible refine w_and ?_
  | with_reducible refine w_not ?_
  | with_reducible refine w_orV ?_
  | with_reducible refine w_andV ?_
  | with_reducible refine w_notV ?_
  | with_reducible refine w_ret ?_
  | with_reducible refine w_retN ?_
  | with_reducible refine w_drop ?_
  | with_reducible refine w_next ?_
  | with_reducible refine w_un ?_
  | with_reducible refine w_CB ?_
  | with_reducible refine w_call ?_
  | with_reducible refine w_callS ?_
  | with_reducible refine w_gName ?_
  | with_reducible refine w_asg ?_
  | with_reducible refine w_tTup ?_
  | with_reducible refine w_tLst ?_
  | with_reducible refine w_lc ?_
  | with_reducible refine w_iRng1 ?_
  | with_reducible refine w_iRng2 ?_
  | with_reducible refine w_iList ?_
  | with_reducible refine w_iTup ?_
  | with_reducible refine w_for ?_
  | with_reducible refine w_chain ?_
  | with_reducible refine w_bm ?_
  | with_reducible refine w_isiII ?_
  | with_reducible refine w_isiIB ?_
  | with_reducible refine w_isiBB ?_
  | with_reducible refine w_max ?_
  | ((with_reducible refine w_eq ?we ?_); (case we => rfl))
  | ((with_reducible refine w_ne ?we ?_); (case we => rfl)))
local macro_rules | `(tactic| walk_at "w1") => `(tactic| first | walk_at "e1" | with_reducible refine w_seq ?_)
local macro_rules | `(tactic| walk_at "e") => `(tactic| repeat walk_at "e1")
local macro_rules | `(tactic| walk_at "w") => `(tactic| repeat walk_at "w1")

theorem ok_l_cell_at (T : Txt K mg a) : FnOk P w K mg base (L2.CX P w) 1 a.f_l_cell_at a.d_l_cell_at ["_law_script", "_law_k"] (sp_cell K) := by
  refine T.F_l_cell_at.okX sc_l_cell_at (fun vs H Q E h => ?_) (fun cdv A outer s H vs Q E hr h => ?_)
  · obtain ⟨b, ns, k, rfl, _⟩ := h; rfl
  · obtain ⟨b, ns, k, rfl, hs, q⟩ := h
    refine ⟨_, (pss_cons (ps_if (pt_cmpR op_lt (pv 1) (pe_callB (r := rLen K) cl_len rfl T.n_len (by decide +kernel) (pa_cons (pv 0) pa_nil)) (nomark _)) (pss_one (ps_ret (pe_ix (r := rIxL K) ix_list (pv 0) (pv 1) (fun _ _ => rfl)))) pss_nil)
  (pss_one (ps_ret pe_int))), ?_⟩
    walk_at "w"
    refine w_lenS hs ?_
    walk_at "w"
    rw [List.length_map]
    refine ite2 (fun h1 => ?_) (fun h1 => ?_)
    · have hk : k < ns.length := by have := of_decide_eq_true h1; omega
      walk_at "w"
      refine w_ixS k hs rfl (v := .int (cell ns k)) ?_ ?_
      · unfold cell
        rw [List.getElem?_map, List.getD_eq_getElem?_getD, List.getElem?_eq_getElem hk]; rfl
      · exact q
    · have hk : ¬ k < ns.length := fun z => h1 (decide_eq_true (by omega))
      walk_at "w"
      have e : cell ns k = 0 := by
        unfold cell
        rw [List.getD_eq_getElem?_getD, List.getElem?_eq_none (by omega)]; rfl
      rw [e] at q
      exact q
end
end Sb

namespace Sb
open PySem L2
def mosts : List Int := [4, 10 ^ 6, 10 ^ 60]
def lmost (ns : List Int) : Int := mosts.getD (cell ns 0 / 9 % 3).toNat 0
def lmark (ns : List Int) (first many : Nat) : List Int := (List.range many).map fun k => cell ns (first + k) % lmost ns
theorem lmost_pos (ns : List Int) : 0 < lmost ns := by
  unfold lmost
  have h : (cell ns 0 / 9 % 3).toNat = 0 ∨ (cell ns 0 / 9 % 3).toNat = 1 ∨ (cell ns 0 / 9 % 3).toNat = 2 := by omega
  rcases h with h | h | h <;> rw [h] <;> decide
def sp_mark (K : Frag) : Sp := fun vs H Q _ => ∃ (b : Addr) (ns : List Int) (first many : Nat), vs = [.ref b, .int first, .int many] ∧ SqL K H b (ns.map V.int) ∧ many ≤ 9 ∧
  ∀ v H', Same H H' → (∀ M, Rp M H' v (markD (lmark ns first many))) → Q v H'
def sp_same : Sp := fun vs H Q _ => ∃ (M : Addr → Prop) (x y : V) (m n : List Int), vs = [x, y] ∧ Rp M H x (markD m) ∧ Rp M H y (markD n) ∧ m.length ≤ 1000 ∧ n.length ≤ 1000 ∧ Q (.bl (decide (m = n))) H
section
variable {P : Program} {w : World} {K : Frag} {mg : Str → Option Value} {base : Heap} {a : Ad}
local macro_rules | `(tactic| walk_at "e1") => `(tactic| first
  | ((with_reducible refine' w_var ?wh ?_); (case wh => rfl))
  | with_reducible refine w_c ?_
  | with_reducible refine w_projn ?_
  | with_reducible refine w_projr ?_
  | with_reducible refine w_op ?_
  | with_reducible refine w_cons ?_
  | with_reducible refine w_nil ?_
  | with_reducible refine w_I0 ?_
  | ((with_reducible refine w_I ?wc ?_); (case wc => first | (show (0 : Int) < _; decide) | exact ⟨by decide, by decide⟩ | exact ⟨by decide, by decide, by decide⟩ | exact Or.inr ⟨by decide, by decide⟩ | exact Or.inl ⟨by decide, by decide⟩ | (show (0 : Int) < _; omega)))
  | with_reducible refine w_bl ?_
  | with_reducible refine w_test ?_
  | with_reducible refine w_tB ?_
  | with_reducible refine w_set ?_
  | with_reducible refine w_ifS ?_
  | with_reducible refine w_if ?_
  | with_reducible refine w_or ?_
  | with_reducible refine w_and ?_
  | with_reducible refine w_not ?_
  | with_reducible refine w_orV ?_
  | with_reducible refine w_andV ?_
  | with_reducible refine w_notV ?_
  | with_reducible refine w_ret ?_
  | with_reducible refine w_retN ?_
  | with_reducible refine w_drop ?_
  | with_reducible refine w_next ?_
  | with_reducible refine w_un ?_
  | with_reducible refine w_CB ?_
  | with_reducible refine w_call ?_
  | with_reducible refine w_callS ?_
  | with_reducible refine w_gName ?_
  | with_reducible refine w_asg ?_
  | with_reducible refine w_tTup ?_
  | with_reducible refine w_tLst ?_
  | with_reducible refine w_lc ?_
  | with_reducible refine w_iRng1 ?_
  | with_reducible refine w_iRng2 ?_
  | with_reducible refine w_iList ?_
  | with_reducible refine w_iTup ?_
  | with_reducible refine w_for ?_
  | with_reducible refine w_chain ?_
  | with_reducible refine w_bm ?_
  | with_reducible refine w_isiII ?_
  | with_reducible refine w_isiIB ?_
  | with_reducible refine w_isiBB ?_
  | with_reducible refine w_max ?_
  | ((with_reducible refine w_eq ?we ?_); (case we => rfl))
  | ((with_reducible refine w_ne ?we ?_); (case we => rfl)))
local macro_rules | `(tactic| walk_at "w1") => `(tactic| first | walk_at "e1" | with_reducible refine w_seq ?_)
local macro_rules | `(tactic| walk_at "e") => `(tactic| repeat walk_at "e1")
local macro_rules | `(tactic| walk_at "w") => `(tactic| repeat walk_at "w1")

theorem ok_l_mark (T : Txt K mg a) : FnOk P w K mg base (L2.CX P w) 2 a.f_l_mark a.d_l_mark ["_law_script", "_law_first", "_law_many"] (sp_mark K) := by
  refine T.F_l_mark.okX sc_l_mark (fun vs H Q E h => ?_) (fun cdv A outer s H vs Q E hr h => ?_)
  · obtain ⟨b, ns, first, many, rfl, _⟩ := h; rfl
  · obtain ⟨b, ns, first, many, rfl, hs, hm, q⟩ := h
    refine ⟨_, (pss_cons (ps_set (i := 3) sc_l_mark.nd rfl (Or.inr rfl) (pe_ix (r := rIxL K) ix_list (pe_lst (pa_cons pe_int (pa_cons (pe_op op_pow pe_int pe_int) (pa_cons (pe_op op_pow pe_int pe_int) pa_nil)))) (pe_op op_mod (pe_op op_fdiv (pe_call (ok_l_cell_at T) (hr.mono (by decide)) rfl T.g_l_cell_at T.k_l_cell_at T.b_l_cell_at .nil passL (pa_cons (pv 0) (pa_cons pe_int pa_nil))) pe_int) pe_int) (fun _ _ => rfl)))
  (pss_one (ps_ret (pe_callTy (r := rTup K) cl_tup rfl T.n_tuple (by decide +kernel) (pa_cons (pe_lc (own := [("_law_k", 4)]) rfl sc_l_mark.nd (pi_range1 rfl T.n_range (pa_cons (pv 2) pa_nil)) (blkOk_by (own := [("_law_k", 4)]) (N := N_l_mark) (sc := defScope s_l_mark) (by decide +kernel)) (fun _ _ _ _ _ => (pg_name (i := 4) sc_l_mark.nd rfl (by first | exact Or.inl rfl | exact Or.inr rfl))) (fun _ _ _ _ _ => pts_nil) (fun _ _ _ _ _ => (pe_op op_mod (pe_call (ok_l_cell_at T) (hr.mono (by decide)) rfl T.g_l_cell_at T.k_l_cell_at T.b_l_cell_at .nil passL (pa_cons (pv 0) (pa_cons (pe_op op_add (pv 1) (pv 4)) pa_nil))) (pv 3)))) pa_nil))))), ?_⟩
    walk_at "w"
    refine w_newL (M := fun _ => False) (ds := mosts.map PyData.int) (fun _ _ z => z) (RpA.ints (ns := mosts)) (by decide) fun v H1 s1 r1 => ?_
    walk_at "w"
    refine ⟨b, ns, 0, rfl, Same.seq s1 hs, ?_⟩
    walk_at "w"
    refine w_ixL (cell ns 0 / 9 % 3).toNat r1 (by omega) (d := .int (lmost ns)) ?_ fun v r => ?_
    · have h : (cell ns 0 / 9 % 3).toNat = 0 ∨ (cell ns 0 / 9 % 3).toNat = 1 ∨ (cell ns 0 / 9 % 3).toNat = 2 := by omega
      unfold lmost
      rcases h with h | h | h <;> rw [h] <;> rfl
    obtain rfl := r.int_inv
    walk_at "w"
    refine ⟨_, rfl, by omega, by omega, ?_⟩
    refine lcR _ (fun i => some (.int (cell ns (first + i) % lmost ns))) (fun _ => False) (fun _ _ z => z) (sz_small (by omega)) (fun i H2 M' Yes No hi s ex fr yes no => ?_) (fun D H' hD s r => ?_)
    · refine w_it0 rfl ?_
      walk_at "w"
      refine ⟨b, ns, first + i, by simp, Same.seq s (Same.seq s1 hs), ?_⟩
      walk_at "w"
      refine w_I (lmost_pos ns) ?_
      exact yes _ H2 _ rfl (Same.refl _) (.int _)
    · refine w_tupleL r fun v H2 s2 r2 => ?_
      refine q v H2 (Same.trans s1 (Same.trans s s2)) fun M => ?_
      have e : (List.range ((many : Int)).toNat).filterMap (fun i => some (PyData.int (cell ns (first + i) % lmost ns))) = (lmark ns first many).map PyData.int := by
        rw [fm_some, lmark, List.map_map]; rfl
      rw [e] at r2
      exact Rp.mark r2
theorem ok_l_same (T : Txt K mg a) : FnOk P w K mg base (L2.CX P w) 1 a.f_l_same a.d_l_same ["_law_found", "_law_due"] sp_same := by
  refine T.F_l_same.okX sc_l_same (fun vs H Q E h => ?_) (fun cdv A outer s H vs Q E hr h => ?_)
  · obtain ⟨M, x, y, m, n, rfl, _⟩ := h; rfl
  · obtain ⟨M, x, y, m, n, rfl, hx, hy, hm, hn, q⟩ := h
    refine ⟨_, (pss_cons (ps_if (PW.pt (pw_or (pt_not (pt_val (pe_callB (r := rIsi K) call_isi rfl T.n_isinstance (by decide +kernel) (pa_cons (pv 0) (pa_cons (pe_bltn (v := .ty "tuple") (u := .type "tuple") rfl T.n_tuple (by decide +kernel) rfl) pa_nil))))) (pw_or1 (pt_cmpR op_ne (pe_callB (r := rLen K) cl_len rfl T.n_len (by decide +kernel) (pa_cons (pv 0) pa_nil)) (pe_callB (r := rLen K) cl_len rfl T.n_len (by decide +kernel) (pa_cons (pv 1) pa_nil)) (nomark _))))) (pss_one (ps_ret pe_bl)) pss_nil)
  (pss_cons (ps_for (passes_of rfl) rfl (pi_range1 rfl T.n_range (pa_cons (pe_callB (r := rLen K) cl_len rfl T.n_len (by decide +kernel) (pa_cons (pv 1) pa_nil)) pa_nil)) (pg_name (i := 2) sc_l_same.nd rfl (by first | exact Or.inl rfl | exact Or.inr rfl))
  (pss_one (ps_if (PW.pt (pw_or (pt_not (pt_val (pe_callB (r := rIsi K) call_isi rfl T.n_isinstance (by decide +kernel) (pa_cons (pe_ix (r := rIxT K) ix_tup (pv 0) (pv 2) (fun _ _ => rfl)) (pa_cons (pe_bltn (v := .ty "int") (u := .type "int") rfl T.n_int (by decide +kernel) rfl) pa_nil))))) (pw_or (pt_val (pe_callB (r := rIsi K) call_isi rfl T.n_isinstance (by decide +kernel) (pa_cons (pe_ix (r := rIxT K) ix_tup (pv 0) (pv 2) (fun _ _ => rfl)) (pa_cons (pe_bltn (v := .ty "bool") (u := .type "bool") rfl T.n_bool (by decide +kernel) rfl) pa_nil)))) (pw_or1 (pt_cmpR op_ne (pe_ix (r := rIxT K) ix_tup (pv 0) (pv 2) (fun _ _ => rfl)) (pe_ix (r := rIxT K) ix_tup (pv 1) (pv 2) (fun _ _ => rfl)) (nomark _)))))) (pss_one (ps_ret pe_bl)) pss_nil)))
  (pss_one (ps_ret pe_bl)))), ?_⟩
    walk_at "w"
    refine w_isiTT hx ?_
    walk_at "w"
    refine iteF ?_
    walk_at "w"
    refine w_lenM hx ?_
    walk_at "w"
    refine w_lenM hy ?_
    walk_at "w"
    refine ite2 (fun h1 => ?_) (fun h1 => ?_)
    · walk_at "w"
      have e : decide (m = n) = false := decide_eq_false fun z => by simp [z] at h1
      rw [e] at q
      exact q
    · have e : m.length = n.length := by simp at h1; omega
      walk_at "w"
      refine w_lenM hy ?_
      refine ⟨_, rfl, by omega, by omega, ?_⟩
      refine for_range (fun i σ H' => (∃ v, σ = [some x, some y, v]) ∧ H' = H ∧ ∀ j, j < i → m.getD j 0 = n.getD j 0) ⟨⟨_, rfl⟩, rfl, fun j hj => absurd hj (Nat.not_lt_zero _)⟩ ?_ ?_
      · rintro i σ H' hi ⟨⟨v, rfl⟩, rfl, hj⟩
        have hi : i < n.length := hi
        walk_at "w"
        refine w_ixM i hx (by omega) (by omega) ?_
        walk_at "w"
        refine iteF ?_
        walk_at "w"
        refine w_ixM i hx (by omega) (by omega) ?_
        walk_at "w"
        refine iteF ?_
        walk_at "w"
        refine w_ixM i hx (by omega) (by omega) ?_
        walk_at "w"
        refine w_ixM i hy (by omega) (by omega) ?_
        walk_at "w"
        refine ite2 (fun h2 => ?_) (fun h2 => ?_)
        · walk_at "w"
          have e : decide (m = n) = false := decide_eq_false fun z => by simp [z] at h2
          rw [e] at q
          exact q
        · walk_at "w"
          refine ⟨⟨_, rfl⟩, rfl, fun j hj' => ?_⟩
          by_cases z : j = i
          · subst z
            simpa using h2
          · exact hj j (by omega)
      · rintro σ H' ⟨⟨v, rfl⟩, rfl, hj⟩
        walk_at "w"
        have e : decide (m = n) = true := decide_eq_true (List.ext_getElem e fun i h1 h2 => by
          have := hj i (by omega)
          rwa [List.getD_eq_getElem?_getD, List.getD_eq_getElem?_getD, List.getElem?_eq_getElem h1, List.getElem?_eq_getElem h2] at this)
        rw [e] at q
        exact q
end
end Sb

namespace Sb
open PySem L2
section
variable {K : Frag} {M : Addr → Prop} {H : Hp} {v x y : V} {Q : VK}
/-- isinstance of what was caught, its class told by the reading -/
def rIsX (K : Frag) (cls : Value) (dd : Option Addr) (ae : Addr) : List V → Hp → VK → Prop := fun xs H Q => ∃ D, cls = .ref D ∧ dd = none ∧ ExcC K D ∧ rIsE K D ae xs H Q
theorem call_isX {X : Cx} {ae : Addr} {cls : Value} {dd : Option Addr} {oe : Obj} {pn : List (Addr × Obj)} (hz : Zc cls dd oe) (hf : ∃ vs, oe.data = .fields vs) : CallR (X.suite ae ((ae, oe) :: pn)) (.builtin "isinstance") (rIsX X.K cls dd ae) := by
  intro pins s σ H xs us Q I r h
  obtain ⟨D, rfl, rfl, C, h⟩ := h
  exact call_isE C hz hf pins s σ H xs us Q I r h
theorem kit_ref {D C : Addr} {b : Bool} (hd : PySem.W.hasDictIn K C = true) (ht : PySem.W.typeIn K (.ref C) = some (.type "type")) (hs : PySem.W.subIn K (.ref D) (.ref C) = some b) (e : D = C → b = true) : PySem.W.kitOne K (.ref D) (.ref C) = some b := by
  have hc : (PySem.W.clsIn K C).isSome = true := by
    unfold PySem.W.hasDictIn at hd
    cases h : PySem.W.clsIn K C with
    | none => rw [h] at hd; cases hd
    | some c => rfl
  unfold PySem.W.kitOne PySem.W.kitCls
  by_cases q : (Value.ref D == Value.ref C) = true
  · rw [if_pos q]
    have : D = C := by simpa using q
    rw [e this]
  · rw [if_neg q]
    simp only [hc, ht, Bool.true_and]
    rw [if_pos (by decide)]
    exact hs
theorem kit_no {D C : Addr} (hd : PySem.W.hasDictIn K C = true) (ht : PySem.W.typeIn K (.ref C) = some (.type "type")) (hs : PySem.W.subIn K (.ref D) (.ref C) = some false) (hc : PySem.W.subIn K (.ref C) (.ref C) = some true) : PySem.W.kitOne K (.ref D) (.ref C) = some false :=
  kit_ref hd ht hs fun e => by subst e; rw [hs] at hc; cases hc
theorem kit_ve {D : Addr} (hs : PySem.W.subIn K (.ref D) (.type "ValueError") = some true) : PySem.W.kitOne K (.ref D) (.type "ValueError") = some true := by
  unfold PySem.W.kitOne PySem.W.kitCls
  rw [if_neg (by simp)]
  simp only
  rw [if_pos (by decide +kernel)]
  exact hs
theorem w_isXR {D C ae : Addr} {b : Bool} (e : ExcC K D) (k : PySem.W.kitOne K (.ref D) (.ref C) = some b) (q : Q (.bl b) H) : rIsX K (.ref D) none ae [.ref ae, .ref C] H Q :=
  ⟨D, rfl, rfl, e, .ref C, .ref C, b, rfl, fun u r => r, k, q⟩
theorem w_isXV {D ae : Addr} (e : ExcC K D) (k : PySem.W.subIn K (.ref D) (.type "ValueError") = some true) (q : Q (.bl true) H) : rIsX K (.ref D) none ae [.ref ae, .ty "ValueError"] H Q :=
  ⟨D, rfl, rfl, e, .ty "ValueError", .type "ValueError", true, rfl, fun u r => r, kit_ve k, q⟩
/-- xs.count(True) of truths -/
def rCountB (K : Frag) : V → List V → Hp → VK → Prop := fun x xs H Q => ∃ (p : Addr) (bs : List Bool) (k : Bool), x = .ref p ∧ xs = [.bl k] ∧ SqL K H p (bs.map V.bl) ∧ Q (.int (bs.count k : Nat)) H
theorem reads_bools {h : Heap} : ∀ bs : List Bool, ∃ as, ReadsAll h (bs.map Value.bool) (bs.map PyData.bool) as
  | [] => ⟨[], .nil⟩
  | b :: bs => let ⟨as, r⟩ := reads_bools bs; ⟨_, .cons (.bool b) r⟩
theorem count_bools (k : Bool) : ∀ bs : List Bool, PySem.Spec.countIn (.bool k) (bs.map PyData.bool) = (bs.count k : Nat)
  | [] => rfl
  | b :: bs => by
    rw [List.map_cons]
    unfold PySem.Spec.countIn
    rw [count_bools k bs, List.count_cons]
    cases b <;> cases k <;> simp [PySem.Spec.same] <;> omega
theorem mt_countB {X : Cx} : MtR X "list.count" (rCountB X.K) := by
  intro pins s σ H x xs v us Q I rx rxs h
  obtain ⟨p, bs, k, rfl, rfl, hs, q⟩ := h
  cases rx
  obtain ⟨u, rfl, ru⟩ := rxs.one
  cases ru
  obtain ⟨its, rv, hl, hlen⟩ := I.list hs
  obtain rfl := Vals.bls rv
  obtain ⟨as, ra⟩ := reads_bools (h := s.heap) bs
  refine PyProof.Rows.count_list_bools hl.isList ra (by simp; exact ⟨fun _ => rfl, fun _ => rfl⟩) ?_
  rw [count_bools]
  exact ⟨.int (bs.count k : Nat), H, I.tok _, ⟨_, rfl⟩, q⟩
end
end Sb

namespace Sb
open PySem L2
def sp_refusal (a : Ad) : Sp := fun vs H Q _ => ∃ (s : Int) (x y : V), vs = [.int s, x, y] ∧
  (((s = 0 ∨ s = 1) ∧ ∃ (M : Addr → Prop) (m n : List Int), Rp M H x (markD m) ∧ Rp M H y (markD n) ∧ m.length ≤ 1000 ∧ ∀ H', Same H H' → Q (.str (if m.length = n.length then "none" else "mark")) H') ∨
   (s = 2 ∧ ∃ n, x = .int n ∧ ∀ H', Same H H' → Q (.str (if 1 ≤ n ∧ n ≤ 9 then "none" else "count")) H'))
section
variable {P : Program} {w : World} {K : Frag} {mg : Str → Option Value} {base : Heap} {a : Ad}
local macro_rules | `(tactic| walk_at "e1") => `(tactic| first
  | ((with_reducible refine' w_var ?wh ?_); (case wh => rfl))
  | with_reducible refine w_c ?_
  | with_reducible refine w_projn ?_
  | with_reducible refine w_projr ?_
  | with_reducible refine w_op ?_
  | with_reducible refine w_cons ?_
  | with_reducible refine w_nil ?_
  | with_reducible refine w_I0 ?_
  | ((with_reducible refine w_I ?wc ?_); (case wc => first | (show (0 : Int) < _; decide) | exact ⟨by decide, by decide⟩ | exact ⟨by decide, by decide, by decide⟩ | exact Or.inr ⟨by decide, by decide⟩ | exact Or.inl ⟨by decide, by decide⟩ | (show (0 : Int) < _; omega)))
  | with_reducible refine w_bl ?_
  | with_reducible refine w_test ?_
  | with_reducible refine w_tB ?_
  | with_reducible refine w_set ?_
  | with_reducible refine w_ifS ?_
  | with_reducible refine w_if ?_
  | with_reducible refine w_or ?_
  | with_reducible refine w_and ?_
  | with_reducible refine w_not ?_
  | with_reducible refine w_orV ?_
  | with_reducible refine w_andV ?_
  | with_reducible refine w_notV ?_
  | with_reducible refine w_ret ?_
  | with_reducible refine w_retN ?_
  | with_reducible refine w_drop ?_
  | with_reducible refine w_next ?_
  | with_reducible refine w_un ?_
  | with_reducible refine w_CB ?_
  | with_reducible refine w_call ?_
  | with_reducible refine w_callS ?_
  | with_reducible refine w_gName ?_
  | with_reducible refine w_asg ?_
  | with_reducible refine w_tTup ?_
  | with_reducible refine w_tLst ?_
  | with_reducible refine w_lc ?_
  | with_reducible refine w_iRng1 ?_
  | with_reducible refine w_iRng2 ?_
  | with_reducible refine w_iList ?_
  | with_reducible refine w_iTup ?_
  | with_reducible refine w_for ?_
  | with_reducible refine w_chain ?_
  | with_reducible refine w_bm ?_
  | with_reducible refine w_isiII ?_
  | with_reducible refine w_isiIB ?_
  | with_reducible refine w_isiBB ?_
  | with_reducible refine w_max ?_
  | ((with_reducible refine w_eq ?we ?_); (case we => rfl))
  | ((with_reducible refine w_ne ?we ?_); (case we => rfl)))
local macro_rules | `(tactic| walk_at "w1") => `(tactic| first | walk_at "e1" | with_reducible refine w_seq ?_)
local macro_rules | `(tactic| walk_at "e") => `(tactic| repeat walk_at "e1")
local macro_rules | `(tactic| walk_at "w") => `(tactic| repeat walk_at "w1")

theorem ok_l_refusal (T : Txt K mg a) : FnOk P w K mg base (L2.CX P w) 3 a.f_l_refusal a.d_l_refusal ["_law_sort", "_law_one", "_law_other"] (sp_refusal a) := by
  refine T.F_l_refusal.okX sc_l_refusal (fun vs H Q E h => ?_) (fun cdv A outer s H vs Q E hr h => ?_)
  · obtain ⟨n, x, y, rfl, _⟩ := h; rfl
  · obtain ⟨n, x, y, rfl, h⟩ := h
    refine ⟨_, (pss_cons (ps_try_as (i := 3) rfl rfl sc_l_refusal.nd rfl rfl ⟨rfl, by decide, .inl T.g_ShelfError⟩ takes0 (fun W pn xe tk ow => (pss_one (ps_if (pt_cmpR op_eq (pv 0) pe_int (nomark _)) (pss_one (ps_expr (pe_callS (ok_joined T) (hr.mono (by decide)) rfl T.g_joined T.k_joined T.b_joined (fun σ => passAt tk σ) (pa_cons (pv 1) (pa_cons (pv 2) pa_nil))))) (pss_one (ps_if (pt_cmpR op_eq (pv 0) pe_int (nomark _)) (pss_one (ps_expr (pe_callS (ok_within T) (hr.mono (by decide)) rfl T.g_within T.k_within T.b_within (fun σ => passAt tk σ) (pa_cons (pv 1) (pa_cons (pv 2) pa_nil))))) (pss_one (ps_expr (pe_callS (ok_blank T) (hr.mono (by decide)) rfl T.g_blank T.k_blank T.b_blank (fun σ => passAt tk σ) (pa_cons (pv 1) pa_nil))))))))) (fun ae oe cls dd pn hz hf => (pss_cons (ps_set (i := 4) sc_l_refusal.nd rfl (Or.inl rfl) (pe_lst (pa_cons (pe_callB (r := rIsX K cls dd ae) (call_isX hz hf) rfl T.n_isinstance (by decide +kernel) (pa_cons (pv 3) (pa_cons (pe_glob (v := .ref a.C_BadMark) rfl T.g_BadMark rfl) pa_nil))) (pa_cons (pe_callB (r := rIsX K cls dd ae) (call_isX hz hf) rfl T.n_isinstance (by decide +kernel) (pa_cons (pv 3) (pa_cons (pe_glob (v := .ref a.C_BadCount) rfl T.g_BadCount rfl) pa_nil))) (pa_cons (pe_callB (r := rIsX K cls dd ae) (call_isX hz hf) rfl T.n_isinstance (by decide +kernel) (pa_cons (pv 3) (pa_cons (pe_glob (v := .ref a.C_NoKeeper) rfl T.g_NoKeeper rfl) pa_nil))) (pa_cons (pe_callB (r := rIsX K cls dd ae) (call_isX hz hf) rfl T.n_isinstance (by decide +kernel) (pa_cons (pv 3) (pa_cons (pe_glob (v := .ref a.C_BadNote) rfl T.g_BadNote rfl) pa_nil))) pa_nil))))))
  (pss_cons (ps_if (PW.pt (pw_or (pt_not (pt_val (pe_callB (r := rIsX K cls dd ae) (call_isX hz hf) rfl T.n_isinstance (by decide +kernel) (pa_cons (pv 3) (pa_cons (pe_bltn (v := .ty "ValueError") (u := .type "ValueError") rfl T.n_ValueError (by decide +kernel) rfl) pa_nil))))) (pw_or1 (pt_cmpR op_ne (pe_bmK K rfl PySem.F.plainAttrs_list PySem.F.slot_list_count PySem.F.type_list_count (r := rCountB K) mt_countB (pv 4) (pa_cons pe_bl pa_nil)) pe_int (nomark _))))) (pss_one (ps_ret pe_str)) pss_nil)
  (pss_cons (ps_if (pt_val (pe_callB (r := rIsX K cls dd ae) (call_isX hz hf) rfl T.n_isinstance (by decide +kernel) (pa_cons (pv 3) (pa_cons (pe_glob (v := .ref a.C_BadMark) rfl T.g_BadMark rfl) pa_nil)))) (pss_one (ps_ret pe_str)) pss_nil)
  (pss_one (ps_if (pt_val (pe_callB (r := rIsX K cls dd ae) (call_isX hz hf) rfl T.n_isinstance (by decide +kernel) (pa_cons (pv 3) (pa_cons (pe_glob (v := .ref a.C_BadCount) rfl T.g_BadCount rfl) pa_nil)))) (pss_one (ps_ret pe_str)) pss_nil)))))))
  (pss_one (ps_ret pe_str))), ?_⟩
    rcases h with ⟨h0, M, m, n, hx, hy, hm, q⟩ | ⟨rfl, n, rfl, q⟩
    · rcases h0 with rfl | rfl
      · walk_at "w"
        refine iteT ?_
        walk_at "w"
        refine ⟨M, x, y, m, n, rfl, hx, hy, hm, fun e => ?_, fun e => ?_⟩
        · refine fun v H' s r => ?_
          walk_at "w"
          rw [if_pos e] at q
          exact q _ s
        · rw [if_neg e] at q
          refine ⟨true, PySem.W.exm_ref T.b_ShelfError T.h_ShelfError T.t_ShelfError T.s_BadMark_ShelfError, fun _ ae ha => ?_, fun z => nomatch z⟩
          walk_at "w"
          refine w_isXR T.e_BadMark (kit_ref T.h_BadMark T.t_BadMark T.s_BadMark_BadMark fun _ => rfl) ?_
          walk_at "w"
          refine w_isXR T.e_BadMark (kit_no T.h_BadCount T.t_BadCount T.s_BadMark_BadCount T.s_BadCount_BadCount) ?_
          walk_at "w"
          refine w_isXR T.e_BadMark (kit_no T.h_NoKeeper T.t_NoKeeper T.s_BadMark_NoKeeper T.s_NoKeeper_NoKeeper) ?_
          walk_at "w"
          refine w_isXR T.e_BadMark (kit_no T.h_BadNote T.t_BadNote T.s_BadMark_BadNote T.s_BadNote_BadNote) ?_
          walk_at "w"
          refine ⟨by decide, fun kp hk => ?_⟩
          walk_at "w"
          refine w_isXV T.e_BadMark T.v_BadMark ?_
          walk_at "w"
          refine iteF ?_
          walk_at "w"
          refine ⟨ty_lst (SqL.of upd_same), ?_⟩
          walk_at "w"
          refine ⟨kp, [true, false, false, false], true, rfl, rfl, SqL.of upd_same, ?_⟩
          walk_at "w"
          refine iteF ?_
          walk_at "w"
          refine w_isXR T.e_BadMark (kit_ref T.h_BadMark T.t_BadMark T.s_BadMark_BadMark fun _ => rfl) ?_
          walk_at "w"
          refine iteT ?_
          walk_at "w"
          exact q _ (Same.new hk)
      · walk_at "w"
        refine iteF ?_
        walk_at "w"
        refine iteT ?_
        walk_at "w"
        refine ⟨M, x, y, m, n, rfl, hx, hy, hm, fun e => ?_, fun e => ?_⟩
        · skip
          walk_at "w"
          rw [if_pos e] at q
          exact q _ (Same.refl _)
        · rw [if_neg e] at q
          refine ⟨true, PySem.W.exm_ref T.b_ShelfError T.h_ShelfError T.t_ShelfError T.s_BadMark_ShelfError, fun _ ae ha => ?_, fun z => nomatch z⟩
          walk_at "w"
          refine w_isXR T.e_BadMark (kit_ref T.h_BadMark T.t_BadMark T.s_BadMark_BadMark fun _ => rfl) ?_
          walk_at "w"
          refine w_isXR T.e_BadMark (kit_no T.h_BadCount T.t_BadCount T.s_BadMark_BadCount T.s_BadCount_BadCount) ?_
          walk_at "w"
          refine w_isXR T.e_BadMark (kit_no T.h_NoKeeper T.t_NoKeeper T.s_BadMark_NoKeeper T.s_NoKeeper_NoKeeper) ?_
          walk_at "w"
          refine w_isXR T.e_BadMark (kit_no T.h_BadNote T.t_BadNote T.s_BadMark_BadNote T.s_BadNote_BadNote) ?_
          walk_at "w"
          refine ⟨by decide, fun kp hk => ?_⟩
          walk_at "w"
          refine w_isXV T.e_BadMark T.v_BadMark ?_
          walk_at "w"
          refine iteF ?_
          walk_at "w"
          refine ⟨ty_lst (SqL.of upd_same), ?_⟩
          walk_at "w"
          refine ⟨kp, [true, false, false, false], true, rfl, rfl, SqL.of upd_same, ?_⟩
          walk_at "w"
          refine iteF ?_
          walk_at "w"
          refine w_isXR T.e_BadMark (kit_ref T.h_BadMark T.t_BadMark T.s_BadMark_BadMark fun _ => rfl) ?_
          walk_at "w"
          refine iteT ?_
          walk_at "w"
          exact q _ (Same.new hk)
    · walk_at "w"
      refine iteF ?_
      walk_at "w"
      refine iteF ?_
      walk_at "w"
      refine ⟨n, rfl, fun e v H' s r => ?_, fun e => ?_⟩
      · walk_at "w"
        rw [if_pos e] at q
        exact q _ s
      · rw [if_neg e] at q
        refine ⟨true, PySem.W.exm_ref T.b_ShelfError T.h_ShelfError T.t_ShelfError T.s_BadCount_ShelfError, fun _ ae ha => ?_, fun z => nomatch z⟩
        walk_at "w"
        refine w_isXR T.e_BadCount (kit_no T.h_BadMark T.t_BadMark T.s_BadCount_BadMark T.s_BadMark_BadMark) ?_
        walk_at "w"
        refine w_isXR T.e_BadCount (kit_ref T.h_BadCount T.t_BadCount T.s_BadCount_BadCount fun _ => rfl) ?_
        walk_at "w"
        refine w_isXR T.e_BadCount (kit_no T.h_NoKeeper T.t_NoKeeper T.s_BadCount_NoKeeper T.s_NoKeeper_NoKeeper) ?_
        walk_at "w"
        refine w_isXR T.e_BadCount (kit_no T.h_BadNote T.t_BadNote T.s_BadCount_BadNote T.s_BadNote_BadNote) ?_
        walk_at "w"
        refine ⟨by decide, fun kp hk => ?_⟩
        walk_at "w"
        refine w_isXV T.e_BadCount T.v_BadCount ?_
        walk_at "w"
        refine iteF ?_
        walk_at "w"
        refine ⟨ty_lst (SqL.of upd_same), ?_⟩
        walk_at "w"
        refine ⟨kp, [false, true, false, false], true, rfl, rfl, SqL.of upd_same, ?_⟩
        walk_at "w"
        refine iteF ?_
        walk_at "w"
        refine w_isXR T.e_BadCount (kit_no T.h_BadMark T.t_BadMark T.s_BadCount_BadMark T.s_BadMark_BadMark) ?_
        walk_at "w"
        refine iteF ?_
        walk_at "w"
        refine w_isXR T.e_BadCount (kit_ref T.h_BadCount T.t_BadCount T.s_BadCount_BadCount fun _ => rfl) ?_
        walk_at "w"
        refine iteT ?_
        walk_at "w"
        exact q _ (Same.new hk)
end
end Sb

namespace Sb
open PySem L2
theorem join_within {m n : List Int} (e : m.length = n.length) : withinM m n = decide (joinM m n = n) := by
  by_cases h : joinM m n = n
  · rw [decide_eq_true h]
    refine within_yes fun i hi => ?_
    have := joinM_get e hi
    rw [h, List.getElem?_eq_getElem (by omega)] at this
    have h2 : n.getD i 0 = max (m.getD i 0) (n.getD i 0) := by
      rw [List.getD_eq_getElem?_getD, List.getElem?_eq_getElem (by omega)]
      have := Option.some.inj this
      rwa [List.getD_eq_getElem?_getD (l := n), List.getElem?_eq_getElem (show i < n.length by omega)] at this
    omega
  · rw [decide_eq_false h]
    cases hw : withinM m n with
    | false => rfl
    | true =>
      refine absurd (List.ext_getElem? fun i => ?_) h
      by_cases hi : i < m.length
      · rw [joinM_get e hi, List.getElem?_eq_getElem (by omega)]
        have := List.all_eq_true.mp hw i (List.mem_range.mpr hi)
        have h3 := of_decide_eq_true this
        have h2 : n.getD i 0 = n[i]'(by omega) := by
          rw [List.getD_eq_getElem?_getD, List.getElem?_eq_getElem (by omega)]; rfl
        rw [← h2]
        congr 1
        omega
      · rw [List.getElem?_eq_none (by rw [joinM_len e]; omega), List.getElem?_eq_none (by omega)]
section
variable {P : Program} {w : World} {K : Frag} {mg : Str → Option Value} {base : Heap} {a : Ad}
local macro_rules | `(tactic| walk_at "e1") => `(tactic| first
  | ((with_reducible refine' w_var ?wh ?_); (case wh => rfl))
  | with_reducible refine w_c ?_
  | with_reducible refine w_projn ?_
  | with_reducible refine w_projr ?_
  | with_reducible refine w_op ?_
  | with_reducible refine w_cons ?_
  | with_reducible refine w_nil ?_
  | with_reducible refine w_I0 ?_
  | ((with_reducible refine w_I ?wc ?_); (case wc => first | (show (0 : Int) < _; decide) | exact ⟨by decide, by decide⟩ | exact ⟨by decide, by decide, by decide⟩ | exact Or.inr ⟨by decide, by decide⟩ | exact Or.inl ⟨by decide, by decide⟩ | (show (0 : Int) < _; omega)))
  | with_reducible refine w_bl ?_
  | with_reducible refine w_test ?_
  | with_reducible refine w_tB ?_
  | with_reducible refine w_set ?_
  | with_reducible refine w_ifS ?_
  | with_reducible refine w_if ?_
  | with_reducible refine w_or ?_
  | with_reducible refine w_and ?_
  | with_reducible refine w_not ?_
  | with_reducible refine w_orV ?_
  | with_reducible refine w_andV ?_
  | with_reducible refine w_notV ?_
  | with_reducible refine w_ret ?_
  | with_reducible refine w_retN ?_
  | with_reducible refine w_drop ?_
  | with_reducible refine w_next ?_
  | with_reducible refine w_un ?_
  | with_reducible refine w_CB ?_
  | with_reducible refine w_call ?_
  | with_reducible refine w_callS ?_
  | with_reducible refine w_gName ?_
  | with_reducible refine w_asg ?_
  | with_reducible refine w_tTup ?_
  | with_reducible refine w_tLst ?_
  | with_reducible refine w_lc ?_
  | with_reducible refine w_iRng1 ?_
  | with_reducible refine w_iRng2 ?_
  | with_reducible refine w_iList ?_
  | with_reducible refine w_iTup ?_
  | with_reducible refine w_for ?_
  | with_reducible refine w_chain ?_
  | with_reducible refine w_bm ?_
  | with_reducible refine w_isiII ?_
  | with_reducible refine w_isiIB ?_
  | with_reducible refine w_isiBB ?_
  | with_reducible refine w_max ?_
  | ((with_reducible refine w_eq ?we ?_); (case we => rfl))
  | ((with_reducible refine w_ne ?we ?_); (case we => rfl)))
local macro_rules | `(tactic| walk_at "w1") => `(tactic| first | walk_at "e1" | with_reducible refine w_seq ?_)
local macro_rules | `(tactic| walk_at "e") => `(tactic| repeat walk_at "e1")
local macro_rules | `(tactic| walk_at "w") => `(tactic| repeat walk_at "w1")

theorem ok_law (T : Txt K mg a) : FnOk P w K mg base (L2.CX P w) 4 a.f_law a.d_law ["_law_script"] (sp_law K) := by
  refine T.F_law.okX sc_law (fun vs H Q E h => ?_) (fun cdv A outer s H vs Q E hr h => ?_)
  · obtain ⟨b, ns, rfl, _⟩ := h; rfl
  · obtain ⟨b, ns, rfl, hs, hl, q⟩ := h
    have hu64 := hr.units
    refine ⟨_, (pss_cons (ps_set (i := 1) sc_law.nd rfl (Or.inl rfl) (pe_op op_add pe_int (pe_op op_mod (pe_call (ok_l_cell_at T) (hr.mono (by decide)) rfl T.g_l_cell_at T.k_l_cell_at T.b_l_cell_at .nil passL (pa_cons (pv 0) (pa_cons pe_int pa_nil))) pe_int)))
  (pss_cons (ps_set (i := 2) sc_law.nd rfl (Or.inl rfl) (pv 1))
  (pss_cons (ps_if (pt_cmpR op_eq (pe_op op_mod (pe_call (ok_l_cell_at T) (hr.mono (by decide)) rfl T.g_l_cell_at T.k_l_cell_at T.b_l_cell_at .nil passL (pa_cons (pv 0) (pa_cons pe_int pa_nil))) pe_int) pe_int (nomark _)) (pss_one (ps_set (i := 2) sc_law.nd rfl (Or.inl rfl) (pe_op op_add pe_int (pe_op op_mod (pe_op op_fdiv (pe_call (ok_l_cell_at T) (hr.mono (by decide)) rfl T.g_l_cell_at T.k_l_cell_at T.b_l_cell_at .nil passL (pa_cons (pv 0) (pa_cons pe_int pa_nil))) pe_int) pe_int)))) pss_nil)
  (pss_cons (ps_set (i := 3) sc_law.nd rfl (Or.inr rfl) (pe_call (ok_l_mark T) (hr.mono (by decide)) rfl T.g_l_mark T.k_l_mark T.b_l_mark .nil passL (pa_cons (pv 0) (pa_cons pe_int (pa_cons (pv 1) pa_nil)))))
  (pss_cons (ps_set (i := 4) sc_law.nd rfl (Or.inr rfl) (pe_call (ok_l_mark T) (hr.mono (by decide)) rfl T.g_l_mark T.k_l_mark T.b_l_mark .nil passL (pa_cons (pv 0) (pa_cons pe_int (pa_cons (pv 2) pa_nil)))))
  (pss_cons (ps_set (i := 5) sc_law.nd rfl (Or.inl rfl) (pe_op op_sub (pe_op op_mod (pe_call (ok_l_cell_at T) (hr.mono (by decide)) rfl T.g_l_cell_at T.k_l_cell_at T.b_l_cell_at .nil passL (pa_cons (pv 0) (pa_cons pe_int pa_nil))) pe_int) pe_int))
  (pss_cons (ps_if (pt_cmpR op_ne (pe_cmpR op_eq (pe_call (ok_l_refusal T) (hr.mono (by decide)) rfl T.g_l_refusal T.k_l_refusal T.b_l_refusal .nil passL (pa_cons pe_int (pa_cons (pv 5) (pa_cons pe_non pa_nil)))) pe_str (nomark _)) (pe_or (pe_cmpR op_lt (pv 5) pe_int (nomark _)) (pe_one (pe_cmpR op_gt (pv 5) pe_int (nomark _)))) (nomark _)) (pss_one (ps_ret pe_bl)) pss_nil)
  (pss_cons (ps_if (PW.pt (pw_and (pt_chain op_le op_le pe_int (pv 5) pe_int) (pw_and1 (pt_not (pt_val (pe_call (ok_l_same T) (hr.mono (by decide)) rfl T.g_l_same T.k_l_same T.b_l_same .nil passL (pa_cons (pe_call (ok_blank T) (hr.mono (by decide)) rfl T.g_blank T.k_blank T.b_blank .nil passL (pa_cons (pv 5) pa_nil)) (pa_cons (pe_callTy (r := rTup K) cl_tup rfl T.n_tuple (by decide +kernel) (pa_cons (pe_lc (own := [("_law_k", 11)]) rfl sc_law.nd (pi_range1 rfl T.n_range (pa_cons (pv 5) pa_nil)) (blkOk_by (own := [("_law_k", 11)]) (N := N_law) (sc := defScope s_law) (by decide +kernel)) (fun _ _ _ _ _ => (pg_name (i := 11) sc_law.nd rfl (by first | exact Or.inl rfl | exact Or.inr rfl))) (fun _ _ _ _ _ => pts_nil) (fun _ _ _ _ _ => pe_int)) pa_nil)) pa_nil)))))))) (pss_one (ps_ret pe_bl)) pss_nil)
  (pss_cons (ps_set (i := 6) sc_law.nd rfl (Or.inl rfl) (pe_op op_mod (pe_call (ok_l_cell_at T) (hr.mono (by decide)) rfl T.g_l_cell_at T.k_l_cell_at T.b_l_cell_at .nil passL (pa_cons (pv 0) (pa_cons pe_int pa_nil))) (pv 1)))
  (pss_cons (ps_set (i := 7) sc_law.nd rfl (Or.inl rfl) (pe_callB (cl_max rfl) rfl T.n_max (by decide +kernel) (pa_cons pe_int (pa_cons (pe_op op_sub (pe_op op_add (pe_ix (r := rIxT K) ix_tup (pv 3) (pv 6) (fun _ _ => rfl)) (pe_op op_mod (pe_call (ok_l_cell_at T) (hr.mono (by decide)) rfl T.g_l_cell_at T.k_l_cell_at T.b_l_cell_at .nil passL (pa_cons (pv 0) (pa_cons pe_int pa_nil))) pe_int)) pe_int) pa_nil))))
  (pss_cons (ps_set (i := 8) sc_law.nd rfl (Or.inl rfl) (pe_call (ok_has_seen T) (hr.mono (by decide)) rfl T.g_has_seen T.k_has_seen T.b_has_seen .nil passL (pa_cons (pv 3) (pa_cons (pv 6) (pa_cons (pv 7) pa_nil)))))
  (pss_cons (ps_if (PW.pt (pw_or (pt_not (pt_val (pe_callB (r := rIsi K) call_isi rfl T.n_isinstance (by decide +kernel) (pa_cons (pv 8) (pa_cons (pe_bltn (v := .ty "bool") (u := .type "bool") rfl T.n_bool (by decide +kernel) rfl) pa_nil))))) (pw_or1 (pt_cmpR op_ne (pv 8) (pe_cmpR op_le (pv 7) (pe_ix (r := rIxT K) ix_tup (pv 3) (pv 6) (fun _ _ => rfl)) (nomark _)) (nomark _))))) (pss_one (ps_ret pe_bl)) pss_nil)
  (pss_cons (ps_if (pt_cmpR op_ne (pv 2) (pv 1) (nomark _)) (pss_one (ps_ret (pe_and (pe_cmpR op_eq (pe_call (ok_l_refusal T) (hr.mono (by decide)) rfl T.g_l_refusal T.k_l_refusal T.b_l_refusal .nil passL (pa_cons pe_int (pa_cons (pv 3) (pa_cons (pv 4) pa_nil)))) pe_str (nomark _)) (pe_one (pe_cmpR op_eq (pe_call (ok_l_refusal T) (hr.mono (by decide)) rfl T.g_l_refusal T.k_l_refusal T.b_l_refusal .nil passL (pa_cons pe_int (pa_cons (pv 3) (pa_cons (pv 4) pa_nil)))) pe_str (nomark _)))))) pss_nil)
  (pss_cons (ps_set (i := 9) sc_law.nd rfl (Or.inl rfl) (pe_callTy (r := rTup K) cl_tup rfl T.n_tuple (by decide +kernel) (pa_cons (pe_lc (own := [("_law_k", 11)]) rfl sc_law.nd (pi_range1 rfl T.n_range (pa_cons (pv 1) pa_nil)) (blkOk_by (own := [("_law_k", 11)]) (N := N_law) (sc := defScope s_law) (by decide +kernel)) (fun _ _ _ _ _ => (pg_name (i := 11) sc_law.nd rfl (by first | exact Or.inl rfl | exact Or.inr rfl))) (fun _ _ _ _ _ => pts_nil) (fun _ _ _ _ _ => (pe_callB (cl_max rfl) rfl T.n_max (by decide +kernel) (pa_cons (pe_ix (r := rIxT K) ix_tup (pv 3) (pv 11) (fun _ _ => rfl)) (pa_cons (pe_ix (r := rIxT K) ix_tup (pv 4) (pv 11) (fun _ _ => rfl)) pa_nil))))) pa_nil)))
  (pss_cons (ps_set (i := 10) sc_law.nd rfl (Or.inl rfl) (pe_call (ok_within T) (hr.mono (by decide)) rfl T.g_within T.k_within T.b_within .nil passL (pa_cons (pv 3) (pa_cons (pv 4) pa_nil))))
  (pss_cons (ps_if (PW.pt (pw_or (pt_not (pt_val (pe_callB (r := rIsi K) call_isi rfl T.n_isinstance (by decide +kernel) (pa_cons (pv 10) (pa_cons (pe_bltn (v := .ty "bool") (u := .type "bool") rfl T.n_bool (by decide +kernel) rfl) pa_nil))))) (pw_or1 (pt_cmpR op_ne (pv 10) (pe_cmpR (r := rEqD K) (op_eqD hu64) (pv 9) (pv 4) (nomark _)) (nomark _))))) (pss_one (ps_ret pe_bl)) pss_nil)
  (pss_one (ps_ret (pe_call (ok_l_same T) (hr.mono (by decide)) rfl T.g_l_same T.k_l_same T.b_l_same .nil passL (pa_cons (pe_call (ok_joined T) (hr.mono (by decide)) rfl T.g_joined T.k_joined T.b_joined .nil passL (pa_cons (pv 3) (pa_cons (pv 4) pa_nil))) (pa_cons (pv 9) pa_nil))))))))))))))))))))), ?_⟩
    walk_at "w"
    refine ⟨b, ns, 0, rfl, hs, ?_⟩
    walk_at "w"
    obtain ⟨many, em, m1, m2⟩ : ∃ many : Nat, 1 + cell ns 0 % 9 = (many : Int) ∧ 1 ≤ many ∧ many ≤ 9 := ⟨(1 + cell ns 0 % 9).toNat, by omega, by omega, by omega⟩
    rw [em]
    refine ⟨b, ns, 1, rfl, hs, ?_⟩
    walk_at "w"
    refine w_ifJoin 2 (.int many) (fun x => ∃ z : Nat, x = .int z ∧ 1 ≤ z ∧ z ≤ 9) rfl (fun _ => ⟨many, rfl, m1, m2⟩) ?_ (fun N key h => ?_)
    rotate_left
    · walk_at "w"
      refine ⟨b, ns, 1, rfl, hs, ?_⟩
      walk_at "w"
      exact key _ ⟨(1 + cell ns 1 / 3 % 9).toNat, by rw [Int.toNat_of_nonneg (by omega)], by omega, by omega⟩
    rintro _ ⟨size, rfl, z1, z2⟩
    walk_at "w"
    refine ⟨b, ns, 5, many, rfl, hs, m2, fun v1 H1 s1 r1 => ?_⟩
    walk_at "w"
    refine ⟨b, ns, 14, size, rfl, Same.seq s1 hs, z2, fun v2 H2 s2 r2 => ?_⟩
    have hs2 := Same.seq s2 (Same.seq s1 hs)
    have r1 := fun M => (r1 M).same s2
    walk_at "w"
    refine ⟨b, ns, 2, rfl, hs2, ?_⟩
    walk_at "e"
    generalize cell ns 2 % 16 - 3 = cnt
    refine w_cut (fun σ' H' => σ' = [some (.ref b), some (.int many), some (.int size), some v1, some v2, some (.int cnt), none, none, none, none, none, none] ∧ Same H2 H') (fun N key => ?_) ?_
    · walk_at "w"
      refine ⟨2, _, _, rfl, .inr ⟨rfl, cnt, rfl, fun H3 s3 => ?_⟩⟩
      by_cases hc : 1 ≤ cnt ∧ cnt ≤ 9
      · rw [if_pos hc]
        walk_at "w"
        refine iteDn (by omega) ?_
        walk_at "w"
        refine iteNS (by
          have e : decide (9 < cnt) = false := decide_eq_false (by omega)
          rw [e]; decide +kernel) ?_
        walk_at "w"
        exact key _ _ ⟨rfl, s3⟩
      · rw [if_neg hc]
        walk_at "w"
        by_cases h1 : cnt < 1
        · refine iteD h1 ?_
          walk_at "w"
          refine iteNS (by decide +kernel) ?_
          walk_at "w"
          exact key _ _ ⟨rfl, s3⟩
        · refine iteDn h1 ?_
          walk_at "w"
          have h9 : 9 < cnt := by omega
          refine iteNS (by rw [decide_eq_true h9]; decide +kernel) ?_
          walk_at "w"
          exact key _ _ ⟨rfl, s3⟩
    rintro _ H3 ⟨rfl, s3⟩
    have hs3 := Same.seq s3 hs2
    have r1 := fun M => (r1 M).same s3
    have r2 := fun M => (r2 M).same s3
    refine w_cut (fun σ' H' => σ' = [some (.ref b), some (.int many), some (.int size), some v1, some v2, some (.int cnt), none, none, none, none, none, none] ∧ Same H3 H') (fun N key => ?_) ?_
    · walk_at "w"
      by_cases hc : 1 ≤ cnt ∧ cnt ≤ 9
      · refine iteD hc.1 ?_
        walk_at "w"
        refine iteD hc.2 ?_
        walk_at "w"
        refine ⟨cnt, rfl, fun _ v3 H4 s4 r3 => ?_, fun z => absurd hc z⟩
        walk_at "w"
        refine ⟨cnt, rfl, by omega, by omega, ?_⟩
        refine lcR _ (fun _ => some (.int 0)) (fun _ => False) (fun _ _ z => z) (sz_small (by omega)) (fun i H2 M' Yes No hi s ex fr yes no => ?_) (fun D H' hD s r => ?_)
        · refine w_it0 rfl ?_
          exact yes _ H2 _ rfl (Same.refl _) (.int 0)
        · walk_at "w"
          refine w_tupleL r fun v H2 s2 r2 => ?_
          have e : (List.range cnt.toNat).filterMap (fun _ => some (PyData.int 0)) = (List.replicate cnt.toNat (0 : Int)).map PyData.int := by
            rw [List.map_replicate, List.filterMap_eq_map', List.map_const', List.length_range]
          rw [e] at r2
          walk_at "w"
          refine ⟨_, _, _, _, _, rfl, ((r3 _).same s).same s2, r2, by simp; omega, by simp; omega, ?_⟩
          walk_at "w"
          refine iteN (by simp) ?_
          walk_at "w"
          exact key _ _ ⟨rfl, Same.trans s4 (Same.trans s s2)⟩
      · by_cases h1 : 1 ≤ cnt
        · refine iteD h1 ?_
          walk_at "w"
          refine iteDn (by omega) ?_
          walk_at "w"
          exact key _ _ ⟨rfl, Same.refl _⟩
        · refine iteDn h1 ?_
          walk_at "w"
          refine iteF ?_
          walk_at "w"
          exact key _ _ ⟨rfl, Same.refl _⟩
    rintro _ H4 ⟨rfl, s4⟩
    have hs4 := Same.seq s4 hs3
    have r1 := fun M => (r1 M).same s4
    have r2 := fun M => (r2 M).same s4
    have l1 : (lmark ns 5 many).length = many := by simp [lmark]
    have l2 : (lmark ns 14 size).length = size := by simp [lmark]
    walk_at "w"
    refine ⟨b, ns, 3, rfl, hs4, ?_⟩
    walk_at "w"
    obtain ⟨kp, ek, k1⟩ : ∃ kp : Nat, cell ns 3 % many = (kp : Int) ∧ kp < many := ⟨(cell ns 3 % many).toNat, by have := Int.emod_nonneg (cell ns 3) (show (many : Int) ≠ 0 by omega); omega, by
      have := Int.emod_nonneg (cell ns 3) (show (many : Int) ≠ 0 by omega)
      have := Int.emod_lt_of_pos (cell ns 3) (show (0 : Int) < many by omega)
      omega⟩
    rw [ek]
    walk_at "w"
    refine w_ixM kp (r1 fun _ => False) rfl (by omega) ?_
    walk_at "w"
    refine ⟨b, ns, 4, rfl, hs4, ?_⟩
    walk_at "w"
    refine ⟨fun _ => False, _, _, kp, _, rfl, r1 _, by omega, ?_⟩
    walk_at "w"
    refine iteF ?_
    walk_at "w"
    refine w_ixM kp (r1 fun _ => False) rfl (by omega) ?_
    walk_at "w"
    refine iteNS rfl ?_
    walk_at "w"
    by_cases hz : size = many
    · subst hz
      refine iteNS rfl ?_
      walk_at "w"
      refine ⟨_, rfl, by omega, by omega, ?_⟩
      refine lcR _ (fun i => some (.int (max ((lmark ns 5 size).getD i 0) ((lmark ns 14 size).getD i 0)))) (fun _ => False) (fun _ _ z => z) (sz_small (by omega)) (fun i H2 M' Yes No hi s ex fr yes no => ?_) (fun D H' hD s r => ?_)
      · have hi : i < size := hi
        refine w_it0 rfl ?_
        walk_at "w"
        refine w_ixM i ((r1 M').same s) (by omega) (by omega) ?_
        walk_at "w"
        refine w_ixM i ((r2 M').same s) (by omega) (by omega) ?_
        walk_at "w"
        exact yes _ H2 _ rfl (Same.refl _) (.int _)
      walk_at "w"
      refine w_tupleL r fun v H5 s5 r5 => ?_
      have fmj := fm_join (m := lmark ns 5 size) (n := lmark ns 14 size) (by omega)
      rw [l1] at fmj
      rw [fmj] at r5
      have r1 := fun M => ((r1 M).same s).same s5
      have r2 := fun M => ((r2 M).same s).same s5
      walk_at "w"
      refine ⟨fun _ => False, _, _, _, _, rfl, r1 _, r2 _, by omega, fun e => ?_, fun e => absurd (by omega) e⟩
      walk_at "w"
      refine iteF ?_
      walk_at "w"
      refine w_eqM r5 (r2 fun _ => False) ?_
      walk_at "w"
      refine iteNS (by rw [join_within e]) ?_
      walk_at "w"
      refine ⟨fun _ => False, _, _, _, _, rfl, r1 _, r2 _, by omega, fun e v6 H6 s6 r6 => ?_, fun e => absurd (by omega) e⟩
      walk_at "w"
      refine ⟨_, _, _, _, _, rfl, r6 _, r5.same s6, by rw [joinM_len e]; omega, by rw [joinM_len e]; omega, ?_⟩
      rw [decide_eq_true rfl]
      exact q _
    · refine iteY (by simp; omega) ?_
      walk_at "w"
      refine ⟨0, _, _, rfl, .inl ⟨.inl rfl, fun _ => False, _, _, r1 _, r2 _, by omega, fun H5 s5 => ?_⟩⟩
      rw [if_neg (by omega)]
      walk_at "w"
      refine iteD (by decide +kernel) ?_
      walk_at "w"
      refine ⟨1, _, _, rfl, .inl ⟨.inr rfl, fun _ => False, _, _, (r1 _).same s5, (r2 _).same s5, by omega, fun H6 s6 => ?_⟩⟩
      rw [if_neg (by omega)]
      walk_at "w"
      have e : decide (V.str "mark" = V.str "mark") = true := by decide +kernel
      rw [e]
      exact q _
end
end Sb

namespace Sb
open PySem L2
set_option maxHeartbeats 16000000
theorem all_mk {l : PySem.W.OpenLaw} {w : World} {K : Frag} {h : Heap} {mg : Str → Option Value} {fa : Addr} (X : K.In h) (G : h.Ns mainGlobals mg) (hfa : mg "law" = some (.ref fa))
    {C_ShelfError C_BadCount C_NoKeeper C_BadMark C_BadNote f_blank f_need_alike f_joined f_within f_has_seen f_l_cell_at f_l_same f_l_mark f_l_refusal f_law : Addr}
    {od_blank an_blank od_need_alike an_need_alike od_joined an_joined od_within an_within od_has_seen an_has_seen od_l_cell_at an_l_cell_at od_l_same an_l_same od_l_mark an_l_mark od_l_refusal an_l_refusal od_law an_law : Option Addr}
    {sl_blank sl_need_alike sl_joined sl_within sl_has_seen sl_l_cell_at sl_l_same sl_l_mark sl_l_refusal sl_law : Array (Option Value)}
    {oc_blank kV_blank dc_blank pm_blank cd_blank ct_blank oc_need_alike kV_need_alike dc_need_alike pm_need_alike cd_need_alike ct_need_alike oc_joined kV_joined dc_joined pm_joined cd_joined ct_joined oc_within kV_within dc_within pm_within cd_within ct_within oc_has_seen kV_has_seen dc_has_seen pm_has_seen cd_has_seen ct_has_seen oc_l_cell_at kV_l_cell_at dc_l_cell_at pm_l_cell_at cd_l_cell_at ct_l_cell_at oc_l_same kV_l_same dc_l_same pm_l_same cd_l_same ct_l_same oc_l_mark kV_l_mark dc_l_mark pm_l_mark cd_l_mark ct_l_mark oc_l_refusal kV_l_refusal dc_l_refusal pm_l_refusal cd_l_refusal ct_l_refusal oc_law kV_law dc_law pm_law cd_law ct_law : Value}
    (z_ValueError : PySem.W.nsIn K mainGlobals "ValueError" = some none)
    (z_bool : PySem.W.nsIn K mainGlobals "bool" = some none)
    (z_int : PySem.W.nsIn K mainGlobals "int" = some none)
    (z_isinstance : PySem.W.nsIn K mainGlobals "isinstance" = some none)
    (z_len : PySem.W.nsIn K mainGlobals "len" = some none)
    (z_max : PySem.W.nsIn K mainGlobals "max" = some none)
    (z_range : PySem.W.nsIn K mainGlobals "range" = some none)
    (z_tuple : PySem.W.nsIn K mainGlobals "tuple" = some none)
    (c_MOST_KEEPERS : ∃ t, PySem.W.nsIn K mainGlobals "MOST_KEEPERS" = some (some (.int 9 t)))
    (a_ShelfError : PySem.W.nsIn K mainGlobals "ShelfError" = some (some (.ref C_ShelfError)))
    (x_ShelfError : PySem.W.excIn K C_ShelfError [.type "ValueError", .type "Exception", .type "BaseException", .type "object"] "ValueError.__new__" = true)
    (k_ShelfError : PySem.W.keepIn K (.ref C_ShelfError) = true)
    (b_ShelfError : PySem.W.subIn K (.ref C_ShelfError) (.type "BaseException") = some true)
    (t_ShelfError : PySem.W.typeIn K (.ref C_ShelfError) = some (.type "type"))
    (a_BadCount : PySem.W.nsIn K mainGlobals "BadCount" = some (some (.ref C_BadCount)))
    (x_BadCount : PySem.W.excIn K C_BadCount [.type "ValueError", .type "Exception", .type "BaseException", .type "object"] "ValueError.__new__" = true)
    (k_BadCount : PySem.W.keepIn K (.ref C_BadCount) = true)
    (b_BadCount : PySem.W.subIn K (.ref C_BadCount) (.type "BaseException") = some true)
    (t_BadCount : PySem.W.typeIn K (.ref C_BadCount) = some (.type "type"))
    (a_NoKeeper : PySem.W.nsIn K mainGlobals "NoKeeper" = some (some (.ref C_NoKeeper)))
    (x_NoKeeper : PySem.W.excIn K C_NoKeeper [.type "ValueError", .type "Exception", .type "BaseException", .type "object"] "ValueError.__new__" = true)
    (k_NoKeeper : PySem.W.keepIn K (.ref C_NoKeeper) = true)
    (b_NoKeeper : PySem.W.subIn K (.ref C_NoKeeper) (.type "BaseException") = some true)
    (t_NoKeeper : PySem.W.typeIn K (.ref C_NoKeeper) = some (.type "type"))
    (a_BadMark : PySem.W.nsIn K mainGlobals "BadMark" = some (some (.ref C_BadMark)))
    (x_BadMark : PySem.W.excIn K C_BadMark [.type "ValueError", .type "Exception", .type "BaseException", .type "object"] "ValueError.__new__" = true)
    (k_BadMark : PySem.W.keepIn K (.ref C_BadMark) = true)
    (b_BadMark : PySem.W.subIn K (.ref C_BadMark) (.type "BaseException") = some true)
    (t_BadMark : PySem.W.typeIn K (.ref C_BadMark) = some (.type "type"))
    (a_BadNote : PySem.W.nsIn K mainGlobals "BadNote" = some (some (.ref C_BadNote)))
    (x_BadNote : PySem.W.excIn K C_BadNote [.type "ValueError", .type "Exception", .type "BaseException", .type "object"] "ValueError.__new__" = true)
    (k_BadNote : PySem.W.keepIn K (.ref C_BadNote) = true)
    (b_BadNote : PySem.W.subIn K (.ref C_BadNote) (.type "BaseException") = some true)
    (t_BadNote : PySem.W.typeIn K (.ref C_BadNote) = some (.type "type"))
    (ecn : PySem.W.specialIn K (.builtin "object.__class__") "__get__" = some (some (.builtin "getset_descriptor.__get__")))
    (ect : PySem.W.takesIn K (.builtin "object.__class__") = some true)
    (h_ShelfError : PySem.W.hasDictIn K C_ShelfError = true)
    (v_ShelfError : PySem.W.subIn K (.ref C_ShelfError) (.type "ValueError") = some true)
    (eg_ShelfError : PySem.W.findIn K (.ref C_ShelfError) "__getattribute__" = some (some (.builtin "BaseException.__getattribute__")))
    (ek_ShelfError : PySem.W.findIn K (.ref C_ShelfError) "__getattr__" = some none)
    (ea_ShelfError : PySem.W.findIn K (.ref C_ShelfError) "__class__" = some (some (.builtin "object.__class__")))
    (em_ShelfError : PySem.W.mroIn K C_ShelfError (.type "object") = some true)
    (s_ShelfError_ShelfError : PySem.W.subIn K (.ref C_ShelfError) (.ref C_ShelfError) = some true)
    (s_ShelfError_BadCount : PySem.W.subIn K (.ref C_ShelfError) (.ref C_BadCount) = some false)
    (s_ShelfError_NoKeeper : PySem.W.subIn K (.ref C_ShelfError) (.ref C_NoKeeper) = some false)
    (s_ShelfError_BadMark : PySem.W.subIn K (.ref C_ShelfError) (.ref C_BadMark) = some false)
    (s_ShelfError_BadNote : PySem.W.subIn K (.ref C_ShelfError) (.ref C_BadNote) = some false)
    (h_BadCount : PySem.W.hasDictIn K C_BadCount = true)
    (v_BadCount : PySem.W.subIn K (.ref C_BadCount) (.type "ValueError") = some true)
    (eg_BadCount : PySem.W.findIn K (.ref C_BadCount) "__getattribute__" = some (some (.builtin "BaseException.__getattribute__")))
    (ek_BadCount : PySem.W.findIn K (.ref C_BadCount) "__getattr__" = some none)
    (ea_BadCount : PySem.W.findIn K (.ref C_BadCount) "__class__" = some (some (.builtin "object.__class__")))
    (em_BadCount : PySem.W.mroIn K C_BadCount (.type "object") = some true)
    (s_BadCount_ShelfError : PySem.W.subIn K (.ref C_BadCount) (.ref C_ShelfError) = some true)
    (s_BadCount_BadCount : PySem.W.subIn K (.ref C_BadCount) (.ref C_BadCount) = some true)
    (s_BadCount_NoKeeper : PySem.W.subIn K (.ref C_BadCount) (.ref C_NoKeeper) = some false)
    (s_BadCount_BadMark : PySem.W.subIn K (.ref C_BadCount) (.ref C_BadMark) = some false)
    (s_BadCount_BadNote : PySem.W.subIn K (.ref C_BadCount) (.ref C_BadNote) = some false)
    (h_NoKeeper : PySem.W.hasDictIn K C_NoKeeper = true)
    (v_NoKeeper : PySem.W.subIn K (.ref C_NoKeeper) (.type "ValueError") = some true)
    (eg_NoKeeper : PySem.W.findIn K (.ref C_NoKeeper) "__getattribute__" = some (some (.builtin "BaseException.__getattribute__")))
    (ek_NoKeeper : PySem.W.findIn K (.ref C_NoKeeper) "__getattr__" = some none)
    (ea_NoKeeper : PySem.W.findIn K (.ref C_NoKeeper) "__class__" = some (some (.builtin "object.__class__")))
    (em_NoKeeper : PySem.W.mroIn K C_NoKeeper (.type "object") = some true)
    (s_NoKeeper_ShelfError : PySem.W.subIn K (.ref C_NoKeeper) (.ref C_ShelfError) = some true)
    (s_NoKeeper_BadCount : PySem.W.subIn K (.ref C_NoKeeper) (.ref C_BadCount) = some false)
    (s_NoKeeper_NoKeeper : PySem.W.subIn K (.ref C_NoKeeper) (.ref C_NoKeeper) = some true)
    (s_NoKeeper_BadMark : PySem.W.subIn K (.ref C_NoKeeper) (.ref C_BadMark) = some false)
    (s_NoKeeper_BadNote : PySem.W.subIn K (.ref C_NoKeeper) (.ref C_BadNote) = some false)
    (h_BadMark : PySem.W.hasDictIn K C_BadMark = true)
    (v_BadMark : PySem.W.subIn K (.ref C_BadMark) (.type "ValueError") = some true)
    (eg_BadMark : PySem.W.findIn K (.ref C_BadMark) "__getattribute__" = some (some (.builtin "BaseException.__getattribute__")))
    (ek_BadMark : PySem.W.findIn K (.ref C_BadMark) "__getattr__" = some none)
    (ea_BadMark : PySem.W.findIn K (.ref C_BadMark) "__class__" = some (some (.builtin "object.__class__")))
    (em_BadMark : PySem.W.mroIn K C_BadMark (.type "object") = some true)
    (s_BadMark_ShelfError : PySem.W.subIn K (.ref C_BadMark) (.ref C_ShelfError) = some true)
    (s_BadMark_BadCount : PySem.W.subIn K (.ref C_BadMark) (.ref C_BadCount) = some false)
    (s_BadMark_NoKeeper : PySem.W.subIn K (.ref C_BadMark) (.ref C_NoKeeper) = some false)
    (s_BadMark_BadMark : PySem.W.subIn K (.ref C_BadMark) (.ref C_BadMark) = some true)
    (s_BadMark_BadNote : PySem.W.subIn K (.ref C_BadMark) (.ref C_BadNote) = some false)
    (h_BadNote : PySem.W.hasDictIn K C_BadNote = true)
    (v_BadNote : PySem.W.subIn K (.ref C_BadNote) (.type "ValueError") = some true)
    (eg_BadNote : PySem.W.findIn K (.ref C_BadNote) "__getattribute__" = some (some (.builtin "BaseException.__getattribute__")))
    (ek_BadNote : PySem.W.findIn K (.ref C_BadNote) "__getattr__" = some none)
    (ea_BadNote : PySem.W.findIn K (.ref C_BadNote) "__class__" = some (some (.builtin "object.__class__")))
    (em_BadNote : PySem.W.mroIn K C_BadNote (.type "object") = some true)
    (s_BadNote_ShelfError : PySem.W.subIn K (.ref C_BadNote) (.ref C_ShelfError) = some true)
    (s_BadNote_BadCount : PySem.W.subIn K (.ref C_BadNote) (.ref C_BadCount) = some false)
    (s_BadNote_NoKeeper : PySem.W.subIn K (.ref C_BadNote) (.ref C_NoKeeper) = some false)
    (s_BadNote_BadMark : PySem.W.subIn K (.ref C_BadNote) (.ref C_BadMark) = some false)
    (s_BadNote_BadNote : PySem.W.subIn K (.ref C_BadNote) (.ref C_BadNote) = some true)
    (a_blank : PySem.W.nsIn K mainGlobals "blank" = some (some (.ref f_blank)))
    (l_blank : K.lookup f_blank = some ⟨oc_blank, od_blank, .func (PySem.W.fnOf "blank" "blank" (defArgs s_blank) (defBody s_blank) (defScope s_blank) .none kV_blank dc_blank pm_blank an_blank cd_blank ct_blank), sl_blank⟩)
    (c_blank : PySem.W.codeIn K cd_blank "blank" = true)
    (k_blank : PySem.W.keepIn K (.ref f_blank) = true)
    (a_need_alike : PySem.W.nsIn K mainGlobals "need_alike" = some (some (.ref f_need_alike)))
    (l_need_alike : K.lookup f_need_alike = some ⟨oc_need_alike, od_need_alike, .func (PySem.W.fnOf "need_alike" "need_alike" (defArgs s_need_alike) (defBody s_need_alike) (defScope s_need_alike) .none kV_need_alike dc_need_alike pm_need_alike an_need_alike cd_need_alike ct_need_alike), sl_need_alike⟩)
    (c_need_alike : PySem.W.codeIn K cd_need_alike "need_alike" = true)
    (k_need_alike : PySem.W.keepIn K (.ref f_need_alike) = true)
    (a_joined : PySem.W.nsIn K mainGlobals "joined" = some (some (.ref f_joined)))
    (l_joined : K.lookup f_joined = some ⟨oc_joined, od_joined, .func (PySem.W.fnOf "joined" "joined" (defArgs s_joined) (defBody s_joined) (defScope s_joined) .none kV_joined dc_joined pm_joined an_joined cd_joined ct_joined), sl_joined⟩)
    (c_joined : PySem.W.codeIn K cd_joined "joined" = true)
    (k_joined : PySem.W.keepIn K (.ref f_joined) = true)
    (a_within : PySem.W.nsIn K mainGlobals "within" = some (some (.ref f_within)))
    (l_within : K.lookup f_within = some ⟨oc_within, od_within, .func (PySem.W.fnOf "within" "within" (defArgs s_within) (defBody s_within) (defScope s_within) .none kV_within dc_within pm_within an_within cd_within ct_within), sl_within⟩)
    (c_within : PySem.W.codeIn K cd_within "within" = true)
    (k_within : PySem.W.keepIn K (.ref f_within) = true)
    (a_has_seen : PySem.W.nsIn K mainGlobals "has_seen" = some (some (.ref f_has_seen)))
    (l_has_seen : K.lookup f_has_seen = some ⟨oc_has_seen, od_has_seen, .func (PySem.W.fnOf "has_seen" "has_seen" (defArgs s_has_seen) (defBody s_has_seen) (defScope s_has_seen) .none kV_has_seen dc_has_seen pm_has_seen an_has_seen cd_has_seen ct_has_seen), sl_has_seen⟩)
    (c_has_seen : PySem.W.codeIn K cd_has_seen "has_seen" = true)
    (k_has_seen : PySem.W.keepIn K (.ref f_has_seen) = true)
    (a_l_cell_at : PySem.W.nsIn K mainGlobals "_law_cell_at" = some (some (.ref f_l_cell_at)))
    (l_l_cell_at : K.lookup f_l_cell_at = some ⟨oc_l_cell_at, od_l_cell_at, .func (PySem.W.fnOf "_law_cell_at" "_law_cell_at" (defArgs s_l_cell_at) (defBody s_l_cell_at) (defScope s_l_cell_at) .none kV_l_cell_at dc_l_cell_at pm_l_cell_at an_l_cell_at cd_l_cell_at ct_l_cell_at), sl_l_cell_at⟩)
    (c_l_cell_at : PySem.W.codeIn K cd_l_cell_at "_law_cell_at" = true)
    (k_l_cell_at : PySem.W.keepIn K (.ref f_l_cell_at) = true)
    (a_l_same : PySem.W.nsIn K mainGlobals "_law_same" = some (some (.ref f_l_same)))
    (l_l_same : K.lookup f_l_same = some ⟨oc_l_same, od_l_same, .func (PySem.W.fnOf "_law_same" "_law_same" (defArgs s_l_same) (defBody s_l_same) (defScope s_l_same) .none kV_l_same dc_l_same pm_l_same an_l_same cd_l_same ct_l_same), sl_l_same⟩)
    (c_l_same : PySem.W.codeIn K cd_l_same "_law_same" = true)
    (k_l_same : PySem.W.keepIn K (.ref f_l_same) = true)
    (a_l_mark : PySem.W.nsIn K mainGlobals "_law_mark" = some (some (.ref f_l_mark)))
    (l_l_mark : K.lookup f_l_mark = some ⟨oc_l_mark, od_l_mark, .func (PySem.W.fnOf "_law_mark" "_law_mark" (defArgs s_l_mark) (defBody s_l_mark) (defScope s_l_mark) .none kV_l_mark dc_l_mark pm_l_mark an_l_mark cd_l_mark ct_l_mark), sl_l_mark⟩)
    (c_l_mark : PySem.W.codeIn K cd_l_mark "_law_mark" = true)
    (k_l_mark : PySem.W.keepIn K (.ref f_l_mark) = true)
    (a_l_refusal : PySem.W.nsIn K mainGlobals "_law_refusal" = some (some (.ref f_l_refusal)))
    (l_l_refusal : K.lookup f_l_refusal = some ⟨oc_l_refusal, od_l_refusal, .func (PySem.W.fnOf "_law_refusal" "_law_refusal" (defArgs s_l_refusal) (defBody s_l_refusal) (defScope s_l_refusal) .none kV_l_refusal dc_l_refusal pm_l_refusal an_l_refusal cd_l_refusal ct_l_refusal), sl_l_refusal⟩)
    (c_l_refusal : PySem.W.codeIn K cd_l_refusal "_law_refusal" = true)
    (k_l_refusal : PySem.W.keepIn K (.ref f_l_refusal) = true)
    (a_law : PySem.W.nsIn K mainGlobals "law" = some (some (.ref f_law)))
    (l_law : K.lookup f_law = some ⟨oc_law, od_law, .func (PySem.W.fnOf "law" "law" (defArgs s_law) (defBody s_law) (defScope s_law) .none kV_law dc_law pm_law an_law cd_law ct_law), sl_law⟩)
    (c_law : PySem.W.codeIn K cd_law "law" = true)
    (k_law : PySem.W.keepIn K (.ref f_law) = true) :
    ∃ fd : FuncData, (∀ (s : Shared) (v : Value), BindsTo s fd ⟨[v], []⟩ [("_law_script", v)]) ∧ ∀ base : Heap, K.In base → base.Ns mainGlobals mg → FnOk l.prog w K mg base (L2.CX l.prog w) 4 fa fd ["_law_script"] (sp_law K) := by
  have e := hfa.symm.trans (PySem.W.mg_of X G a_law)
  cases e
  have T : Txt K mg ⟨C_ShelfError, C_BadCount, C_NoKeeper, C_BadMark, C_BadNote, f_blank, PySem.W.fnOf "blank" "blank" (defArgs s_blank) (defBody s_blank) (defScope s_blank) .none kV_blank dc_blank pm_blank an_blank cd_blank ct_blank, f_need_alike, PySem.W.fnOf "need_alike" "need_alike" (defArgs s_need_alike) (defBody s_need_alike) (defScope s_need_alike) .none kV_need_alike dc_need_alike pm_need_alike an_need_alike cd_need_alike ct_need_alike, f_joined, PySem.W.fnOf "joined" "joined" (defArgs s_joined) (defBody s_joined) (defScope s_joined) .none kV_joined dc_joined pm_joined an_joined cd_joined ct_joined, f_within, PySem.W.fnOf "within" "within" (defArgs s_within) (defBody s_within) (defScope s_within) .none kV_within dc_within pm_within an_within cd_within ct_within, f_has_seen, PySem.W.fnOf "has_seen" "has_seen" (defArgs s_has_seen) (defBody s_has_seen) (defScope s_has_seen) .none kV_has_seen dc_has_seen pm_has_seen an_has_seen cd_has_seen ct_has_seen, f_l_cell_at, PySem.W.fnOf "_law_cell_at" "_law_cell_at" (defArgs s_l_cell_at) (defBody s_l_cell_at) (defScope s_l_cell_at) .none kV_l_cell_at dc_l_cell_at pm_l_cell_at an_l_cell_at cd_l_cell_at ct_l_cell_at, f_l_same, PySem.W.fnOf "_law_same" "_law_same" (defArgs s_l_same) (defBody s_l_same) (defScope s_l_same) .none kV_l_same dc_l_same pm_l_same an_l_same cd_l_same ct_l_same, f_l_mark, PySem.W.fnOf "_law_mark" "_law_mark" (defArgs s_l_mark) (defBody s_l_mark) (defScope s_l_mark) .none kV_l_mark dc_l_mark pm_l_mark an_l_mark cd_l_mark ct_l_mark, f_l_refusal, PySem.W.fnOf "_law_refusal" "_law_refusal" (defArgs s_l_refusal) (defBody s_l_refusal) (defScope s_l_refusal) .none kV_l_refusal dc_l_refusal pm_l_refusal an_l_refusal cd_l_refusal ct_l_refusal, fa, PySem.W.fnOf "law" "law" (defArgs s_law) (defBody s_law) (defScope s_law) .none kV_law dc_law pm_law an_law cd_law ct_law⟩ := {
    n_ValueError := PySem.W.mg_none_of X G z_ValueError,
    n_bool := PySem.W.mg_none_of X G z_bool,
    n_int := PySem.W.mg_none_of X G z_int,
    n_isinstance := PySem.W.mg_none_of X G z_isinstance,
    n_len := PySem.W.mg_none_of X G z_len,
    n_max := PySem.W.mg_none_of X G z_max,
    n_range := PySem.W.mg_none_of X G z_range,
    n_tuple := PySem.W.mg_none_of X G z_tuple,
    g_MOST_KEEPERS := c_MOST_KEEPERS.elim fun t h => ⟨t, PySem.W.mg_of X G h⟩,
    g_ShelfError := PySem.W.mg_of X G a_ShelfError,
    x_ShelfError := x_ShelfError,
    k_ShelfError := k_ShelfError,
    b_ShelfError := b_ShelfError,
    t_ShelfError := t_ShelfError,
    h_ShelfError := h_ShelfError,
    v_ShelfError := v_ShelfError,
    e_ShelfError := ⟨eg_ShelfError, ek_ShelfError, b_ShelfError, h_ShelfError, ea_ShelfError, ecn, ect, em_ShelfError⟩,
    s_ShelfError_ShelfError := s_ShelfError_ShelfError,
    s_ShelfError_BadCount := s_ShelfError_BadCount,
    s_ShelfError_NoKeeper := s_ShelfError_NoKeeper,
    s_ShelfError_BadMark := s_ShelfError_BadMark,
    s_ShelfError_BadNote := s_ShelfError_BadNote,
    g_BadCount := PySem.W.mg_of X G a_BadCount,
    x_BadCount := x_BadCount,
    k_BadCount := k_BadCount,
    b_BadCount := b_BadCount,
    t_BadCount := t_BadCount,
    h_BadCount := h_BadCount,
    v_BadCount := v_BadCount,
    e_BadCount := ⟨eg_BadCount, ek_BadCount, b_BadCount, h_BadCount, ea_BadCount, ecn, ect, em_BadCount⟩,
    s_BadCount_ShelfError := s_BadCount_ShelfError,
    s_BadCount_BadCount := s_BadCount_BadCount,
    s_BadCount_NoKeeper := s_BadCount_NoKeeper,
    s_BadCount_BadMark := s_BadCount_BadMark,
    s_BadCount_BadNote := s_BadCount_BadNote,
    g_NoKeeper := PySem.W.mg_of X G a_NoKeeper,
    x_NoKeeper := x_NoKeeper,
    k_NoKeeper := k_NoKeeper,
    b_NoKeeper := b_NoKeeper,
    t_NoKeeper := t_NoKeeper,
    h_NoKeeper := h_NoKeeper,
    v_NoKeeper := v_NoKeeper,
    e_NoKeeper := ⟨eg_NoKeeper, ek_NoKeeper, b_NoKeeper, h_NoKeeper, ea_NoKeeper, ecn, ect, em_NoKeeper⟩,
    s_NoKeeper_ShelfError := s_NoKeeper_ShelfError,
    s_NoKeeper_BadCount := s_NoKeeper_BadCount,
    s_NoKeeper_NoKeeper := s_NoKeeper_NoKeeper,
    s_NoKeeper_BadMark := s_NoKeeper_BadMark,
    s_NoKeeper_BadNote := s_NoKeeper_BadNote,
    g_BadMark := PySem.W.mg_of X G a_BadMark,
    x_BadMark := x_BadMark,
    k_BadMark := k_BadMark,
    b_BadMark := b_BadMark,
    t_BadMark := t_BadMark,
    h_BadMark := h_BadMark,
    v_BadMark := v_BadMark,
    e_BadMark := ⟨eg_BadMark, ek_BadMark, b_BadMark, h_BadMark, ea_BadMark, ecn, ect, em_BadMark⟩,
    s_BadMark_ShelfError := s_BadMark_ShelfError,
    s_BadMark_BadCount := s_BadMark_BadCount,
    s_BadMark_NoKeeper := s_BadMark_NoKeeper,
    s_BadMark_BadMark := s_BadMark_BadMark,
    s_BadMark_BadNote := s_BadMark_BadNote,
    g_BadNote := PySem.W.mg_of X G a_BadNote,
    x_BadNote := x_BadNote,
    k_BadNote := k_BadNote,
    b_BadNote := b_BadNote,
    t_BadNote := t_BadNote,
    h_BadNote := h_BadNote,
    v_BadNote := v_BadNote,
    e_BadNote := ⟨eg_BadNote, ek_BadNote, b_BadNote, h_BadNote, ea_BadNote, ecn, ect, em_BadNote⟩,
    s_BadNote_ShelfError := s_BadNote_ShelfError,
    s_BadNote_BadCount := s_BadNote_BadCount,
    s_BadNote_NoKeeper := s_BadNote_NoKeeper,
    s_BadNote_BadMark := s_BadNote_BadMark,
    s_BadNote_BadNote := s_BadNote_BadNote,
    F_blank := fun_mk (st := s_blank) l_blank c_blank k_blank,
    b_blank := (fun_mk (st := s_blank) l_blank c_blank k_blank).binds fun _ _ _ _ _ _ us hl => match us, hl with | [_], _ => rfl,
    k_blank := k_blank,
    g_blank := PySem.W.mg_of X G a_blank,
    F_need_alike := fun_mk (st := s_need_alike) l_need_alike c_need_alike k_need_alike,
    b_need_alike := (fun_mk (st := s_need_alike) l_need_alike c_need_alike k_need_alike).binds fun _ _ _ _ _ _ us hl => match us, hl with | [_, _], _ => rfl,
    k_need_alike := k_need_alike,
    g_need_alike := PySem.W.mg_of X G a_need_alike,
    F_joined := fun_mk (st := s_joined) l_joined c_joined k_joined,
    b_joined := (fun_mk (st := s_joined) l_joined c_joined k_joined).binds fun _ _ _ _ _ _ us hl => match us, hl with | [_, _], _ => rfl,
    k_joined := k_joined,
    g_joined := PySem.W.mg_of X G a_joined,
    F_within := fun_mk (st := s_within) l_within c_within k_within,
    b_within := (fun_mk (st := s_within) l_within c_within k_within).binds fun _ _ _ _ _ _ us hl => match us, hl with | [_, _], _ => rfl,
    k_within := k_within,
    g_within := PySem.W.mg_of X G a_within,
    F_has_seen := fun_mk (st := s_has_seen) l_has_seen c_has_seen k_has_seen,
    b_has_seen := (fun_mk (st := s_has_seen) l_has_seen c_has_seen k_has_seen).binds fun _ _ _ _ _ _ us hl => match us, hl with | [_, _, _], _ => rfl,
    k_has_seen := k_has_seen,
    g_has_seen := PySem.W.mg_of X G a_has_seen,
    F_l_cell_at := fun_mk (st := s_l_cell_at) l_l_cell_at c_l_cell_at k_l_cell_at,
    b_l_cell_at := (fun_mk (st := s_l_cell_at) l_l_cell_at c_l_cell_at k_l_cell_at).binds fun _ _ _ _ _ _ us hl => match us, hl with | [_, _], _ => rfl,
    k_l_cell_at := k_l_cell_at,
    g_l_cell_at := PySem.W.mg_of X G a_l_cell_at,
    F_l_same := fun_mk (st := s_l_same) l_l_same c_l_same k_l_same,
    b_l_same := (fun_mk (st := s_l_same) l_l_same c_l_same k_l_same).binds fun _ _ _ _ _ _ us hl => match us, hl with | [_, _], _ => rfl,
    k_l_same := k_l_same,
    g_l_same := PySem.W.mg_of X G a_l_same,
    F_l_mark := fun_mk (st := s_l_mark) l_l_mark c_l_mark k_l_mark,
    b_l_mark := (fun_mk (st := s_l_mark) l_l_mark c_l_mark k_l_mark).binds fun _ _ _ _ _ _ us hl => match us, hl with | [_, _, _], _ => rfl,
    k_l_mark := k_l_mark,
    g_l_mark := PySem.W.mg_of X G a_l_mark,
    F_l_refusal := fun_mk (st := s_l_refusal) l_l_refusal c_l_refusal k_l_refusal,
    b_l_refusal := (fun_mk (st := s_l_refusal) l_l_refusal c_l_refusal k_l_refusal).binds fun _ _ _ _ _ _ us hl => match us, hl with | [_, _, _], _ => rfl,
    k_l_refusal := k_l_refusal,
    g_l_refusal := PySem.W.mg_of X G a_l_refusal,
    F_law := fun_mk (st := s_law) l_law c_law k_law,
    b_law := (fun_mk (st := s_law) l_law c_law k_law).binds fun _ _ _ _ _ _ us hl => match us, hl with | [_], _ => rfl,
    k_law := k_law,
    g_law := PySem.W.mg_of X G a_law }
  exact ⟨_, fun s v => .of_eq rfl, fun base _ _ => ok_law T⟩

theorem walk {l : PySem.W.OpenLaw} {q : Program} {loose : List Str} {XP : (Str → Option Value) → Heap → Prop} {YP : World → Heap → Prop} {d : DefRec} {K : Params → Frag} (hn : l.most = some 63) (hdf : d.params.defaults = [])
    (hY : ∀ (w : World) (h : Heap), YP w h → (K w.params).In h)
    (F : ∀ (w : World) (mg : Str → Option Value) (fa : Addr) (h : Heap), (K w.params).In h → h.Ns mainGlobals mg → mg d.name = some (.ref fa) →
      ∃ fd : FuncData, (∀ (s : Shared) (u : Value), BindsTo s fd ⟨[u], []⟩ [("_law_script", u)]) ∧ ∀ base : Heap, (K w.params).In base → base.Ns mainGlobals mg → FnOk l.prog w (K w.params) mg base (L2.CX l.prog w) 4 fa fd ["_law_script"] (sp_law (K w.params))) :
    PySem.W.WalkO q loose XP YP l.row.toRowW d [] (fun f vs => PySem.call f vs) :=
  L2.walk_of (n := 63) (k := 4) (x := "_law_script") (CX := fun w => L2.CX l.prog w) (sp := fun w => sp_law (K w.params)) hn (by decide) hdf ⟨rfl, by decide, by decide⟩ hY F (fun _ _ a ns hl _ hS => ⟨a, ns, rfl, hS, hl, fun _ => rfl⟩) fun _ _ _ _ _ z => by
    obtain ⟨_, _, _, _, _, _, _, _, _, _, _, _, z⟩ := z
    exact z
end Sb
open PySem PySem.W PyProof.Rows
set_option maxRecDepth 100000 in
set_option maxHeartbeats 0 in
theorem PySem.Challenge.cw_siblingshelf_k01_marks_holds : PySem.Challenge.rw_siblingshelf_k01_marks.Holds := by
  w_on; o_law; k_head; (case hw => w_witness2)
  k_fill
  refine Sb.walk (l := PySem.Challenge.rw_siblingshelf_k01_marks) rfl rfl (fun w h Y => PySem.W.kIn_of Y) ?F
  case F =>
    intro w mg fa h KX G hmg
    refine' Sb.all_mk KX G hmg ?z_ValueError ?z_bool ?z_int ?z_isinstance ?z_len ?z_max ?z_range ?z_tuple ?c_MOST_KEEPERS ?a_ShelfError ?x_ShelfError ?k_ShelfError ?b_ShelfError ?t_ShelfError ?a_BadCount ?x_BadCount ?k_BadCount ?b_BadCount ?t_BadCount ?a_NoKeeper ?x_NoKeeper ?k_NoKeeper ?b_NoKeeper ?t_NoKeeper ?a_BadMark ?x_BadMark ?k_BadMark ?b_BadMark ?t_BadMark ?a_BadNote ?x_BadNote ?k_BadNote ?b_BadNote ?t_BadNote ?ecn ?ect ?h_ShelfError ?v_ShelfError ?eg_ShelfError ?ek_ShelfError ?ea_ShelfError ?em_ShelfError ?s_ShelfError_ShelfError ?s_ShelfError_BadCount ?s_ShelfError_NoKeeper ?s_ShelfError_BadMark ?s_ShelfError_BadNote ?h_BadCount ?v_BadCount ?eg_BadCount ?ek_BadCount ?ea_BadCount ?em_BadCount ?s_BadCount_ShelfError ?s_BadCount_BadCount ?s_BadCount_NoKeeper ?s_BadCount_BadMark ?s_BadCount_BadNote ?h_NoKeeper ?v_NoKeeper ?eg_NoKeeper ?ek_NoKeeper ?ea_NoKeeper ?em_NoKeeper ?s_NoKeeper_ShelfError ?s_NoKeeper_BadCount ?s_NoKeeper_NoKeeper ?s_NoKeeper_BadMark ?s_NoKeeper_BadNote ?h_BadMark ?v_BadMark ?eg_BadMark ?ek_BadMark ?ea_BadMark ?em_BadMark ?s_BadMark_ShelfError ?s_BadMark_BadCount ?s_BadMark_NoKeeper ?s_BadMark_BadMark ?s_BadMark_BadNote ?h_BadNote ?v_BadNote ?eg_BadNote ?ek_BadNote ?ea_BadNote ?em_BadNote ?s_BadNote_ShelfError ?s_BadNote_BadCount ?s_BadNote_NoKeeper ?s_BadNote_BadMark ?s_BadNote_BadNote ?a_blank ?l_blank ?c_blank ?k_blank ?a_need_alike ?l_need_alike ?c_need_alike ?k_need_alike ?a_joined ?l_joined ?c_joined ?k_joined ?a_within ?l_within ?c_within ?k_within ?a_has_seen ?l_has_seen ?c_has_seen ?k_has_seen ?a_l_cell_at ?l_l_cell_at ?c_l_cell_at ?k_l_cell_at ?a_l_same ?l_l_same ?c_l_same ?k_l_same ?a_l_mark ?l_l_mark ?c_l_mark ?k_l_mark ?a_l_refusal ?l_l_refusal ?c_l_refusal ?k_l_refusal ?a_law ?l_law ?c_law ?k_law
    (case z_ValueError => k_is)
    (case z_bool => k_is)
    (case z_int => k_is)
    (case z_isinstance => k_is)
    (case z_len => k_is)
    (case z_max => k_is)
    (case z_range => k_is)
    (case z_tuple => k_is)
    (case c_MOST_KEEPERS => exact ⟨_, by k_is⟩)
    (case a_ShelfError => k_is)
    (case x_ShelfError => k_exc)
    (case k_ShelfError => k_is)
    (case b_ShelfError => k_is)
    (case t_ShelfError => k_is)
    (case a_BadCount => k_is)
    (case x_BadCount => k_exc)
    (case k_BadCount => k_is)
    (case b_BadCount => k_is)
    (case t_BadCount => k_is)
    (case a_NoKeeper => k_is)
    (case x_NoKeeper => k_exc)
    (case k_NoKeeper => k_is)
    (case b_NoKeeper => k_is)
    (case t_NoKeeper => k_is)
    (case a_BadMark => k_is)
    (case x_BadMark => k_exc)
    (case k_BadMark => k_is)
    (case b_BadMark => k_is)
    (case t_BadMark => k_is)
    (case a_BadNote => k_is)
    (case x_BadNote => k_exc)
    (case k_BadNote => k_is)
    (case b_BadNote => k_is)
    (case t_BadNote => k_is)
    (case ecn => k_is)
    (case ect => k_is)
    (case h_ShelfError => k_is)
    (case v_ShelfError => k_is)
    (case eg_ShelfError => k_is)
    (case ek_ShelfError => k_is)
    (case ea_ShelfError => k_is)
    (case em_ShelfError => k_is)
    (case s_ShelfError_ShelfError => k_is)
    (case s_ShelfError_BadCount => k_is)
    (case s_ShelfError_NoKeeper => k_is)
    (case s_ShelfError_BadMark => k_is)
    (case s_ShelfError_BadNote => k_is)
    (case h_BadCount => k_is)
    (case v_BadCount => k_is)
    (case eg_BadCount => k_is)
    (case ek_BadCount => k_is)
    (case ea_BadCount => k_is)
    (case em_BadCount => k_is)
    (case s_BadCount_ShelfError => k_is)
    (case s_BadCount_BadCount => k_is)
    (case s_BadCount_NoKeeper => k_is)
    (case s_BadCount_BadMark => k_is)
    (case s_BadCount_BadNote => k_is)
    (case h_NoKeeper => k_is)
    (case v_NoKeeper => k_is)
    (case eg_NoKeeper => k_is)
    (case ek_NoKeeper => k_is)
    (case ea_NoKeeper => k_is)
    (case em_NoKeeper => k_is)
    (case s_NoKeeper_ShelfError => k_is)
    (case s_NoKeeper_BadCount => k_is)
    (case s_NoKeeper_NoKeeper => k_is)
    (case s_NoKeeper_BadMark => k_is)
    (case s_NoKeeper_BadNote => k_is)
    (case h_BadMark => k_is)
    (case v_BadMark => k_is)
    (case eg_BadMark => k_is)
    (case ek_BadMark => k_is)
    (case ea_BadMark => k_is)
    (case em_BadMark => k_is)
    (case s_BadMark_ShelfError => k_is)
    (case s_BadMark_BadCount => k_is)
    (case s_BadMark_NoKeeper => k_is)
    (case s_BadMark_BadMark => k_is)
    (case s_BadMark_BadNote => k_is)
    (case h_BadNote => k_is)
    (case v_BadNote => k_is)
    (case eg_BadNote => k_is)
    (case ek_BadNote => k_is)
    (case ea_BadNote => k_is)
    (case em_BadNote => k_is)
    (case s_BadNote_ShelfError => k_is)
    (case s_BadNote_BadCount => k_is)
    (case s_BadNote_NoKeeper => k_is)
    (case s_BadNote_BadMark => k_is)
    (case s_BadNote_BadNote => k_is)
    (case a_blank => k_is)
    (case l_blank => k_is)
    (case c_blank => k_is)
    (case k_blank => k_is)
    (case a_need_alike => k_is)
    (case l_need_alike => k_is)
    (case c_need_alike => k_is)
    (case k_need_alike => k_is)
    (case a_joined => k_is)
    (case l_joined => k_is)
    (case c_joined => k_is)
    (case k_joined => k_is)
    (case a_within => k_is)
    (case l_within => k_is)
    (case c_within => k_is)
    (case k_within => k_is)
    (case a_has_seen => k_is)
    (case l_has_seen => k_is)
    (case c_has_seen => k_is)
    (case k_has_seen => k_is)
    (case a_l_cell_at => k_is)
    (case l_l_cell_at => k_is)
    (case c_l_cell_at => k_is)
    (case k_l_cell_at => k_is)
    (case a_l_same => k_is)
    (case l_l_same => k_is)
    (case c_l_same => k_is)
    (case k_l_same => k_is)
    (case a_l_mark => k_is)
    (case l_l_mark => k_is)
    (case c_l_mark => k_is)
    (case k_l_mark => k_is)
    (case a_l_refusal => k_is)
    (case l_l_refusal => k_is)
    (case c_l_refusal => k_is)
    (case k_l_refusal => k_is)
    (case a_law => k_is)
    (case l_law => k_is)
    (case c_law => k_is)
    (case k_law => k_is)
#print axioms PySem.Challenge.cw_siblingshelf_k01_marks_holds


