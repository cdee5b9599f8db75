import PyProof.Rows.All
import Wide.All
import OpenK.AllK
import Wide.FinOn
import HandS.ForMost
import HandS.ForExc
import HandS.Deep
import HandS.IsInst
import HandS.ExcIs
import HandS.SortRule
import KE.KDictSum
import KE.KDictCopyH
import PySem.Challenge.RW_siblingshelf_k05_two_meet
set_option Elab.async false
set_option maxRecDepth 100000
set_option maxHeartbeats 8000000
set_option linter.all false
set_option Elab.async false
set_option maxRecDepth 100000
set_option maxHeartbeats 4000000
/-! Data that stands in the heap: the value v stands for the data d; its lists lie where M does not hold. -/
namespace Sb
open PySem L2
abbrev Frag := PySem.W.Frag

inductive Rp (M : Addr → Prop) (H : Hp) : V → PyData → Prop
  | non : Rp M H .non .none
  | bl (b : Bool) : Rp M H (.bl b) (.bool b)
  | int (i : Int) : Rp M H (.int i) (.int i)
  | str (x : Str) : Rp M H (.str x) (.str x)
  | lst {a : Addr} {xs : List V} {ds : List PyData} : ¬ M a → H a = some (.lst xs) → xs.length = ds.length → (∀ (i : Nat) (x : V) (d : PyData), xs[i]? = some x → ds[i]? = some d → Rp M H x d) → Rp M H (.ref a) (.list ds)
  | tup {a : Addr} {xs : List V} {ds : List PyData} : H a = some (.tup xs) → xs.length = ds.length → (∀ (i : Nat) (x : V) (d : PyData), xs[i]? = some x → ds[i]? = some d → Rp M H x d) → Rp M H (.ref a) (.tuple ds)
/-- item by item -/
def RpA (M : Addr → Prop) (H : Hp) (xs : List V) (ds : List PyData) : Prop := xs.length = ds.length ∧ ∀ (i : Nat) (x : V) (d : PyData), xs[i]? = some x → ds[i]? = some d → Rp M H x d

section
variable {M M' : Addr → Prop} {H H' : Hp} {v x : V} {d : PyData} {xs ys : List V} {ds es : List PyData} {a : Addr}
theorem RpA.nil : RpA M H [] [] := ⟨rfl, fun i x d h => by simp at h⟩
theorem RpA.cons (h : Rp M H x d) (t : RpA M H xs ds) : RpA M H (x :: xs) (d :: ds) := by
  refine ⟨by simp [t.1], fun i y e h1 h2 => ?_⟩
  cases i with
  | zero => simp at h1 h2; subst h1; subst h2; exact h
  | succ i => exact t.2 i y e (by simpa using h1) (by simpa using h2)
theorem RpA.head (h : RpA M H (x :: xs) (d :: ds)) : Rp M H x d := h.2 0 x d rfl rfl
theorem RpA.tail (h : RpA M H (x :: xs) (d :: ds)) : RpA M H xs ds := ⟨by simpa using h.1, fun i y e h1 h2 => h.2 (i + 1) y e (by simpa using h1) (by simpa using h2)⟩
theorem RpA.append (h : RpA M H xs ds) (t : RpA M H ys es) : RpA M H (xs ++ ys) (ds ++ es) := by
  refine ⟨by simp [h.1, t.1], fun i y e h1 h2 => ?_⟩
  by_cases hi : i < xs.length
  · rw [List.getElem?_append_left hi] at h1
    rw [List.getElem?_append_left (by rw [← h.1]; exact hi)] at h2
    exact h.2 i y e h1 h2
  · rw [List.getElem?_append_right (by omega)] at h1
    rw [List.getElem?_append_right (by rw [← h.1]; omega), ← h.1] at h2
    exact t.2 _ y e h1 h2
theorem RpA.snoc (h : RpA M H xs ds) (t : Rp M H x d) : RpA M H (xs ++ [x]) (ds ++ [d]) := h.append (RpA.nil.cons t)
theorem RpA.at (h : RpA M H xs ds) {i : Nat} (e : ds[i]? = some d) : ∃ x, xs[i]? = some x ∧ Rp M H x d := by
  have hi : i < ds.length := (List.getElem?_eq_some_iff.mp e).1
  have hx : i < xs.length := by rw [h.1]; exact hi
  exact ⟨xs[i], List.getElem?_eq_getElem hx, h.2 i _ _ (List.getElem?_eq_getElem hx) e⟩
theorem RpA.atx (h : RpA M H xs ds) {i : Nat} (e : xs[i]? = some x) : ∃ d, ds[i]? = some d ∧ Rp M H x d := by
  have hi : i < xs.length := (List.getElem?_eq_some_iff.mp e).1
  have hx : i < ds.length := by rw [← h.1]; exact hi
  exact ⟨ds[i], List.getElem?_eq_getElem hx, h.2 i _ _ e (List.getElem?_eq_getElem hx)⟩
theorem Rp.lstA (m : ¬ M a) (h : H a = some (.lst xs)) (r : RpA M H xs ds) : Rp M H (.ref a) (.list ds) := .lst m h r.1 r.2
theorem Rp.tupA (h : H a = some (.tup xs)) (r : RpA M H xs ds) : Rp M H (.ref a) (.tuple ds) := .tup h r.1 r.2
theorem Rp.int_inv {i : Int} (h : Rp M H v (.int i)) : v = .int i := by cases h; rfl
theorem Rp.str_inv {i : Str} (h : Rp M H v (.str i)) : v = .str i := by cases h; rfl
theorem Rp.bool_inv {i : Bool} (h : Rp M H v (.bool i)) : v = .bl i := by cases h; rfl
theorem Rp.none_inv (h : Rp M H v .none) : v = .non := by cases h; rfl
theorem Rp.tup_inv (h : Rp M H v (.tuple ds)) : ∃ a xs, v = .ref a ∧ H a = some (.tup xs) ∧ RpA M H xs ds := by
  cases h with
  | tup h1 h2 h3 => exact ⟨_, _, rfl, h1, h2, h3⟩
theorem Rp.lst_inv (h : Rp M H v (.list ds)) : ∃ a xs, v = .ref a ∧ ¬ M a ∧ H a = some (.lst xs) ∧ RpA M H xs ds := by
  cases h with
  | lst h0 h1 h2 h3 => exact ⟨_, _, rfl, h0, h1, h2, h3⟩
/-- what lists and tuples of H there are stand in H' too -/
structure Ext (M M' : Addr → Prop) (H H' : Hp) : Prop where
  tup : ∀ a xs, H a = some (.tup xs) → H' a = some (.tup xs)
  lst : ∀ a xs, ¬ M a → H a = some (.lst xs) → ¬ M' a ∧ H' a = some (.lst xs)
theorem Rp.ext (h : Rp M H v d) (e : Ext M M' H H') : Rp M' H' v d := by
  induction h with
  | non => exact .non
  | bl b => exact .bl b
  | int i => exact .int i
  | str x => exact .str x
  | lst h0 h1 h2 h3 ih => exact .lst (e.lst _ _ h0 h1).1 (e.lst _ _ h0 h1).2 h2 ih
  | tup h1 h2 h3 ih => exact .tup (e.tup _ _ h1) h2 ih
theorem Ext.same (s : Same H H') : Ext M M H H' := ⟨fun a xs h => s a _ h, fun a xs m h => ⟨m, s a _ h⟩⟩
theorem Rp.same (h : Rp M H v d) (s : Same H H') : Rp M H' v d := h.ext (.same s)
theorem RpA.ext (h : RpA M H xs ds) (e : Ext M M' H H') : RpA M' H' xs ds := ⟨h.1, fun i x d h1 h2 => (h.2 i x d h1 h2).ext e⟩
theorem RpA.same (h : RpA M H xs ds) (s : Same H H') : RpA M H' xs ds := h.ext (.same s)
/-- .. as the layer's own data -/
theorem dpAll_of {K : Frag} : ∀ {xs : List V} {ds : List PyData}, xs.length = ds.length → (∀ (i : Nat) (x : V) (d : PyData), xs[i]? = some x → ds[i]? = some d → Dp K H x d) → DpAll K H xs ds
  | [], [], _, _ => .nil
  | x :: xs, d :: ds, h, k => .cons (k 0 x d rfl rfl) (dpAll_of (by simpa using h) fun i y e h1 h2 => k (i + 1) y e (by simpa using h1) (by simpa using h2))
  | [], _ :: _, h, _ => by simp at h
  | _ :: _, [], h, _ => by simp at h
theorem Rp.dp {K : Frag} (h : Rp M H v d) : Dp K H v d := by
  induction h with
  | non => exact .non
  | bl b => exact .bl b
  | int i => exact .int i
  | str x => exact .str x
  | lst h0 h1 h2 h3 ih => exact .lst (SqL.of h1) (dpAll_of h2 ih)
  | tup h1 h2 h3 ih => exact .tup (SqT.of h1) (dpAll_of h2 ih)
/-- data of ints -/
theorem RpA.ints : ∀ {ns : List Int}, RpA M H (ns.map V.int) (ns.map PyData.int)
  | [] => RpA.nil
  | n :: ns => RpA.cons (.int n) RpA.ints
theorem RpA.ints_inv : ∀ {ns : List Int} {xs : List V}, RpA M H xs (ns.map PyData.int) → xs = ns.map V.int
  | [], [], _ => rfl
  | [], x :: xs, h => by have := h.1; simp at this
  | n :: ns, [], h => by have := h.1; simp at this
  | n :: ns, x :: xs, h => by
    have h1 := h.head.int_inv
    have h2 := RpA.ints_inv h.tail
    rw [h1, h2, List.map_cons]
end
end Sb

set_option Elab.async false
set_option maxRecDepth 100000
set_option maxHeartbeats 4000000
set_option linter.all false
/-! Steps of a reading, one a rule. -/
namespace Sb
open PySem L2
section
variable {K : Frag} {σ : L2.St} {H : Hp} {Q : VK} {QT : Bool → Hp → Prop} {QA : List V → Hp → Prop} {D : Ends} {ta tb te : TE} {tt t1 t2 : TT} {tr : TA} {ts tu : TS} {i : Nat} {v x y : V} {b : Bool}
theorem w_var (h : σ[i]? = some (some v)) (q : Q v H) : tVar i σ H Q := ⟨v, h, q⟩
theorem w_c (q : Q v H) : tC v σ H Q := q
theorem w_nil (q : QA [] H) : tNil σ H QA := q
theorem w_cons (q : ta σ H fun x H1 => tr σ H1 fun xs H2 => QA (x :: xs) H2) : tCons ta tr σ H QA := q
theorem w_op {r : R2} (q : ta σ H fun x H1 => tb σ H1 fun y H2 => r x y H2 Q) : tOp r ta tb σ H Q := q
theorem w_un {r : V → Hp → VK → Prop} (q : ta σ H fun x H1 => r x H1 Q) : tUn r ta σ H Q := q
theorem w_test (q : te σ H fun x H1 => ∃ k, x = .bl k ∧ QT k H1) : tTest te σ H QT := q
theorem w_tB (q : te σ H fun x H1 => ∃ k, x = .bl k ∧ QT k H1) : tB te σ H QT := q
theorem w_bl {R : Bool → Prop} (q : R b) : ∃ k, V.bl b = V.bl k ∧ R k := ⟨b, rfl, q⟩
theorem w_and (q : t1 σ H fun c H1 => if c = true then t2 σ H1 QT else QT false H1) : tAnd t1 t2 σ H QT := q
theorem w_or (q : t1 σ H fun c H1 => if c = true then QT true H1 else t2 σ H1 QT) : tOr t1 t2 σ H QT := q
theorem w_not (q : tt σ H fun c H1 => QT (!c) H1) : tNot tt σ H QT := q
theorem w_andV (q : ta σ H fun x H1 => ∃ c, x = .bl c ∧ if c = true then tb σ H1 Q else Q (.bl false) H1) : tAndV ta tb σ H Q := q
theorem w_orV (q : ta σ H fun x H1 => ∃ c, x = .bl c ∧ if c = true then Q (.bl true) H1 else tb σ H1 Q) : tOrV ta tb σ H Q := q
theorem w_notV (q : ta σ H fun x H1 => ∃ c, x = .bl c ∧ Q (.bl (!c)) H1) : tNotV ta σ H Q := q
theorem w_if (q : tt σ H fun c H1 => if c = true then ta σ H1 Q else tb σ H1 Q) : tIf tt ta tb σ H Q := q
theorem w_ifS (q : tt σ H fun c H1 => if c = true then ts D σ H1 else tu D σ H1) : tIfS tt ts tu D σ H := q
theorem w_seq (q : ts { D with nx := tu D } σ H) : tSeq ts tu D σ H := q
theorem w_set (q : te σ H fun x H1 => D.nx (σ.set i (some x)) H1) : tAsg te (gName i) D σ H := q
theorem w_asg {g : TG} (q : te σ H fun x H1 => g x σ H1 D.nx) : tAsg te g D σ H := q
theorem w_ret (q : te σ H D.rt) : tRet te D σ H := q
theorem w_retN (q : D.rt .non H) : tRetN D σ H := q
theorem w_drop (q : te σ H fun _ H1 => D.nx σ H1) : tDrop te D σ H := q
theorem w_next (q : D.nx σ H) : tNext D σ H := q
theorem w_gName {Qs : L2.St → Hp → Prop} (q : Qs (σ.set i (some v)) H) : gName i v σ H Qs := q
theorem w_I0 {g : Int → Int → V} {i j : Int} (q : Q (g i j) H) : rI0 g (.int i) (.int j) H Q := ⟨i, j, rfl, rfl, q⟩
theorem w_I {C : Int → Int → Prop} {g : Int → Int → V} {i j : Int} (c : C i j) (q : Q (g i j) H) : rI C g (.int i) (.int j) H Q := ⟨i, j, rfl, rfl, c, q⟩
theorem w_eq (h : scal x y = true) (q : Q (.bl (decide (x = y))) H) : rEq x y H Q := ⟨h, q⟩
theorem w_ne (h : scal x y = true) (q : Q (.bl (!decide (x = y))) H) : rNe x y H Q := ⟨h, q⟩
theorem w_CB {r : List V → Hp → VK → Prop} (q : tr σ H fun vs H1 => r vs H1 Q) : tCB r tr σ H Q := q
theorem w_call {sp : Sp} {dvs : List V} {E : XK} (q : tr σ H fun vs H1 => sp (vs ++ dvs) H1 Q E) : tCall sp dvs E tr σ H Q := q
theorem w_callS {sp : Sp} {E : L2.St → XK} (q : tr σ H fun vs H1 => sp vs H1 Q (E σ)) : tCallS sp E tr σ H Q := q
end
end Sb

set_option Elab.async false
set_option maxRecDepth 100000
set_option maxHeartbeats 4000000
set_option linter.all false
/-! Comprehensions whose turns only add to the heap: the new list's data, item by item. -/
namespace Sb
open PySem L2
/-- a new address is not among the changing ones -/
def Fr (M : Addr → Prop) (H : Hp) : Prop := ∀ a, H a = none → ¬ M a
theorem Fr.same {M : Addr → Prop} {H H' : Hp} (f : Fr M H) (s : Same H H') : Fr M H' := fun a h => f a (s.free h)
section
variable {M M' M'' : Addr → Prop} {H H' H'' : Hp} {v x : V} {d : PyData} {xs ys : List V} {ds es : List PyData} {a p : Addr} {o : HO}
theorem Ext.trans (e : Ext M M' H H') (e' : Ext M' M'' H' H'') : Ext M M'' H H'' :=
  ⟨fun a xs h => e'.tup a xs (e.tup a xs h), fun a xs m h => e'.lst a xs (e.lst a xs m h).1 (e.lst a xs m h).2⟩
/-- one address more changes: it was new -/
theorem Ext.fresh (s : Same H H') (h : H p = none) : Ext M (fun a => M a ∨ a = p) H H' :=
  ⟨fun a xs e => s a _ e, fun a xs m e => ⟨fun z => z.elim m fun z => (by subst z; rw [h] at e; cases e), s a _ e⟩⟩
/-- fewer change -/
theorem Ext.less (k : ∀ a, M' a → M a) : Ext M M' H H := ⟨fun _ _ e => e, fun a xs m e => ⟨fun z => m (k a z), e⟩⟩
/-- the changing one is written -/
theorem Ext.write (m : M p) (hp : ∀ xs, H p ≠ some (.tup xs)) : Ext M M H (upd H p o) := by
  refine ⟨fun a xs e => ?_, fun a xs n e => ⟨n, ?_⟩⟩
  · rw [upd_ne (fun z => by subst z; exact hp xs e)]; exact e
  · rw [upd_ne (fun z => by subst z; exact n m)]; exact e
theorem Same.new (h : H p = none) : Same H (upd H p o) := fun b u e => by rw [upd_ne (ne_of_none e h)]; exact e
theorem Same.mut (s : Same H H') (h : H p = none) : Same H (upd H' p o) := fun b u e => by rw [upd_ne (ne_of_none e h)]; exact s b u e
/-- one turn of a comprehension -/
abbrev LcItem (g : TG) (tt : TT) (te : TE) (vs : List Nat) (σ : L2.St) (x : V) (H : Hp) (Yes : V → Hp → Prop) (No : Hp → Prop) : Prop :=
  g x (wipe σ vs) H fun σ2 H2 => wipe σ2 vs = wipe σ vs ∧ tt σ2 H2 fun b H3 => if b = true then te σ2 H3 Yes else No H3
/-- what stands between two turns -/
def LcInv (M : Addr → Prop) (H1 : Hp) (D : Addr) (es : List PyData) (H : Hp) : Prop := Same H1 H ∧ ∃ ys, H D = some (.lst ys) ∧ RpA (fun a => M a ∨ a = D) H ys es
variable {g : TG} {tt : TT} {te : TE} {vs : List Nat} {σ : L2.St} {H1 : Hp} {D : Addr} {Qd : Addr → Hp → Prop}
theorem LcInv.start (hD : H1 D = none) : LcInv M H1 D [] (upd H1 D (.lst [])) := ⟨Same.new hD, [], upd_same, RpA.nil⟩
theorem LcInv.more {Hx H4 : Hp} {y : V} {e : PyData} (hD : H1 D = none) (w : LcInv M H1 D es Hx) (s : Same Hx H4) (r : Rp (fun a => M a ∨ a = D) H4 y e) (hl : es.length < sizeLine) :
    ∃ acc, H4 D = some (.lst acc) ∧ acc.length < sizeLine ∧ LcInv M H1 D (es ++ [e]) (upd H4 D (.lst (acc ++ [y]))) := by
  obtain ⟨s1, ys, hy, ra⟩ := w
  have h4 := s D _ hy
  have ex : Ext (fun a => M a ∨ a = D) (fun a => M a ∨ a = D) H4 (upd H4 D (.lst (ys ++ [y]))) := Ext.write (.inr rfl) fun xs z => by rw [h4] at z; cases z
  refine ⟨ys, h4, by rw [ra.1]; exact hl, Same.mut (Same.trans s1 s) hD, _, upd_same, ?_⟩
  exact ((ra.same s).snoc r).ext ex
theorem LcInv.out (fr : Fr M H1) (hD : H1 D = none) (w : LcInv M H1 D es H) : Same H1 H ∧ Rp M H (.ref D) (.list es) := by
  obtain ⟨s, ys, hy, ra⟩ := w
  exact ⟨s, .lstA (fr D hD) hy (ra.ext (Ext.less fun a z => .inl z))⟩
theorem LcInv.ext (hD : H1 D = none) (w : LcInv M H1 D es H) : Ext M (fun a => M a ∨ a = D) H1 H := Ext.fresh w.1 hD
theorem LcInv.fr (fr : Fr M H1) (w : LcInv M H1 D es H) : Fr (fun a => M a ∨ a = D) H := fun a h z => by
  rcases z with z | z
  · exact fr a (w.1.free h) z
  · obtain ⟨_, ys, hy, _⟩ := w
    rw [z, hy] at h; cases h
theorem fm_take {δ : Type} {f : δ → Option PyData} {ds : List δ} {i : Nat} {d : δ} (h : ds[i]? = some d) : (ds.take (i + 1)).filterMap f = (ds.take i).filterMap f ++ (f d).toList := by
  have hi := (List.getElem?_eq_some_iff.mp h).1
  have e : ds.take (i + 1) = ds.take i ++ [d] := by
    rw [List.take_succ, h]; rfl
  rw [e, List.filterMap_append]
  cases q : f d <;> simp [q]
/-- over a list -/
theorem lcL {K : Frag} {δ : Type} {a : Addr} {xs : List V} (ds : List δ) (f : δ → Option PyData) (M : Addr → Prop) (fr : Fr M H1) (hl : SqL K H1 a xs) (hlen : xs.length = ds.length) (hz : ds.length ≤ sizeLine)
    (hs : ∀ (i : Nat) (x : V) (d : δ) (H2 : Hp) (M' : Addr → Prop) (Yes : V → Hp → Prop) (No : Hp → Prop), xs[i]? = some x → ds[i]? = some d → Same H1 H2 → Ext M M' H1 H2 → Fr M' H2 → (∀ y H4 e, f d = some e → Same H2 H4 → Rp M' H4 y e → Yes y H4) → (∀ H4, f d = none → Same H2 H4 → No H4) → LcItem g tt te vs σ x H2 Yes No)
    (hd : ∀ D H', H1 D = none → Same H1 H' → Rp M H' (.ref D) (.list (ds.filterMap f)) → Qd D H') :
    ∀ D, H1 D = none → ∃ W : Nat → Nat → Hp → Prop, (∃ m, W 0 m (upd H1 D (.lst []))) ∧ ∀ i m H, W i m H →
      ((Itl K a).stop i H ∧ Qd D H) ∨ ((Itl K a).go i H ∧ ∃ Nx : Hp → Prop, (∀ H', Nx H' → ∃ m', m' < m ∧ W (i + 1) m' H') ∧ ∀ x H', (Itl K a).yld i H x H' → g x (wipe σ vs) H' fun σ2 H2 => wipe σ2 vs = wipe σ vs ∧ tt σ2 H2 fun b H3 =>
        if b = true then te σ2 H3 fun y H4 => ∃ acc, H4 D = some (.lst acc) ∧ acc.length < sizeLine ∧ Nx (upd H4 D (.lst (acc ++ [y]))) else Nx H3) := by
  intro D hD
  refine lc_list (K := K) (a := a) (xs := xs) (fun i H => LcInv M H1 D ((ds.take i).filterMap f) H) (by simpa using LcInv.start hD) (fun i H _ w => w.1.seq hl) (fun i x H hx w => ?_) (fun H w => ?_)
  · obtain ⟨d, hdd⟩ : ∃ d, ds[i]? = some d := by
      have := (List.getElem?_eq_some_iff.mp hx).1
      exact ⟨_, List.getElem?_eq_getElem (by omega)⟩
    have hi := (List.getElem?_eq_some_iff.mp hdd).1
    refine hs i x d H _ (fun y H4 => _) (fun H4 => _) hx hdd w.1 (w.ext hD) (w.fr fr) (fun y H4 e he s r => ?_) (fun H4 he s => ?_)
    · obtain ⟨acc, h1, h2, h3⟩ := w.more hD s r (Nat.lt_of_le_of_lt (List.length_filterMap_le f (ds.take i)) (by rw [List.length_take]; omega))
      refine ⟨acc, h1, h2, ?_⟩
      rw [fm_take hdd, he]; exact h3
    · rw [fm_take hdd, he]
      obtain ⟨s1, ys, hy, ra⟩ := w
      exact ⟨Same.trans s1 s, ys, s _ _ hy, by simpa using ra.same s⟩
  · rw [hlen, List.take_length] at w
    obtain ⟨s, r⟩ := w.out fr hD
    exact hd D H hD s r
/-- over a tuple -/
theorem lcT {K : Frag} {δ : Type} {a : Addr} {xs : List V} (ds : List δ) (f : δ → Option PyData) (M : Addr → Prop) (fr : Fr M H1) (hl : H1 a = some (.tup xs)) (hlen : xs.length = ds.length) (hz : ds.length ≤ sizeLine)
    (hs : ∀ (i : Nat) (x : V) (d : δ) (H2 : Hp) (M' : Addr → Prop) (Yes : V → Hp → Prop) (No : Hp → Prop), xs[i]? = some x → ds[i]? = some d → Same H1 H2 → Ext M M' H1 H2 → Fr M' H2 → (∀ y H4 e, f d = some e → Same H2 H4 → Rp M' H4 y e → Yes y H4) → (∀ H4, f d = none → Same H2 H4 → No H4) → LcItem g tt te vs σ x H2 Yes No)
    (hd : ∀ D H', H1 D = none → Same H1 H' → Rp M H' (.ref D) (.list (ds.filterMap f)) → Qd D H') :
    ∀ D, H1 D = none → ∃ W : Nat → Nat → Hp → Prop, (∃ m, W 0 m (upd H1 D (.lst []))) ∧ ∀ i m H, W i m H →
      ((Itt K a).stop i H ∧ Qd D H) ∨ ((Itt K a).go i H ∧ ∃ Nx : Hp → Prop, (∀ H', Nx H' → ∃ m', m' < m ∧ W (i + 1) m' H') ∧ ∀ x H', (Itt K a).yld i H x H' → g x (wipe σ vs) H' fun σ2 H2 => wipe σ2 vs = wipe σ vs ∧ tt σ2 H2 fun b H3 =>
        if b = true then te σ2 H3 fun y H4 => ∃ acc, H4 D = some (.lst acc) ∧ acc.length < sizeLine ∧ Nx (upd H4 D (.lst (acc ++ [y]))) else Nx H3) := by
  intro D hD
  refine lc_tup (K := K) (a := a) (xs := xs) (fun i H => LcInv M H1 D ((ds.take i).filterMap f) H) (by simpa using LcInv.start hD) (fun i H _ w => SqT.of (w.1 a _ hl)) (fun i x H hx w => ?_) (fun H w => ?_)
  · obtain ⟨d, hdd⟩ : ∃ d, ds[i]? = some d := by
      have := (List.getElem?_eq_some_iff.mp hx).1
      exact ⟨_, List.getElem?_eq_getElem (by omega)⟩
    have hi := (List.getElem?_eq_some_iff.mp hdd).1
    refine hs i x d H _ (fun y H4 => _) (fun H4 => _) hx hdd w.1 (w.ext hD) (w.fr fr) (fun y H4 e he s r => ?_) (fun H4 he s => ?_)
    · obtain ⟨acc, h1, h2, h3⟩ := w.more hD s r (Nat.lt_of_le_of_lt (List.length_filterMap_le f (ds.take i)) (by rw [List.length_take]; omega))
      refine ⟨acc, h1, h2, ?_⟩
      rw [fm_take hdd, he]; exact h3
    · rw [fm_take hdd, he]
      obtain ⟨s1, ys, hy, ra⟩ := w
      exact ⟨Same.trans s1 s, ys, s _ _ hy, by simpa using ra.same s⟩
  · rw [hlen, List.take_length] at w
    obtain ⟨s, r⟩ := w.out fr hD
    exact hd D H hD s r
/-- over a range -/
theorem lcR {lo : Int} (n : Nat) (f : Nat → Option PyData) (M : Addr → Prop) (fr : Fr M H1) (hz : n ≤ sizeLine)
    (hs : ∀ (i : Nat) (H2 : Hp) (M' : Addr → Prop) (Yes : V → Hp → Prop) (No : Hp → Prop), i < n → Same H1 H2 → Ext M M' H1 H2 → Fr M' H2 → (∀ y H4 e, f i = some e → Same H2 H4 → Rp M' H4 y e → Yes y H4) → (∀ H4, f i = none → Same H2 H4 → No H4) → LcItem g tt te vs σ (.int (lo + i)) H2 Yes No)
    (hd : ∀ D H', H1 D = none → Same H1 H' → Rp M H' (.ref D) (.list ((List.range n).filterMap f)) → Qd D H') :
    ∀ D, H1 D = none → ∃ W : Nat → Nat → Hp → Prop, (∃ m, W 0 m (upd H1 D (.lst []))) ∧ ∀ i m H, W i m H →
      ((Itr lo n).stop i H ∧ Qd D H) ∨ ((Itr lo n).go i H ∧ ∃ Nx : Hp → Prop, (∀ H', Nx H' → ∃ m', m' < m ∧ W (i + 1) m' H') ∧ ∀ x H', (Itr lo n).yld i H x H' → g x (wipe σ vs) H' fun σ2 H2 => wipe σ2 vs = wipe σ vs ∧ tt σ2 H2 fun b H3 =>
        if b = true then te σ2 H3 fun y H4 => ∃ acc, H4 D = some (.lst acc) ∧ acc.length < sizeLine ∧ Nx (upd H4 D (.lst (acc ++ [y]))) else Nx H3) := by
  intro D hD
  refine lc_range (fun i H => LcInv M H1 D ((List.range i).filterMap f) H) (by simpa using LcInv.start hD) (fun i H hi w => ?_) (fun H w => ?_)
  · have er : (List.range (i + 1)).filterMap f = (List.range i).filterMap f ++ (f i).toList := by
      rw [List.range_succ, List.filterMap_append]
      cases q : f i <;> simp [q]
    refine hs i H _ (fun y H4 => _) (fun H4 => _) hi w.1 (w.ext hD) (w.fr fr) (fun y H4 e he s r => ?_) (fun H4 he s => ?_)
    · obtain ⟨acc, h1, h2, h3⟩ := w.more hD s r (Nat.lt_of_le_of_lt (List.length_filterMap_le f (List.range i)) (by rw [List.length_range]; omega))
      refine ⟨acc, h1, h2, ?_⟩
      rw [er, he]; exact h3
    · rw [er, he]
      obtain ⟨s1, ys, hy, ra⟩ := w
      exact ⟨Same.trans s1 s, ys, s _ _ hy, by simpa using ra.same s⟩
  · obtain ⟨s, r⟩ := w.out fr hD
    exact hd D H hD s r
end
end Sb

set_option Elab.async false
set_option maxRecDepth 100000
set_option maxHeartbeats 4000000
set_option linter.all false
/-! Marks as data; places; steps that want a fact of the data. -/
namespace Sb
open PySem L2
def markD (m : List Int) : PyData := .tuple (m.map PyData.int)
def joinM (a b : List Int) : List Int := List.zipWith max a b
section
variable {K : Frag} {M : Addr → Prop} {H : Hp} {v x y : V} {d : PyData} {xs : List V} {ds : List PyData} {a : Addr} {Q : VK} {i : Int} {m : List Int}
theorem ixN_nat {n : Nat} {i : Int} {j : Nat} (e : i = (j : Int)) (h : j < n) : ixN n i = some j := by
  unfold ixN
  subst e
  rw [if_pos (by omega), if_pos (by omega)]
  simp
theorem Rp.mark {M' : Addr → Prop} (h : Rp M H v (markD m)) : Rp M' H v (markD m) := by
  obtain ⟨a, xs, rfl, ha, r⟩ := Rp.tup_inv (ds := m.map PyData.int) h
  rw [r.ints_inv] at ha
  exact .tupA ha RpA.ints
/-- what stood already -/
def Old (H : Hp) : Addr → Prop := fun a => H a ≠ none
theorem fr_old (H : Hp) : Fr (Old H) H := fun a h z => z h
theorem Rp.old {M : Addr → Prop} {H H' : Hp} {v : V} {d : PyData} (fr : Fr M H) (h : Rp (Old H) H' v d) : Rp M H' v d := h.ext (Ext.less fun a m z => fr a z m)
theorem Rp.older {H0 H H' : Hp} {v : V} {d : PyData} (s : Same H0 H) (h : Rp (Old H) H' v d) : Rp (Old H0) H' v d := h.ext (Ext.less fun a m z => m (s.free z))
/-- t[i] of data -/
theorem w_ixT (j : Nat) (h : Rp M H x (.tuple ds)) (ei : i = (j : Int)) (e : ds[j]? = some d) (q : ∀ v, Rp M H v d → Q v H) : rIxT K x (.int i) H Q := by
  obtain ⟨a, xs, rfl, ha, r⟩ := h.tup_inv
  obtain ⟨v, hv, rv⟩ := r.at e
  exact ⟨a, xs, i, v, rfl, rfl, SqT.of ha, by rw [ei]; exact atI_nat hv, q v rv⟩
theorem w_ixL (j : Nat) (h : Rp M H x (.list ds)) (ei : i = (j : Int)) (e : ds[j]? = some d) (q : ∀ v, Rp M H v d → Q v H) : rIxL K x (.int i) H Q := by
  obtain ⟨a, xs, rfl, _, ha, r⟩ := h.lst_inv
  obtain ⟨v, hv, rv⟩ := r.at e
  exact ⟨a, xs, i, v, rfl, rfl, SqL.of ha, by rw [ei]; exact atI_nat hv, q v rv⟩
theorem w_ixM (j : Nat) (h : Rp M H x (markD m)) (ei : i = (j : Int)) (hj : j < m.length) (q : Q (.int (m.getD j 0)) H) : rIxT K x (.int i) H Q := by
  refine w_ixT j h ei (d := .int (m.getD j 0)) ?_ fun v r => ?_
  · rw [List.getElem?_map, List.getD_eq_getElem?_getD, List.getElem?_eq_getElem hj]; rfl
  · rw [r.int_inv]; exact q
/-- a display -/
def rNewT (xs : List V) (H : Hp) (Q : VK) : Prop := xs.length ≤ sizeLine ∧ ∀ p, H p = none → Q (.ref p) (upd H p (.tup xs))
def rNewL (xs : List V) (H : Hp) (Q : VK) : Prop := xs.length ≤ sizeLine ∧ ∀ p, H p = none → Q (.ref p) (upd H p (.lst xs))
theorem w_tTup {t : TA} {σ : L2.St} (q : t σ H fun xs H1 => rNewT xs H1 Q) : tTup t σ H Q := q
theorem w_tLst {t : TA} {σ : L2.St} (q : t σ H fun xs H1 => rNewL xs H1 Q) : tLst t σ H Q := q
theorem w_newT (r : RpA M H xs ds) (hl : xs.length ≤ sizeLine) (q : ∀ v H2, Same H H2 → Rp M H2 v (.tuple ds) → Q v H2) : rNewT xs H Q :=
  ⟨hl, fun p hp => q _ _ (Same.new hp) (.tupA upd_same (r.same (Same.new hp)))⟩
theorem w_newL (fr : Fr M H) (r : RpA M H xs ds) (hl : xs.length ≤ sizeLine) (q : ∀ v H2, Same H H2 → Rp M H2 v (.list ds) → Q v H2) : rNewL xs H Q :=
  ⟨hl, fun p hp => q _ _ (Same.new hp) (.lstA (fr p hp) upd_same (r.same (Same.new hp)))⟩
theorem sz_small {n : Nat} (h : n ≤ 100000) : n ≤ sizeLine := Nat.le_trans h (by decide)
theorem sz_smallL {n : Nat} (h : n < 100000) : n < sizeLine := Nat.lt_of_lt_of_le h (by decide)
/-! named readings of calls -/
def rTup (K : Frag) : List V → Hp → VK → Prop := fun xs H Q => ∃ p ys, xs = [.ref p] ∧ ((SqL K H p ys ∧ ∀ l, H l = none → Q (.ref l) (upd H l (.tup ys))) ∨ (SqT K H p ys ∧ Q (.ref p) H))
theorem cl_tup {X : Cx} : CallR X (.type "tuple") (rTup X.K) := call_tuple_of
def rLst (K : Frag) : List V → Hp → VK → Prop := fun xs H Q => ∃ p ys, xs = [.ref p] ∧ (SqL K H p ys ∨ SqT K H p ys) ∧ ∀ l, H l = none → Q (.ref l) (upd H l (.lst ys))
theorem cl_lst {X : Cx} : CallR X (.type "list") (rLst X.K) := call_list_of
def rLen (K : Frag) : List V → Hp → VK → Prop := fun xs H Q => ∃ p ys, xs = [.ref p] ∧ (SqL K H p ys ∨ SqT K H p ys) ∧ Q (.int ys.length) H
theorem cl_len {X : Cx} : CallR X (.builtin "len") (rLen X.K) := call_len_seq
def rMx : List V → Hp → VK → Prop := fun xs H Q => ∃ i j, xs = [.int i, .int j] ∧ Q (.int (if j > i then j else i)) H
theorem cl_max {X : Cx} (hc : X.calm = true) : CallR X (.builtin "max") rMx := call_max2 hc
/-- tuple(x), list(x) of new lists and tuples -/
theorem w_tupleL (h : Rp M H x (.list ds)) (q : ∀ v H2, Same H H2 → Rp M H2 v (.tuple ds) → Q v H2) : rTup K [x] H Q := by
  obtain ⟨a, xs, rfl, m, ha, r⟩ := h.lst_inv
  exact ⟨a, xs, rfl, .inl ⟨SqL.of ha, fun l hl => q _ _ (Same.new hl) (.tupA upd_same (r.same (Same.new hl)))⟩⟩
theorem w_listT (fr : Fr M H) (h : Rp M H x (.tuple ds)) (q : ∀ v H2, Same H H2 → Rp M H2 v (.list ds) → Q v H2) : rLst K [x] H Q := by
  obtain ⟨a, xs, rfl, ha, r⟩ := h.tup_inv
  exact ⟨a, xs, rfl, .inr (SqT.of ha), fun l hl => q _ _ (Same.new hl) (.lstA (fr l hl) upd_same (r.same (Same.new hl)))⟩
theorem w_listL (fr : Fr M H) (h : Rp M H x (.list ds)) (q : ∀ v H2, Same H H2 → Rp M H2 v (.list ds) → Q v H2) : rLst K [x] H Q := by
  obtain ⟨a, xs, rfl, m, ha, r⟩ := h.lst_inv
  exact ⟨a, xs, rfl, .inl (SqL.of ha), fun l hl => q _ _ (Same.new hl) (.lstA (fr l hl) upd_same (r.same (Same.new hl)))⟩
/-- len -/
theorem w_lenT (h : Rp M H x (.tuple ds)) (q : Q (.int ds.length) H) : rLen K [x] H Q := by
  obtain ⟨a, xs, rfl, ha, r⟩ := h.tup_inv
  exact ⟨a, xs, rfl, .inr (SqT.of ha), by rw [r.1]; exact q⟩
theorem w_lenL (h : Rp M H x (.list ds)) (q : Q (.int ds.length) H) : rLen K [x] H Q := by
  obtain ⟨a, xs, rfl, m, ha, r⟩ := h.lst_inv
  exact ⟨a, xs, rfl, .inl (SqL.of ha), by rw [r.1]; exact q⟩
theorem w_lenM (h : Rp M H x (markD m)) (q : Q (.int m.length) H) : rLen K [x] H Q := w_lenT h (by rw [List.length_map]; exact q)
theorem w_lenS (h : SqL K H a xs) (q : Q (.int xs.length) H) : rLen K [.ref a] H Q := ⟨a, xs, rfl, .inl h, q⟩
theorem w_max {i j : Int} (q : Q (.int (max i j)) H) : rMx [.int i, .int j] H Q := by
  refine ⟨i, j, rfl, ?_⟩
  have e : (if j > i then j else i) = max i j := by
    rw [Int.max_def]; split <;> split <;> omega
  rw [e]; exact q
/-- a comprehension's beginning -/
theorem w_lc {wi : TI} {g : TG} {tt : TT} {te : TE} {vs : List Nat} {σ : L2.St} (q : wi σ H fun J H1 => ∀ D, H1 D = none → ∃ W : Nat → Nat → Hp → Prop, (∃ m, W 0 m (upd H1 D (.lst []))) ∧ ∀ i m H, W i m H →
  (J.stop i H ∧ Q (.ref D) H) ∨ (J.go i H ∧ ∃ Nx : Hp → Prop, (∀ H', Nx H' → ∃ m', m' < m ∧ W (i + 1) m' H') ∧ ∀ x H', J.yld i H x H' → g x (wipe σ vs) H' fun σ2 H2 => wipe σ2 vs = wipe σ vs ∧ tt σ2 H2 fun b H3 =>
    if b = true then te σ2 H3 fun y H4 => ∃ acc, H4 D = some (.lst acc) ∧ acc.length < sizeLine ∧ Nx (upd H4 D (.lst (acc ++ [y]))) else Nx H3)) : tLc wi g tt te vs σ H Q := q
/-- a turn without a test, with one -/
theorem w_it0 {te : TE} {vs : List Nat} {σ : L2.St} {i : Nat} {Yes : V → Hp → Prop} {No : Hp → Prop} (hw : wipe ((wipe σ vs).set i (some x)) vs = wipe σ vs) (q : te ((wipe σ vs).set i (some x)) H Yes) : LcItem (gName i) tYes te vs σ x H Yes No :=
  ⟨hw, iteT (B := No H) q⟩
theorem w_it1 {te : TE} {tt : TT} {vs : List Nat} {σ : L2.St} {i : Nat} {Yes : V → Hp → Prop} {No : Hp → Prop} (hw : wipe ((wipe σ vs).set i (some x)) vs = wipe σ vs)
    (q : tt ((wipe σ vs).set i (some x)) H fun b H3 => if b = true then te ((wipe σ vs).set i (some x)) H3 Yes else No H3) : LcItem (gName i) tt te vs σ x H Yes No := ⟨hw, q⟩
section
variable {R : It → Hp → Prop} {ta : TA} {te : TE} {σ : L2.St}
theorem w_iRng1 (q : ta σ H fun vs H1 => ∃ j : Int, vs = [.int j] ∧ -(2 ^ 62) ≤ j ∧ j < 2 ^ 62 ∧ R (Itr 0 j.toNat) H1) : iRng1 ta σ H R := q
theorem w_iRng2 (q : ta σ H fun vs H1 => ∃ i j : Int, vs = [.int i, .int j] ∧ (-(2 ^ 62) ≤ i ∧ i < 2 ^ 62 ∧ -(2 ^ 62) ≤ j ∧ j < 2 ^ 62) ∧ R (Itr i (j - i).toNat) H1) : iRng2 ta σ H R := q
theorem w_iList (q : te σ H fun x H1 => ∃ a, x = .ref a ∧ (∃ xs, SqL K H1 a xs) ∧ R (Itl K a) H1) : iList K te σ H R := q
theorem w_iTup (q : te σ H fun x H1 => ∃ a, x = .ref a ∧ (∃ xs, SqT K H1 a xs) ∧ R (Itt K a) H1) : iTup K te σ H R := q
end
theorem joinM_get {m n : List Int} (e : m.length = n.length) {i : Nat} (hi : i < m.length) : (joinM m n)[i]? = some (max (m.getD i 0) (n.getD i 0)) := by
  unfold joinM
  rw [List.getElem?_zipWith, List.getElem?_eq_getElem hi, List.getElem?_eq_getElem (by omega), List.getD_eq_getElem?_getD, List.getD_eq_getElem?_getD, List.getElem?_eq_getElem hi, List.getElem?_eq_getElem (by omega)]
  rfl
theorem joinM_len {m n : List Int} (e : m.length = n.length) : (joinM m n).length = m.length := by
  unfold joinM
  rw [List.length_zipWith]; omega
theorem fm_some {f : Nat → PyData} (n : Nat) : (List.range n).filterMap (fun i => some (f i)) = (List.range n).map f := by
  rw [List.filterMap_eq_map']
theorem range_map_eq {α : Type} {f : Nat → α} {l : List α} {n : Nat} (hn : l.length = n) (h : ∀ i, i < n → l[i]? = some (f i)) : (List.range n).map f = l := by
  refine List.ext_getElem? fun i => ?_
  by_cases hi : i < n
  · rw [List.getElem?_map, List.getElem?_range hi, h i hi]; rfl
  · rw [List.getElem?_eq_none (by simp; omega), List.getElem?_eq_none (by omega)]
theorem fm_join {m n : List Int} (e : m.length = n.length) : (List.range ((m.length : Int)).toNat).filterMap (fun i => some (PyData.int (max (m.getD i 0) (n.getD i 0)))) = (joinM m n).map PyData.int := by
  rw [fm_some]
  refine range_map_eq (by rw [List.length_map, joinM_len e]; omega) fun i hi => ?_
  rw [List.getElem?_map, joinM_get e (by omega)]; rfl
/-- isinstance -/
theorem isi_of {t c : String} {b : Bool} (h : TyX K H x (.type t)) (k : kitB t c = some b) (q : Q (.bl b) H) : rIsi K [x, .ty c] H Q :=
  ⟨x, .ty c, .type t, .type c, b, rfl, .ty c, h, kit_ty k, q⟩
theorem Rp.tyT (h : Rp M H x (.tuple ds)) : TyX K H x (.type "tuple") := by
  obtain ⟨a, xs, rfl, ha, r⟩ := h.tup_inv
  exact .base (.tup ha)
theorem Rp.tyL (h : Rp M H x (.list ds)) : TyX K H x (.type "list") := by
  obtain ⟨a, xs, rfl, m, ha, r⟩ := h.lst_inv
  exact .base (.lst ha)
theorem w_isiTT (h : Rp M H x (.tuple ds)) (q : Q (.bl true) H) : rIsi K [x, .ty "tuple"] H Q := isi_of h.tyT (by decide +kernel) q
theorem w_isiLL (h : Rp M H x (.list ds)) (q : Q (.bl true) H) : rIsi K [x, .ty "list"] H Q := isi_of h.tyL (by decide +kernel) q
theorem w_isiLT (h : Rp M H x (.list ds)) (q : Q (.bl false) H) : rIsi K [x, .ty "tuple"] H Q := isi_of h.tyL (by decide +kernel) q
theorem w_isiII (q : Q (.bl true) H) : rIsi K [.int i, .ty "int"] H Q := isi_of (.base (.int i)) (by decide +kernel) q
theorem w_isiIB (q : Q (.bl false) H) : rIsi K [.int i, .ty "bool"] H Q := isi_of (.base (.int i)) (by decide +kernel) q
theorem w_isiBB {b : Bool} (q : Q (.bl true) H) : rIsi K [.bl b, .ty "bool"] H Q := isi_of (.base (.bl b)) (by decide +kernel) q
theorem w_isiBI {b : Bool} (q : Q (.bl true) H) : rIsi K [.bl b, .ty "int"] H Q := isi_of (.base (.bl b)) (by decide +kernel) q
theorem w_isiSI {b : Str} (q : Q (.bl false) H) : rIsi K [.str b, .ty "int"] H Q := isi_of (.base (.str b)) (by decide +kernel) q
theorem w_isiNI (q : Q (.bl false) H) : rIsi K [.non, .ty "int"] H Q := isi_of (.base .non) (by decide +kernel) q
theorem w_isiSS {b : Str} (q : Q (.bl true) H) : rIsi K [.str b, .ty "str"] H Q := isi_of (.base (.str b)) (by decide +kernel) q
/-- for -/
theorem w_for {wi : TI} {g : TG} {tb : TS} {D : Ends} {σ : L2.St} (q : wi σ H fun J H1 => ∃ W : Nat → Nat → L2.St → Hp → Prop, (∃ m, W 0 m σ H1) ∧ ∀ i m σ H, W i m σ H →
  (J.stop i H ∧ D.nx σ H) ∨ (J.go i H ∧ ∃ N : L2.St → Hp → Prop, (∀ σ' H', N σ' H' → ∃ m', m' < m ∧ W (i + 1) m' σ' H') ∧ ∀ x H', J.yld i H x H' → g x σ H' fun σ2 H2 => tb { D with nx := N, ct := N, bk := D.nx } σ2 H2)) : tFor wi g tb D σ H := q
/-- s[i] of a list as it stands -/
theorem w_ixS (j : Nat) (h : SqL K H a xs) (ei : i = (j : Int)) (e : xs[j]? = some v) (q : Q v H) : rIxL K (.ref a) (.int i) H Q := ⟨a, xs, i, v, rfl, rfl, h, by rw [ei]; exact atI_nat e, q⟩
end
theorem w_bm {K : Frag} {T : String} {r : V → List V → Hp → VK → Prop} {to : TE} {t : TA} {σ : L2.St} {H : Hp} {Q : VK} (q : to σ H fun x H1 => tyV K T x H1 ∧ t σ H1 fun xs H2 => r x xs H2 Q) : tBM K T r to t σ H Q := q
theorem ty_lst {K : Frag} {H : Hp} {a : Addr} {xs : List V} (h : SqL K H a xs) : tyV K "list" (.ref a) H := .inl ⟨rfl, xs, h⟩
/-- if c: x = e (and no else): both ways meet with a value of which P holds -/
theorem w_ifJoin {c : Prop} [Decidable c] {ts : TS} {D : Ends} {σ : L2.St} {H : Hp} (i : Nat) (old : V) (P : V → Prop) (hold : σ.set i (some old) = σ) (po : ¬ c → P old) (key : ∀ x, P x → D.nx (σ.set i (some x)) H)
    (hA : ∀ N : L2.St → Hp → Prop, (∀ x, P x → N (σ.set i (some x)) H) → c → ts { D with nx := N } σ H) : if c then ts D σ H else tNext D σ H := by
  by_cases h : c
  · rw [if_pos h]; exact hA D.nx key h
  · rw [if_neg h]
    show D.nx σ H
    have := key old (po h)
    rw [hold] at this
    exact this
theorem w_projn {f bk ct : L2.St → Hp → Prop} {rt : VK} {σ : L2.St} {H : Hp} (q : f σ H) : (Ends.mk f rt bk ct).nx σ H := q
theorem w_projr {f bk ct : L2.St → Hp → Prop} {rt : VK} {v : V} {H : Hp} (q : rt v H) : (Ends.mk f rt bk ct).rt v H := q
/-- a cut behind a statement -/
theorem w_cut {ts tu : TS} {D : Ends} {σ : L2.St} {H : Hp} (mid : L2.St → Hp → Prop) (h1 : ∀ N : L2.St → Hp → Prop, (∀ σ' H', mid σ' H' → N σ' H') → ts { D with nx := N } σ H) (h2 : ∀ σ' H', mid σ' H' → tu D σ' H') : tSeq ts tu D σ H := h1 (tu D) h2
theorem iteD {c : Prop} [Decidable c] {A B : Prop} (h : c) (q : A) : if decide c = true then A else B := by rw [if_pos (decide_eq_true h)]; exact q
theorem iteDn {c : Prop} [Decidable c] {A B : Prop} (h : ¬ c) (q : B) : if decide c = true then A else B := by rw [if_neg (fun z => h (of_decide_eq_true z))]; exact q
theorem iteN {b : Bool} {A B : Prop} (h : b = false) (q : B) : if b = true then A else B := by rw [h]; exact iteF q
theorem iteY {b : Bool} {A B : Prop} (h : b = true) (q : A) : if b = true then A else B := by rw [h]; exact iteT q
/-! equal data -/
theorem eqvAll_ints : ∀ m n : List Int, PyData.eqvAll (m.map PyData.int) (n.map PyData.int) = decide (m = n)
  | [], [] => rfl
  | [], _ :: _ => rfl
  | _ :: _, [] => rfl
  | a :: m, b :: n => by
    rw [List.map_cons, List.map_cons]
    unfold PyData.eqvAll
    rw [eqvAll_ints m n]
    unfold PyData.eqv
    by_cases h : a = b <;> by_cases h' : m = n <;> simp [h, h']
theorem eqv_mark (m n : List Int) : PyData.eqv (markD m) (markD n) = decide (m = n) := by
  unfold markD PyData.eqv
  exact eqvAll_ints m n
theorem lay_ints : ∀ m : List Int, PyData.canLayAll0 (m.map PyData.int) = true
  | [] => by simp [PyData.canLayAll0]
  | a :: m => by simp [PyData.canLayAll0, PyData.canLay0, lay_ints m]
theorem depth_ints : ∀ m : List Int, PyData.depthAll (m.map PyData.int) = 0
  | [] => by simp [PyData.depthAll]
  | a :: m => by simp [PyData.depthAll, PyData.depth, depth_ints m]
theorem shaped_mark (m : List Int) : SeqAt.shaped (markD m) = true := by
  unfold SeqAt.shaped markD
  simp [PyData.canLay0, lay_ints, PyData.depth, depth_ints]
section
variable {K : Frag} {M M' : Addr → Prop} {H : Hp} {x y : V} {m n : List Int} {Q : VK}
theorem w_eqM (h : Rp M H x (markD m)) (h' : Rp M' H y (markD n)) (q : Q (.bl (decide (m = n))) H) : rEqD K x y H Q :=
  ⟨_, _, h.dp, h'.dp, shaped_mark m, shaped_mark n, by rw [eqv_mark]; exact q⟩
theorem w_neM (h : Rp M H x (markD m)) (h' : Rp M' H y (markD n)) (q : Q (.bl (!decide (m = n))) H) : rNeD K x y H Q :=
  ⟨_, _, h.dp, h'.dp, shaped_mark m, shaped_mark n, by rw [eqv_mark]; exact q⟩
end
theorem w_chain {r r' : R2} {ta tb tc : TE} {σ : L2.St} {H : Hp} {Q : VK} (q : ta σ H fun x H1 => tb σ H1 fun y H2 => r x y H2 fun z H3 => ∃ k, z = .bl k ∧ (if k = true then tc σ H3 fun w' H4 => r' y w' H4 Q else Q (.bl false) H3)) : tChain r r' ta tb tc σ H Q := q
/-- the law's promise -/
def sp_law (K : Frag) : Sp := fun vs H Q _ => ∃ (b : Addr) (ns : List Int), vs = [.ref b] ∧ SqL K H b (ns.map V.int) ∧ ns.length ≤ 63 ∧ ∀ H', Q (.bl true) H'
section
variable {K : Frag} {σ : L2.St} {H H' : Hp} {Q : VK} {te tv ty td : TE} {tl th : TO} {a d p : Addr} {xs : List V} {lo hi : Option Int} {D : Ends} {M : Addr → Prop}
theorem w_sl {r : V → Option Int → Option Int → Hp → VK → Prop} (q : te σ H fun x H1 => tl σ H1 fun l H2 => th σ H2 fun u H3 => r x l u H3 Q) : tSl r te tl th σ H Q := q
theorem w_part {QO : Option Int → Hp → Prop} (q : te σ H fun x H1 => ∃ i, x = .int i ∧ QO (some i) H1) : tPart te σ H QO := q
theorem w_nopart {QO : Option Int → Hp → Prop} (q : QO none H) : tNoPart σ H QO := q
theorem w_exint {R : Int → Prop} {i : Int} (q : R i) : ∃ j, V.int i = V.int j ∧ R j := ⟨i, rfl, q⟩
theorem w_slL (h : SqL K H a xs) (q : ∀ ys p, cutV xs lo hi = ys → H p = none → Q (.ref p) (upd H p (.lst ys))) : rSlL K (.ref a) lo hi H Q := ⟨a, xs, rfl, h, fun p => q _ p rfl⟩
theorem w_dput (q : tv σ H fun v H1 => td σ H1 fun x H2 => ty σ H2 fun y H3 => ∃ a H4, x = .ref a ∧ DPut H3 a y v H4 ∧ D.nx σ H4) : sDPut td ty tv D σ H := q
theorem w_gSub {to ti : TE} {ts : TSet} {v : V} {Qs : L2.St → Hp → Prop} (q : to σ H fun o H1 => ti σ H1 fun i H2 => ts o i v H2 fun H3 => Qs σ H3) : gSub to ti ts v σ H Qs := q
/-- all but d stands as before -/
def But (d : Addr) (H H' : Hp) : Prop := ∀ a o, a ≠ d → H a = some o → H' a = some o
theorem But.ext (b : But d H H') (hd : ∀ xs, H d ≠ some (.tup xs) ∧ (¬ M d → H d ≠ some (.lst xs))) : Ext M M H H' :=
  ⟨fun a xs e => b a _ (fun z => by subst z; exact (hd xs).1 e) e, fun a xs m e => ⟨m, b a _ (fun z => by subst z; exact (hd xs).2 m e) e⟩⟩
theorem But.trans {H'' : Hp} (b : But d H H') (b' : But d H' H'') : But d H H'' := fun a o n e => b' a o n (b a o n e)
theorem But.same (s : Same H H') : But d H H' := fun a o _ e => s a o e
theorem But.upd (o : HO) : But d H (upd H d o) := fun a u n e => by rw [upd_ne n]; exact e
theorem But.new (h : H d = none) (b : But d H H') : Same H H' := fun a o e => b a o (ne_of_none e h) e
end
section
variable {X : Cx} {o e : Expr} {es : List Expr} {to : TE} {t : TA} {name : Str} {apos cpos pos : Pos} {T id : String} {r : V → List V → Hp → VK → Prop}
theorem pe_bm0K (K : Frag) (hK : X.K = K) (pa : PlainAttrs T) (slot : Slot T name id) (hty : typeOf (.builtin id) = pure (.type "method_descriptor")) (hm : MtR X id r) (ho : PE X o to)
    (hbase : attributeBase o name X.env (eval o X.env) = eval o X.env := by rfl) (hline : (apos.endLine == cpos.line) = true := by rfl) : PE X (.Call (.Attribute o name apos) [] [] cpos) (tBM0 K T r to) :=
  hK ▸ pe_bm0 pa slot hty hm ho hbase hline
theorem pe_bmK (K : Frag) (hK : X.K = K) (pa : PlainAttrs T) (slot : Slot T name id) (hty : typeOf (.builtin id) = pure (.type "method_descriptor")) (hm : MtR X id r) (ho : PE X o to) (ha : PA X (e :: es) t)
    (hbase : attributeBase o name X.env (eval o X.env) = eval o X.env := by rfl)
    (hfew : ((backTo cpos (starEach (e :: es) X.env)).all (fun x => !x.1) && (backToKw cpos (keywordEach [] X.env)).all (fun x => x.1.isSome)
      && decide ((e :: es).length + ([] : List Keyword).length + (if ([] : List Keyword).isEmpty then 0 else 1) < 30)) = true := by rfl)
    (hline : (apos.endLine == cpos.line) = true := by rfl) (hs : starEach (e :: es) X.env = (false, eval e X.env) :: starEach es X.env := by rfl) (hplain : (backTo cpos (starEach es X.env)).any (·.1) = false := by rfl) :
    PE X (.Call (.Attribute o name apos) (e :: es) [] cpos) (tBM K T r to t) := hK ▸ pe_bm pa slot hty hm ho ha hbase hfew hline hs hplain
theorem pe_fldK (K : Frag) (hK : X.K = K) {ta : TE} {f : Str} (he : PE X e ta) (hb : attributeBase e f X.env (eval e X.env) = eval e X.env) : PE X (.Attribute e f pos) (tFld K ta f) := hK ▸ pe_fld he hb
end
end Sb

set_option Elab.async false
set_option maxRecDepth 100000
set_option maxHeartbeats 4000000
set_option linter.all false
/-! sorted of tuples of ints, any number of them, by the tuples' order. -/
namespace Sb
open PySem L2 PyProof.Rows
/-! ### the order -/
theorem lex_irr : ∀ x : List Int, HT.lexLt x x = false
  | [] => rfl
  | a :: x => by rw [HT.lexLt_cons, if_pos rfl, lex_irr x]
theorem lex_asym : ∀ x y : List Int, HT.lexLt x y = true → HT.lexLt y x = false
  | [], [], h => by cases h
  | [], b :: y, _ => HT.lexLt_cons_nil _ _
  | a :: x, [], h => by cases h
  | a :: x, b :: y, h => by
    rw [HT.lexLt_cons] at h ⊢
    by_cases e : a = b
    · subst e
      rw [if_pos rfl] at h ⊢
      exact lex_asym x y h
    · rw [if_neg e] at h
      rw [if_neg (fun z => e z.symm)]
      have := of_decide_eq_true h
      exact decide_eq_false (by omega)
theorem lex_ntr : ∀ x y z : List Int, HT.lexLt y x = false → HT.lexLt z y = false → HT.lexLt z x = false
  | [], y, z, _, _ => by cases z <;> rfl
  | a :: x, [], z, h, _ => by rw [HT.lexLt_nil_cons] at h; cases h
  | a :: x, b :: y, [], _, h => by rw [HT.lexLt_nil_cons] at h; cases h
  | a :: x, b :: y, c :: z, h1, h2 => by
    rw [HT.lexLt_cons] at h1 h2 ⊢
    by_cases e1 : b = a
    · subst e1
      rw [if_pos rfl] at h1
      by_cases e2 : c = b
      · subst e2
        rw [if_pos rfl] at h2 ⊢
        exact lex_ntr x y z h1 h2
      · rw [if_neg e2] at h2 ⊢
        exact h2
    · rw [if_neg e1] at h1
      have := of_decide_eq_false h1
      by_cases e2 : c = b
      · subst e2
        rw [if_neg e1]
        exact h1
      · rw [if_neg e2] at h2
        have := of_decide_eq_false h2
        rw [if_neg (by omega)]
        exact decide_eq_false (by omega)
theorem lex_anti : ∀ x y : List Int, HT.lexLt x y = false → HT.lexLt y x = false → x = y
  | [], [], _, _ => rfl
  | [], b :: y, h, _ => by rw [HT.lexLt_nil_cons] at h; cases h
  | a :: x, [], _, h => by rw [HT.lexLt_nil_cons] at h; cases h
  | a :: x, b :: y, h1, h2 => by
    rw [HT.lexLt_cons] at h1 h2
    by_cases e : a = b
    · subst e
      rw [if_pos rfl] at h1 h2
      rw [lex_anti x y h1 h2]
    · rw [if_neg e] at h1
      rw [if_neg (fun z => e z.symm)] at h2
      have := of_decide_eq_false h1
      have := of_decide_eq_false h2
      omega
theorem swo_lexL {α : Type} (k : α → List Int) : SrtO.Swo fun v u => HT.lexLt (k v) (k u) := ⟨fun _ _ h => lex_asym _ _ h, fun _ _ _ h1 h2 => lex_ntr _ _ _ h1 h2⟩
/-! ### the machine's comparisons -/
def TupI (h : Heap) (v : Value) (ns : List Int) : Prop := ∃ a o xs n, v = .ref a ∧ h.get? a = some o ∧ o.cls = .type "tuple" ∧ o.data = .seq xs n ∧ IntsAre xs.toList ns
theorem TupI.keeps {h h' : Heap} {v : Value} {ns : List Int} (p : TupI h v ns) (k : ∀ b o, h.get? b = some o → o.cls = .type "tuple" → h'.get? b = some o) : TupI h' v ns := by
  obtain ⟨a, o, xs, n, e, ho, hc, hd, hi⟩ := p
  exact ⟨a, o, xs, n, e, k _ _ ho hc, hc, hd, hi⟩
section
variable {prog : Program} {w : World} {A : Around} {E : Value → Shared → Prop} {s : Shared}
theorem lex_walk {fin : Bool} {Q : Bool → Shared → Prop} : ∀ {xs ys : List Value} {ns ms : List Int} (i : Nat), IntsAre xs ns → IntsAre ys ms → fin = decide (ns.length < ms.length) → Q (HT.lexLt ns ms) s →
    PySem.W.KatLex prog w A true fin Q (xs.zip ys) i s
  | _, _, _, _, i, .nil, .nil, hf, q => by subst hf; exact q
  | _, _, _, _, i, .nil, .cons b u r, hf, q => by subst hf; exact q
  | _, _, _, _, i, .cons a t r, .nil, hf, q => by subst hf; exact q
  | _, _, _, _, i, .cons a t rx, .cons b u ry, hf, q => by
    rw [HT.lexLt_cons] at q
    show PySem.W.KatLex prog w A true fin Q ((_, _) :: _) i s
    refine PySem.W.kat_cons (SeqAt.EqAt.int_int a t b u prog w _ _ ?_)
    refine PySem.W.kat_go (fun e1 => ?_) (fun e1 => ?_)
    · have ex : a = b := by simpa using e1
      rw [if_pos ex] at q
      refine PySem.W.kat_yes (lex_walk (i + 1) rx ry ?_ q)
      rw [hf]
      simp
    · have ex : ¬ a = b := by simpa using e1
      rw [if_neg ex] at q
      exact PySem.W.kat_no (TS.oneLt_ints _ q)
theorem tupI_cmp {vs : List Value} {k : Value → List Int} (hp : ∀ v ∈ vs, TupI s.heap v (k v)) : SrtO.Cmp prog w A s (tuples' true) (fun p => p.1 ∈ vs) (SrtO.lt2 fun v u => HT.lexLt (k v) (k u)) := by
  intro p q hm hm'
  have h1 := hp _ hm
  have h2 := hp _ hm'
  show wpAny (model prog w) A (PyProof.Rows.keyLt' (PyProof.Rows.tuples' true) p.1 q.1) (fun r s' => s' = s ∧ r = HT.lexLt (k p.1) (k q.1)) (fun _ _ => False) s
  generalize k p.1 = x at h1 ⊢
  generalize k q.1 = y at h2 ⊢
  obtain ⟨a, o, xs, n, e, ho, hc, hd, hi⟩ := h1
  obtain ⟨a', o', ys, n', e', ho', hc', hd', hi'⟩ := h2
  rw [e, e']
  refine PySem.W.kat_lt ho hd ho' hd' ?_
  refine lex_walk 0 hi hi' ?_ ⟨rfl, rfl⟩
  have l1 := hi.length
  have l2 := hi'.length
  rw [← l1, ← l2, Array.length_toList, Array.length_toList]
theorem tupI_firsts {h : Heap} {k : Value → List Int} : ∀ {vs : List Value}, (∀ v ∈ vs, TupI h v (k v) ∧ k v ≠ []) → ∃ fs : List Value, PySem.W.KatTups h vs fs ∧ fs.length = vs.length ∧ ∀ f ∈ fs, ∃ x t, f = Value.int x t
  | [], _ => ⟨[], PySem.W.KatTups.nil, rfl, fun _ hm => by simp at hm⟩
  | v :: vs, hp => by
    obtain ⟨fs, h1, h2, h3⟩ := tupI_firsts (vs := vs) fun v' hm => hp v' (List.mem_cons_of_mem _ hm)
    obtain ⟨⟨a, o, xs, n, e, ho, hc, hd, hi⟩, hne⟩ := hp v (List.mem_cons_self ..)
    subst e
    obtain ⟨x, t, r, ex⟩ : ∃ x t r, xs.toList = Value.int x t :: r := by
      generalize k (Value.ref a) = ns at hi hne
      cases q : xs.toList with
      | nil => rw [q] at hi; cases hi; exact absurd rfl hne
      | cons y ys => rw [q] at hi; cases hi; exact ⟨_, _, _, rfl⟩
    refine ⟨.int x t :: fs, PySem.W.KatTups.cons ho hc hd ?_ h1, by rw [List.length_cons, List.length_cons, h2], fun f hm => ?_⟩
    · rw [← Array.getElem?_toList, ex]; rfl
    · rcases List.mem_cons.mp hm with rfl | hm
      · exact ⟨x, t, rfl⟩
      · exact h3 f hm
theorem tupI_sortable {a : Addr} {vs : List Value} {k : Value → List Int} (h0 : 0 < vs.length) (hp : ∀ v ∈ vs, TupI s.heap v (k v) ∧ k v ≠ []) (ha : ∀ o, s.heap.get? a = some o → o.cls ≠ .type "tuple") :
    SrtO.SortableO prog w A s a vs fun v u => HT.lexLt (k v) (k u) := by
  intro h' keep
  have hp' : ∀ v ∈ vs, TupI h' v (k v) ∧ k v ≠ [] := fun v hm => ⟨(hp v hm).1.keeps fun b o e c => keep b o (fun z => by subst z; exact ha o e c) e, (hp v hm).2⟩
  obtain ⟨fs, h1, h2, h3⟩ := tupI_firsts hp'
  refine ⟨PyProof.Rows.tuples' true, fun Q E hq => ?_, tupI_cmp fun v hm => (hp' v hm).1⟩
  refine PySem.W.kat_kind (T := .type "int") h1 (by omega) (fun f hm => ?_) (by rfl) ?_
  · obtain ⟨x, t, rfl⟩ := h3 f hm
    exact PySem.W.Looks.now
  · have e : (Value.type "int" != Value.type "tuple") = true := by first | decide +kernel | rfl | decide
    rw [e]
    exact hq
end
end Sb

set_option Elab.async false
set_option maxRecDepth 100000
set_option maxHeartbeats 4000000
set_option linter.all false
/-! sorted(..) as rules: a list of tuples of ints, a dict whose keys are such. -/
namespace Sb
open PySem L2 PyProof.Rows
def tupD (l : List Int) : PyData := .tuple (l.map PyData.int)
def intOf : V → Int
  | .int i => i
  | _ => 0
/-- the ints of the tuple that stands at a value -/
def ktup (H : Hp) : V → List Int
  | .ref t => match H t with
    | some (.tup xs) => xs.map intOf
    | _ => []
  | _ => []
theorem ktup_at {H : Hp} {t : Addr} {ns : List Int} (h : H t = some (.tup (ns.map V.int))) : ktup H (.ref t) = ns := by
  show (match H t with
    | some (.tup xs) => xs.map intOf
    | _ => []) = ns
  rw [h]
  show (ns.map V.int).map intOf = ns
  rw [List.map_map]
  have e : (intOf ∘ V.int) = id := funext fun i => rfl
  rw [e, List.map_id]
def sortL (ls : List (List Int)) : List (List Int) := ls.mergeSort fun a b => !HT.lexLt b a
theorem le_trans_lex (a b c : List Int) (h1 : (!HT.lexLt b a) = true) (h2 : (!HT.lexLt c b) = true) : (!HT.lexLt c a) = true := by
  simp only [Bool.not_eq_true'] at h1 h2 ⊢
  exact lex_ntr a b c h1 h2
theorem le_total_lex (a b : List Int) : ((!HT.lexLt b a) || (!HT.lexLt a b)) = true := by
  cases h : HT.lexLt b a with
  | false => rfl
  | true => rw [lex_asym _ _ h]; rfl
theorem sortL_perm (ls : List (List Int)) : (sortL ls).Perm ls := List.mergeSort_perm _ _
theorem sortL_srt (ls : List (List Int)) : (sortL ls).Pairwise fun a b => HT.lexLt b a = false :=
  (List.pairwise_mergeSort le_trans_lex le_total_lex ls).imp fun h => by simpa using h
theorem sortL_uniq {ls ys : List (List Int)} (p : ys.Perm ls) (h : ys.Pairwise fun a b => HT.lexLt b a = false) : ys = sortL ls :=
  List.Perm.eq_of_pairwise (le := fun a b => HT.lexLt b a = false) (fun a b _ _ h1 h2 => (lex_anti b a h1 h2).symm) h (sortL_srt ls) (p.trans (sortL_perm ls).symm)
section
variable {M : Addr → Prop} {H : Hp} {x : V} {xs ys zs : List V} {ls : List (List Int)}
theorem Rp.ktup {l : List Int} (h : Rp M H x (tupD l)) : ∃ t, x = .ref t ∧ H t = some (.tup (l.map V.int)) ∧ ktup H x = l := by
  obtain ⟨a, xs, rfl, ha, r⟩ := Rp.tup_inv (ds := l.map PyData.int) h
  rw [r.ints_inv] at ha
  exact ⟨a, rfl, ha, ktup_at ha⟩
theorem RpA.ktups (h : RpA M H zs (ls.map tupD)) : zs.map (Sb.ktup H) = ls := by
  refine List.ext_getElem? fun i => ?_
  rw [List.getElem?_map]
  cases e : ls[i]? with
  | none =>
    have := List.getElem?_eq_none_iff.mp e
    have := h.1
    rw [List.getElem?_eq_none (by rw [List.length_map] at this; omega)]
    rfl
  | some l =>
    obtain ⟨x, hx, r⟩ := h.at (i := i) (d := tupD l) (by rw [List.getElem?_map, e]; rfl)
    obtain ⟨t, _, _, ek⟩ := r.ktup
    rw [hx, Option.map_some, ek]
/-- sorted, as data -/
theorem RpA.sorted (h : RpA M H zs (ls.map tupD)) (p : ys.Perm zs) (s : ys.Pairwise fun a b => HT.lexLt (Sb.ktup H b) (Sb.ktup H a) = false) : RpA M H ys ((sortL ls).map tupD) := by
  have e1 := h.ktups
  have e2 : ys.map (Sb.ktup H) = sortL ls := sortL_uniq (by rw [← e1]; exact p.map _) (List.pairwise_map.mpr s)
  rw [← e2]
  refine ⟨by rw [List.length_map, List.length_map], fun i x d hx hd => ?_⟩
  rw [List.map_map, List.getElem?_map, hx] at hd
  have hd : tupD (Sb.ktup H x) = d := Option.some.inj hd
  subst hd
  have hm : x ∈ zs := p.mem_iff.mp (List.mem_of_getElem? hx)
  obtain ⟨j, hj⟩ := List.mem_iff_getElem?.mp hm
  obtain ⟨d, hd, r⟩ := h.atx hj
  rw [List.getElem?_map] at hd
  cases e : ls[j]? with
  | none => rw [e] at hd; cases hd
  | some l =>
    rw [e] at hd
    have hd : tupD l = d := Option.some.inj hd
    subst hd
    obtain ⟨t, _, _, ek⟩ := r.ktup
    rw [ek]
    exact r
end
theorem RpA.tups {M M' : Addr → Prop} {H : Hp} {xs : List V} {ls : List (List Int)} (h : RpA M H xs (ls.map tupD)) : RpA M' H xs (ls.map tupD) := by
  refine ⟨h.1, fun i x d hx hd => ?_⟩
  have r := h.2 i x d hx hd
  rw [List.getElem?_map] at hd
  cases e : ls[i]? with
  | none => rw [e] at hd; cases hd
  | some l =>
    rw [e] at hd
    have hd : tupD l = d := Option.some.inj hd
    subst hd
    exact Rp.mark r
theorem paired_get {α β : Type} {F : α → β → Prop} : ∀ {l₁ : List α} {l₂ : List β} {i : Nat} {b : β}, Paired F l₁ l₂ → l₂[i]? = some b → ∃ a, l₁[i]? = some a ∧ F a b
  | _, _, _, _, .nil, e => by simp at e
  | _, _, 0, _, .cons r _, e => by simp at e; subst e; exact ⟨_, rfl, r⟩
  | _, _, i + 1, b, .cons _ t, e => by
    obtain ⟨a, h1, h2⟩ := paired_get (i := i) (b := b) t (by simpa using e)
    exact ⟨a, by simpa using h1, h2⟩
def rSortedT (K : Frag) : List V → Hp → VK → Prop := fun vs H Q => ∃ (a : Addr) (xs : List V), vs = [V.ref a] ∧ SqL K H a xs ∧ (∀ x ∈ xs, ∃ t ns, x = V.ref t ∧ H t = some (.tup (ns.map V.int)) ∧ ns ≠ []) ∧
  ∀ ys p, (ys.Pairwise fun a b => HT.lexLt (ktup H b) (ktup H a) = false) → ys.Perm xs → H p = none → Q (.ref p) (upd H p (.lst ys))
/-- sorted(d), d a dict whose keys are tuples of ints -/
def rSortedDT : List V → Hp → VK → Prop := fun vs H Q => ∃ (a : Addr) (kvs : List (List Key × V)) (ks : List (List Int)), vs = [V.ref a] ∧ H a = some (.dT kvs) ∧ kvs.map (·.1) = ks.map (fun l => l.map Sum.inl) ∧ (∀ l ∈ ks, l ≠ []) ∧
  ∀ ys p, H p = none → (∀ M, RpA M H ys ((sortL ks).map tupD)) → Q (.ref p) (upd H p (.lst ys))
section
variable {X : Cx}
theorem tupI_of {P : Program} {w : World} {H : Hp} {h : Heap} {t : Addr} {ns : List Int} (hok : HOk P w H h) (e : H t = some (.tup (ns.map V.int))) : TupI h (.ref t) ns := by
  obtain ⟨_, its, r, o, ho, hc, n, hd⟩ := hok _ _ e
  exact ⟨t, o, its.toArray, n, rfl, ho, hc, hd, r.ints⟩
theorem cr_sortedT {X : Cx} : CallR X (.builtin "sorted") (rSortedT X.K) := by
  intro pins s σ H vs us Q I r h
  obtain ⟨a, xs, rfl, hs, hx, q⟩ := h
  obtain ⟨its, rv, hl, hz⟩ := I.list hs
  obtain ⟨u, rfl, ru⟩ := vals1 r
  obtain rfl : u = Value.ref a := ru
  obtain ⟨e1, e2⟩ := refs_back rv fun x m => by
    obtain ⟨t, ns, e, _⟩ := hx x m
    exact ⟨t, e⟩
  have hp : ∀ v ∈ its, TupI s.heap v (ktup H (backV v)) ∧ ktup H (backV v) ≠ [] := fun v hv => by
    obtain ⟨t, rfl⟩ := e2 v hv
    have hm : V.ref t ∈ xs := by rw [e1]; exact List.mem_map.mpr ⟨_, hv, rfl⟩
    obtain ⟨t', ns, e, ht, hne⟩ := hx _ hm
    cases e
    have ek : ktup H (backV (Value.ref t)) = ns := ktup_at ht
    rw [ek]
    exact ⟨tupI_of I.hok ht, hne⟩
  refine SrtO.sorted_ord (swo_lexL fun u => ktup H (backV u)) hl.isList (by rw [← rv.length]; exact hz) (fun h2 h₁ a' ha' kk => tupI_sortable (s := { s with heap := h₁ }) (by omega) (fun v hv => ⟨(hp v hv).1.keeps fun b o e _ => (kk b o e).2, (hp v hv).2⟩) fun o e => ?_) fun out h1 h2 => ?_
  · have e' : some o = some (PyProof.Rows.seqObj "list" its.toArray 0) := e.symm.trans ha'
    cases e'
    intro c
    exact absurd (Value.type.inj c) (by decide)
  · obtain ⟨ep, he'⟩ := PyProof.Rows.sortedAll_at s.heap its out.toArray
    have h3 : ∀ u ∈ out, ∃ a, u = Value.ref a := fun u hu => e2 u (h2.perm.mem_iff.mp hu)
    have hperm : (out.map backV).Perm xs := by rw [e1]; exact h2.perm.map _
    have hlen : (out.map backV).length ≤ sizeLine := by rw [hperm.length_eq]; exact hz
    exact ⟨.ref _, upd H (s.heap.objs.size + 1) (.lst (out.map backV)), I.laid (t' := s.toks) (fun _ _ => PyProof.Rows.sortedAll_old) (Nat.le_succ _) ⟨hlen, out, ep, vals_back h3, he'⟩, rfl,
      q _ _ (List.pairwise_map.mpr h1) hperm (I.hok.fresh (Nat.le_succ _))⟩
theorem cr_sortedDT {X : Cx} (hcalm : X.calm = true) : CallR X (.builtin "sorted") rSortedDT := by
  intro pins s σ H vs us Q I r h
  obtain ⟨a, kvs, ks, rfl, hd, hks, hne, q⟩ := h
  obtain ⟨u, rfl, ru⟩ := vals1 r
  obtain rfl : u = Value.ref a := ru
  obtain ⟨hz, lo, xs, rel, o, es, ep, ho, hex, hdat, hes, hnd⟩ := I.hok a _ hd
  have raw : s.heap.DictRaw a es ep := ⟨o, ho, hex, hdat⟩
  have hlen : es.size = kvs.length := by
    have := congrArg List.length hes
    rw [Array.length_toList, List.length_map] at this
    rw [this, ← Paired.length rel]
  have hkl : kvs.length = ks.length := by
    have := congrArg List.length hks
    rwa [List.length_map, List.length_map] at this
  refine Calls.call_function_entry PyProof.Rows.kind_sorted PyProof.Rows.plain_sorted PyProof.Rows.entry_sorted (PyProof.Rows.args_sorted1 _) ?_
  unfold Builtin.«sorted»
  refine wpAny_bind (m := checkCount "sorted" 1 1 _) (wpAny_pure ?_)
  refine wpAny_bind (PySem.W.kdu_collect (A := X.A.in1) (KdlSrc.rawDict lo) (I.ok.hd hcalm) raw (by rw [hlen]; exact hz) fun h' tk acc hk hacc => ?_)
  have hal : acc.toList = (xs.map fun y => Value.ref y.2.1) := by
    refine List.ext_getElem? fun i => ?_
    cases e : acc.toList[i]? with
    | none =>
      have := List.getElem?_eq_none_iff.mp e
      rw [Array.length_toList, hacc.1, hlen, Paired.length rel] at this
      rw [List.getElem?_eq_none (by rw [List.length_map]; exact this)]
    | some v =>
      obtain ⟨hi, ev⟩ := hacc.2 i v (by rw [← Array.getElem?_toList]; exact e)
      have h1 : es.toList[i]? = some es[i] := by rw [Array.getElem?_toList]; exact Array.getElem?_eq_getElem hi
      rw [hes, List.getElem?_map] at h1
      cases h2 : xs[i]? with
      | none => rw [h2] at h1; cases h1
      | some y =>
        rw [h2] at h1
        have h1 := Option.some.inj h1
        rw [List.getElem?_map, h2, ev, ← h1]
        rfl
  have hxk : RpA (fun _ => False) H (xs.map fun y => V.ref y.2.1) (ks.map tupD) := by
    refine ⟨by rw [List.length_map, List.length_map, ← hkl, Paired.length rel], fun i x d hx hd' => ?_⟩
    rw [List.getElem?_map] at hx hd'
    cases e1 : xs[i]? with
    | none => rw [e1] at hx; cases hx
    | some y =>
      cases e2 : ks[i]? with
      | none => rw [e2] at hd'; cases hd'
      | some l =>
        rw [e1] at hx
        rw [e2] at hd'
        have hx : V.ref y.2.1 = x := Option.some.inj hx
        have hd' : tupD l = d := Option.some.inj hd'
        subst hx hd'
        obtain ⟨kv, hkv, rk⟩ := paired_get rel e1
        have e3 : (kvs.map (·.1))[i]? = some (l.map Sum.inl) := by rw [hks, List.getElem?_map, e2]; rfl
        rw [List.getElem?_map, hkv] at e3
        have e3 : kv.1 = l.map Sum.inl := Option.some.inj e3
        have ht := rk.2.1
        rw [e3, List.map_map] at ht
        have e4 : (kV ∘ Sum.inl : Int → V) = V.int := funext fun i => rfl
        rw [e4] at ht
        exact .tupA ht RpA.ints
  have hitem : ∀ v ∈ acc.toList, TupI s.heap v (ktup H (backV v)) ∧ ktup H (backV v) ≠ [] := fun v hv => by
    rw [hal] at hv
    obtain ⟨y, hy, rfl⟩ := List.mem_map.mp hv
    obtain ⟨i, hi⟩ := List.mem_iff_getElem?.mp hy
    obtain ⟨d, hdd, r⟩ := hxk.atx (i := i) (x := V.ref y.2.1) (by rw [List.getElem?_map, hi]; rfl)
    rw [List.getElem?_map] at hdd
    cases e2 : ks[i]? with
    | none => rw [e2] at hdd; cases hdd
    | some l =>
      rw [e2] at hdd
      have hdd : tupD l = d := Option.some.inj hdd
      subst hdd
      obtain ⟨t, et, ht, ek⟩ := r.ktup
      have ek' : ktup H (backV (Value.ref y.2.1)) = l := ek
      rw [ek']
      cases et
      exact ⟨tupI_of I.hok ht, hne l (List.mem_of_getElem? e2)⟩
  have I1 : Inv X pins σ H { s with heap := h', toks := tk } := I.kept hk
  have hsz : acc.toList.length ≤ sizeLine := by rw [Array.length_toList, hacc.1, hlen]; exact hz
  refine wpAny_bind (wpAny_newList ?_ hsz)
  have hoL : (h'.push (PyProof.Rows.seqObj "list" acc.toList.toArray 0)).get? h'.objs.size = some (PyProof.Rows.seqObj "list" acc.toList.toArray 0) := Heap.get?_push_size _ rfl
  show wpAny _ _ _ _ _ { s with heap := h'.push (PyProof.Rows.seqObj "list" acc.toList.toArray 0), toks := tk }
  refine wpAny_bind (wpAny_holding (wpAny_call_entry PyProof.Rows.slot_list_sort ⟨_, hoL, rfl⟩ PyProof.Rows.entry_list_sort
    (SrtO.list_sort_ord (s := { s with heap := h'.push (PyProof.Rows.seqObj "list" acc.toList.toArray 0), toks := tk }) (swo_lexL fun u => ktup H (backV u)) hoL hsz
      (fun h2 => tupI_sortable (by omega) (fun v hv => ⟨(hitem v hv).1.keeps fun b o e _ => Heap.get?_push_of_some _ (hk b o e), (hitem v hv).2⟩) fun o e => ?_) fun out h1 h2 => ⟨_, rfl, ?_⟩)
    (PyProof.Rows.args_list_sort _)))
  · have e' : some o = some (PyProof.Rows.seqObj "list" acc.toList.toArray 0) := e.symm.trans hoL
    cases e'
    intro c
    exact absurd (Value.type.inj c) (by decide)
  · obtain ⟨e', he'⟩ := PyProof.Rows.sortedHeap_at (vs := acc.toList) (out := out.toArray) hoL
    have h3 : ∀ u ∈ out, ∃ a, u = Value.ref a := fun u hu => by
      have := h2.perm.mem_iff.mp hu
      rw [hal] at this
      obtain ⟨y, _, rfl⟩ := List.mem_map.mp this
      exact ⟨_, rfl⟩
    have hperm : (out.map backV).Perm (xs.map fun y => V.ref y.2.1) := by
      have := h2.perm.map backV
      rw [hal, List.map_map] at this
      exact this
    have hlen' : (out.map backV).length ≤ sizeLine := by rw [hperm.length_eq, List.length_map, ← Paired.length rel]; exact hz
    have hsrt := hxk.sorted hperm (List.pairwise_map.mpr h1)
    refine wpAny_pure ⟨_, rfl, .ref h'.objs.size, upd H h'.objs.size (.lst (out.map backV)), I1.laid (t' := tk) (fun b u e => ?_) (Nat.le_refl _) ⟨hlen', out, e', vals_back h3, he'⟩, rfl,
      q _ _ (I1.hok.fresh (Nat.le_refl _)) fun M => hsrt.tups⟩
    have hb : b < h'.objs.size := Heap.lt_size e
    rw [PyProof.Rows.sortedHeap_old (Nat.ne_of_lt hb) (by rw [PyProof.Rows.size_push']; exact Nat.lt_succ_of_lt hb)]
    exact Heap.get?_push_of_some _ e
end
section
variable {M : Addr → Prop} {H : Hp} {x : V} {Q : VK} {ls : List (List Int)} {K : Frag} {ds : List PyData} {rs : List (Int × Int × Int)}
theorem w_sortT (fr : Fr M H) (h : Rp M H x (.list (ls.map tupD))) (hne : ∀ l ∈ ls, l ≠ []) (q : ∀ p H2, H p = none → Same H H2 → Rp M H2 (.ref p) (.list ((sortL ls).map tupD)) → Q (.ref p) H2) : rSortedT K [x] H Q := by
  obtain ⟨a, xs, rfl, m, ha, r⟩ := h.lst_inv
  refine ⟨a, xs, rfl, SqL.of ha, fun x hx => ?_, fun ys p hs hp hn => ?_⟩
  · obtain ⟨i, hi⟩ := List.mem_iff_getElem?.mp hx
    obtain ⟨d, hd, rd⟩ := r.atx hi
    rw [List.getElem?_map] at hd
    cases e : ls[i]? with
    | none => rw [e] at hd; cases hd
    | some l =>
      rw [e] at hd
      have hd : tupD l = d := Option.some.inj hd
      subst hd
      obtain ⟨t, et, ht, _⟩ := rd.ktup
      exact ⟨t, l, et, ht, hne l (List.mem_of_getElem? e)⟩
  · exact q _ _ hn (Same.new hn) (.lstA (fr p hn) upd_same ((r.sorted hp hs).same (Same.new hn)))
end
end Sb

set_option Elab.async false
set_option maxRecDepth 100000
set_option maxHeartbeats 4000000
set_option linter.all false
/-! Rows and shelves as data; what their defs reckon. -/
namespace Sb
open PySem L2 PyProof.Rows
abbrev Row := Int × Int × Int
abbrev Shelf := List Int × List Row
def rowL (r : Row) : List Int := [r.1, r.2.1, r.2.2]
def rowD (r : Row) : PyData := tupD (rowL r)
def rowsD (rs : List Row) : PyData := .list (rs.map rowD)
def shelfD (s : Shelf) : PyData := .tuple [markD s.1, rowsD s.2]
theorem rowL_inj {a b : Row} (h : rowL a = rowL b) : a = b := by
  obtain ⟨a1, a2, a3⟩ := a
  obtain ⟨b1, b2, b3⟩ := b
  simp only [rowL, List.cons.injEq] at h
  obtain ⟨rfl, rfl, rfl, _⟩ := h
  rfl
def rowLe (a b : Row) : Prop := HT.lexLt (rowL b) (rowL a) = false
def sortR (rs : List Row) : List Row := rs.mergeSort fun a b => !HT.lexLt (rowL b) (rowL a)
theorem sortR_perm (rs : List Row) : (sortR rs).Perm rs := List.mergeSort_perm _ _
theorem sortR_srt (rs : List Row) : (sortR rs).Pairwise rowLe :=
  (List.pairwise_mergeSort (le := fun a b => !HT.lexLt (rowL b) (rowL a)) (fun a b c h1 h2 => le_trans_lex (rowL a) (rowL b) (rowL c) h1 h2) (fun a b => le_total_lex (rowL a) (rowL b)) rs).imp fun h => by simpa [rowLe] using h
theorem rowLe_anti {a b : Row} (h1 : rowLe a b) (h2 : rowLe b a) : a = b := rowL_inj (lex_anti _ _ h2 h1)
theorem sortR_uniq {rs ys : List Row} (p : ys.Perm rs) (h : ys.Pairwise rowLe) : ys = sortR rs :=
  List.Perm.eq_of_pairwise (le := rowLe) (fun a b _ _ h1 h2 => rowLe_anti h1 h2) h (sortR_srt rs) (p.trans (sortR_perm rs).symm)
theorem sortL_rows (rs : List Row) : sortL (rs.map rowL) = (sortR rs).map rowL :=
  (sortL_uniq ((sortR_perm rs).map _) (List.pairwise_map.mpr (sortR_srt rs))).symm
theorem sortR_len (rs : List Row) : (sortR rs).length = rs.length := (sortR_perm rs).length_eq
theorem mem_sortR {r : Row} {rs : List Row} : r ∈ sortR rs ↔ r ∈ rs := (sortR_perm rs).mem_iff
def seen (m : List Int) (r : Row) : Bool := decide (r.2.1 ≤ m.getD r.1.toNat 0)
def unseen (rs : List Row) (m : List Int) : List Row := rs.filter fun r => !seen m r
def putOn (s : Shelf) (k : Nat) (v : Int) (m : List Int) : Shelf :=
  ((joinM s.1 m).set k (s.1.getD k 0 + 1), sortR (unseen s.2 m ++ [((k : Int), s.1.getD k 0 + 1, v)]))
def droppedS (s : Shelf) (m : List Int) : Shelf := (joinM s.1 m, unseen s.2 m)
def metRows (s t : Shelf) : List Row := s.2.filter (fun r => decide (r ∈ t.2)) ++ unseen s.2 t.1 ++ unseen t.2 s.1
def metS (s t : Shelf) : Shelf := (joinM s.1 t.1, sortR (metRows s t))
/-- every row's keeper is there -/
def Rin (n : Nat) (rs : List Row) : Prop := ∀ r ∈ rs, 0 ≤ r.1 ∧ r.1 < n
theorem Rin.unseen {n : Nat} {rs : List Row} {m : List Int} (h : Rin n rs) : Rin n (unseen rs m) := fun r hr => h r (List.mem_filter.mp hr).1
theorem Rin.sort {n : Nat} {rs : List Row} (h : Rin n rs) : Rin n (sortR rs) := fun r hr => h r (mem_sortR.mp hr)
theorem Rin.app {n : Nat} {rs qs : List Row} (h : Rin n rs) (h' : Rin n qs) : Rin n (rs ++ qs) := fun r hr => (List.mem_append.mp hr).elim (h r) (h' r)
/-! equal rows -/
theorem eqv_row (a b : Row) : PyData.eqv (rowD a) (rowD b) = decide (a = b) := by
  have e : PyData.eqv (rowD a) (rowD b) = decide (rowL a = rowL b) := eqv_mark (rowL a) (rowL b)
  rw [e]
  by_cases h : a = b
  · subst h; simp
  · rw [decide_eq_false h, decide_eq_false fun z => h (rowL_inj z)]
theorem eqvAll_rows : ∀ a b : List Row, PyData.eqvAll (a.map rowD) (b.map rowD) = decide (a = b)
  | [], [] => rfl
  | [], _ :: _ => rfl
  | _ :: _, [] => rfl
  | r :: a, q :: b => by
    rw [List.map_cons, List.map_cons]
    unfold PyData.eqvAll
    rw [eqvAll_rows a b, eqv_row]
    by_cases h : r = q <;> by_cases h' : a = b <;> simp [h, h']
theorem eqv_rows (a b : List Row) : PyData.eqv (rowsD a) (rowsD b) = decide (a = b) := by
  unfold rowsD PyData.eqv
  exact eqvAll_rows a b
theorem lay_row (r : Row) : PyData.canLay0 (rowD r) = true := by
  show PyData.canLayAll0 ((rowL r).map PyData.int) = true
  exact lay_ints _
theorem lay_rows : ∀ rs : List Row, PyData.canLayAll0 (rs.map rowD) = true
  | [] => by simp [PyData.canLayAll0]
  | r :: rs => by
    rw [List.map_cons]
    unfold PyData.canLayAll0
    rw [lay_row, lay_rows rs]; rfl
theorem depth_row (r : Row) : (rowD r).depth = 1 := by
  unfold rowD tupD PyData.depth
  rw [depth_ints]
theorem depth_rows : ∀ rs : List Row, PyData.depthAll (rs.map rowD) ≤ 1
  | [] => by simp [PyData.depthAll]
  | r :: rs => by
    have h := depth_rows rs
    rw [List.map_cons]
    unfold PyData.depthAll
    rw [depth_row]; omega
theorem shaped_row (r : Row) : SeqAt.shaped (rowD r) = true := shaped_mark (rowL r)
theorem shaped_rows (rs : List Row) : SeqAt.shaped (rowsD rs) = true := by
  unfold SeqAt.shaped rowsD
  have h := depth_rows rs
  rw [Bool.and_eq_true]
  refine ⟨?_, decide_eq_true ?_⟩
  · unfold PyData.canLay0; exact lay_rows rs
  · unfold PyData.depth; omega
section
variable {M M' : Addr → Prop} {H : Hp} {x y : V} {p : Addr} {Q : VK} {K : Frag} {rs qs : List Row} {r : Row} {s : Shelf} {i : Int}
theorem rows_map (rs : List Row) : rs.map rowD = (rs.map rowL).map tupD := by rw [List.map_map]; rfl
theorem w_sortR (fr : Fr M H) (h : Rp M H x (rowsD rs)) (q : ∀ p H2, H p = none → Same H H2 → Rp M H2 (.ref p) (rowsD (sortR rs)) → Q (.ref p) H2) : rSortedT K [x] H Q := by
  unfold rowsD at h
  rw [rows_map] at h
  refine w_sortT fr h (fun l hl => ?_) fun p H2 n s r => q p H2 n s ?_
  · obtain ⟨r, _, rfl⟩ := List.mem_map.mp hl
    intro z; cases z
  · unfold rowsD
    rw [rows_map, ← sortL_rows]
    exact r
theorem any_row (r : Row) : ∀ rs : List Row, ((rs.map rowD).any fun z => PyData.eqv z (rowD r)) = decide (r ∈ rs)
  | [] => rfl
  | q :: rs => by
    rw [List.map_cons, List.any_cons, any_row r rs, eqv_row]
    by_cases h : q = r <;> by_cases h' : r ∈ rs
    · subst h; simp
    · subst h; simp
    · simp [h, h']
    · have h2 : ¬ r = q := fun z => h z.symm
      simp [h, h', h2]
theorem w_inR (h : Rp M H x (rowD r)) (h' : Rp M' H y (rowsD rs)) (q : Q (.bl (decide (r ∈ rs))) H) : rInD K x y H Q :=
  ⟨_, _, h.dp, h'.dp, shaped_row r, shaped_rows rs, by rw [any_row]; exact q⟩
theorem w_ninR (h : Rp M H x (rowD r)) (h' : Rp M' H y (rowsD rs)) (q : Q (.bl (!decide (r ∈ rs))) H) : rNotInD K x y H Q :=
  ⟨_, _, h.dp, h'.dp, shaped_row r, shaped_rows rs, by rw [any_row]; exact q⟩
theorem w_eqR (h : Rp M H x (rowsD rs)) (h' : Rp M' H y (rowsD qs)) (q : Q (.bl (decide (rs = qs))) H) : rEqD K x y H Q :=
  ⟨_, _, h.dp, h'.dp, shaped_rows rs, shaped_rows qs, by rw [eqv_rows]; exact q⟩
theorem w_neR (h : Rp M H x (rowsD rs)) (h' : Rp M' H y (rowsD qs)) (q : Q (.bl (!decide (rs = qs))) H) : rNeD K x y H Q :=
  ⟨_, _, h.dp, h'.dp, shaped_rows rs, shaped_rows qs, by rw [eqv_rows]; exact q⟩
/-- the parts of a row, of a shelf -/
theorem w_row0 (h : Rp M H x (rowD r)) (q : Q (.int r.1) H) : rIxT K x (.int 0) H Q := w_ixT 0 h rfl (d := .int r.1) rfl fun v e => by rw [e.int_inv]; exact q
theorem w_row1 (h : Rp M H x (rowD r)) (q : Q (.int r.2.1) H) : rIxT K x (.int 1) H Q := w_ixT 1 h rfl (d := .int r.2.1) rfl fun v e => by rw [e.int_inv]; exact q
theorem w_row2 (h : Rp M H x (rowD r)) (q : Q (.int r.2.2) H) : rIxT K x (.int 2) H Q := w_ixT 2 h rfl (d := .int r.2.2) rfl fun v e => by rw [e.int_inv]; exact q
theorem w_shelf0 (h : Rp M H x (shelfD s)) (q : ∀ v, Rp M H v (markD s.1) → Q v H) : rIxT K x (.int 0) H Q := w_ixT 0 h rfl (d := markD s.1) rfl q
theorem w_shelf1 (h : Rp M H x (shelfD s)) (q : ∀ v, Rp M H v (rowsD s.2) → Q v H) : rIxT K x (.int 1) H Q := w_ixT 1 h rfl (d := rowsD s.2) rfl q
theorem Rp.shelf {a b : V} (h1 : Rp M H a (markD s.1)) (h2 : Rp M H b (rowsD s.2)) : RpA M H [a, b] [markD s.1, rowsD s.2] := RpA.nil.cons h2 |>.cons h1
theorem fm_filter {rs : List Row} (p : Row → Bool) : rs.filterMap (fun r => if p r = true then some (rowD r) else none) = (rs.filter p).map rowD := by
  induction rs with
  | nil => rfl
  | cons r rs ih =>
    rw [List.filterMap_cons, List.filter_cons]
    by_cases h : p r = true
    · simp only [h, if_true, List.map_cons, ih]
    · simp only [h, if_false, ih]; simp
/-- a list of rows, by its address -/
theorem Rp.rows_at (h : Rp M H (.ref p) (rowsD rs)) (m : ¬ M' p) : Rp M' H (.ref p) (rowsD rs) := by
  obtain ⟨a, xs, e, _, ha, r⟩ := Rp.lst_inv (ds := rs.map rowD) h
  cases e
  rw [rows_map] at r
  have r' : RpA M' H xs ((rs.map rowL).map tupD) := r.tups
  rw [← rows_map] at r'
  exact .lstA m ha r'
end
end Sb

set_option Elab.async false
set_option maxRecDepth 100000
set_option maxHeartbeats 4000000
set_option linter.all false
/-! Shelves: what meets, in plain Lean. -/
namespace Sb
open PySem L2 PyProof.Rows
theorem joinM_getD {a b : List Int} (e : a.length = b.length) {i : Nat} (hi : i < a.length) : (joinM a b).getD i 0 = max (a.getD i 0) (b.getD i 0) := by
  rw [List.getD_eq_getElem?_getD, joinM_get e hi]; rfl
theorem joinM_comm (a b : List Int) : joinM a b = joinM b a := by
  unfold joinM
  rw [List.zipWith_comm]
  congr 1
  funext x y
  exact Int.max_comm y x
theorem joinM_self : ∀ a : List Int, joinM a a = a
  | [] => rfl
  | x :: a => by
    show max x x :: joinM a a = x :: a
    rw [joinM_self a, Int.max_self]
theorem ext_getD {a b : List Int} (e : a.length = b.length) (h : ∀ i, i < a.length → a.getD i 0 = b.getD i 0) : a = b := by
  refine List.ext_getElem e fun i h1 h2 => ?_
  have := h i h1
  rwa [List.getD_eq_getElem?_getD, List.getD_eq_getElem?_getD, List.getElem?_eq_getElem h1, List.getElem?_eq_getElem h2] at this
theorem joinM_abs {a b : List Int} (e : a.length = b.length) : joinM (joinM a b) a = joinM a b := by
  have l := joinM_len e
  refine ext_getD (by rw [joinM_len (by omega)]) fun i hi => ?_
  rw [joinM_len (by omega)] at hi
  rw [joinM_getD (by omega) hi, joinM_getD e (by omega)]
  omega
theorem seen_join {a b : List Int} (e : a.length = b.length) {r : Row} (h0 : 0 ≤ r.1) (h : r.1 < a.length) : seen (joinM a b) r = (seen a r || seen b r) := by
  unfold seen
  rw [joinM_getD e (by omega)]
  generalize a.getD r.1.toNat 0 = x
  generalize b.getD r.1.toNat 0 = y
  rw [← Bool.decide_or]
  exact decide_eq_decide.mpr (by omega)
theorem mem_unseen {r : Row} {rs : List Row} {m : List Int} : r ∈ unseen rs m ↔ r ∈ rs ∧ seen m r = false := by
  unfold unseen
  rw [List.mem_filter]
  simp
/-- a shelf as it may be: of n keepers; its rows in order, none twice, all seen by its mark -/
structure WF (n : Nat) (s : Shelf) : Prop where
  len : s.1.length = n
  rin : Rin n s.2
  saw : ∀ r ∈ s.2, seen s.1 r = true
  srt : s.2.Pairwise rowLe
  nod : s.2.Nodup
theorem sort_same {rs : List Row} (h : rs.Pairwise rowLe) : sortR rs = rs := (sortR_uniq (List.Perm.refl _) h).symm
theorem sort_ext {rs qs : List Row} (h1 : rs.Nodup) (h2 : qs.Nodup) (h : ∀ r, r ∈ rs ↔ r ∈ qs) : sortR rs = sortR qs :=
  sortR_uniq ((sortR_perm rs).trans ((List.perm_ext_iff_of_nodup h1 h2).mpr h)) (sortR_srt rs)
theorem rows_ext {rs qs : List Row} (h1 : rs.Nodup) (h2 : qs.Nodup) (s1 : rs.Pairwise rowLe) (s2 : qs.Pairwise rowLe) (h : ∀ r, r ∈ rs ↔ r ∈ qs) : rs = qs := by
  rw [← sort_same s1, ← sort_same s2]
  exact sort_ext h1 h2 h
theorem sortR_nod {rs : List Row} (h : rs.Nodup) : (sortR rs).Nodup := (sortR_perm rs).nodup_iff.mpr h
theorem mem_metRows {s t : Shelf} {r : Row} : r ∈ metRows s t ↔ (r ∈ s.2 ∧ r ∈ t.2) ∨ (r ∈ s.2 ∧ seen t.1 r = false) ∨ (r ∈ t.2 ∧ seen s.1 r = false) := by
  unfold metRows
  rw [List.mem_append, List.mem_append, mem_unseen, mem_unseen, List.mem_filter, decide_eq_true_eq, or_assoc]
theorem metRows_nod {n : Nat} {s t : Shelf} (hs : WF n s) (ht : WF n t) : (metRows s t).Nodup := by
  unfold metRows
  refine List.nodup_append.mpr ⟨List.nodup_append.mpr ⟨hs.nod.filter _, hs.nod.filter _, fun a ha b hb e => ?_⟩, ht.nod.filter _, fun a ha b hb e => ?_⟩
  · subst e
    have h1 := (List.mem_filter.mp ha).2
    have h2 := (mem_unseen.mp hb).2
    have := ht.saw a (of_decide_eq_true h1)
    rw [h2] at this; cases this
  · subst e
    have h2 := mem_unseen.mp hb
    have h1 : a ∈ s.2 := by
      rcases List.mem_append.mp ha with h | h
      · exact (List.mem_filter.mp h).1
      · exact (mem_unseen.mp h).1
    have := hs.saw a h1
    rw [h2.2] at this; cases this
theorem WF.met {n : Nat} {s t : Shelf} (hs : WF n s) (ht : WF n t) : WF n (metS s t) := by
  have e : s.1.length = t.1.length := by rw [hs.len, ht.len]
  have hin : Rin n (metRows s t) := fun r hr => by
    rcases mem_metRows.mp hr with h | h | h
    · exact hs.rin r h.1
    · exact hs.rin r h.1
    · exact ht.rin r h.1
  refine ⟨by show (joinM s.1 t.1).length = n; rw [joinM_len e, hs.len], hin.sort, fun r hr => ?_, sortR_srt _, sortR_nod (metRows_nod hs ht)⟩
  have hr := mem_sortR.mp hr
  obtain ⟨h0, h1⟩ := hin r hr
  show seen (joinM s.1 t.1) r = true
  rw [seen_join e h0 (by rw [hs.len]; exact h1)]
  rcases mem_metRows.mp hr with h | h | h
  · rw [hs.saw r h.1]; rfl
  · rw [hs.saw r h.1]; rfl
  · rw [ht.saw r h.1, Bool.or_true]
theorem mem_met {s t : Shelf} {r : Row} : r ∈ (metS s t).2 ↔ (r ∈ s.2 ∧ r ∈ t.2) ∨ (r ∈ s.2 ∧ seen t.1 r = false) ∨ (r ∈ t.2 ∧ seen s.1 r = false) := mem_sortR.trans mem_metRows
theorem met_comm {n : Nat} {s t : Shelf} (hs : WF n s) (ht : WF n t) : metS s t = metS t s := by
  refine Prod.ext (joinM_comm _ _) ?_
  refine sort_ext (metRows_nod hs ht) (metRows_nod ht hs) fun r => ?_
  rw [mem_metRows, mem_metRows]
  constructor
  · rintro (⟨a, b⟩ | h | h)
    · exact .inl ⟨b, a⟩
    · exact .inr (.inr h)
    · exact .inr (.inl h)
  · rintro (⟨a, b⟩ | h | h)
    · exact .inl ⟨b, a⟩
    · exact .inr (.inr h)
    · exact .inr (.inl h)
/-- s lies in t: what t knows is what s knew, and more -/
structure Lies (s t : Shelf) : Prop where
  mark : joinM t.1 s.1 = t.1
  row : ∀ r ∈ t.2, seen s.1 r = true → r ∈ s.2
  saw : ∀ r ∈ s.2, seen t.1 r = true
theorem met_lies {n : Nat} {s t : Shelf} (hs : WF n s) (ht : WF n t) (h : Lies s t) : metS t s = t := by
  refine Prod.ext h.mark ?_
  refine rows_ext (sortR_nod (metRows_nod ht hs)) ht.nod (sortR_srt _) ht.srt fun r => ?_
  rw [mem_met]
  constructor
  · rintro (⟨a, _⟩ | ⟨a, _⟩ | ⟨a, b⟩)
    · exact a
    · exact a
    · rw [h.saw r a] at b; cases b
  · intro hr
    by_cases q : seen s.1 r = true
    · exact .inl ⟨hr, h.row r hr q⟩
    · exact .inr (.inl ⟨hr, by simpa using q⟩)
theorem lies_self {n : Nat} {s : Shelf} (hs : WF n s) : Lies s s := ⟨joinM_self _, fun _ h _ => h, hs.saw⟩
theorem lies_met {n : Nat} {s t : Shelf} (hs : WF n s) (ht : WF n t) : Lies s (metS s t) := by
  have e : s.1.length = t.1.length := by rw [hs.len, ht.len]
  refine ⟨joinM_abs e, fun r hr q => ?_, fun r hr => ?_⟩
  · rcases mem_met.mp hr with h | h | h
    · exact h.1
    · exact h.1
    · rw [h.2] at q; cases q
  · obtain ⟨h0, h1⟩ := hs.rin r hr
    show seen (joinM s.1 t.1) r = true
    rw [seen_join e h0 (by rw [hs.len]; exact h1), hs.saw r hr]; rfl
theorem met_self {n : Nat} {s : Shelf} (hs : WF n s) : metS s s = s := met_lies hs hs (lies_self hs)
theorem met_abs {n : Nat} {s t : Shelf} (hs : WF n s) (ht : WF n t) : metS (metS s t) s = metS s t := met_lies hs (hs.met ht) (lies_met hs ht)
theorem metRows_len {s t : Shelf} : (metRows s t).length ≤ s.2.length + s.2.length + t.2.length := by
  unfold metRows
  rw [List.length_append, List.length_append]
  have h1 := List.length_filter_le (fun r => decide (r ∈ t.2)) s.2
  have h2 := List.length_filter_le (fun r => !seen t.1 r) s.2
  have h3 := List.length_filter_le (fun r => !seen s.1 r) t.2
  unfold unseen
  omega
end Sb

namespace Sb
open PySem L2
def top (i : Nat) : Stmt := PySem.Challenge.pw_siblingshelf_k05_two_meet.main.body.getD i (.Pass ⟨0, 0, 0, 0⟩)
abbrev s_need_alike : Stmt := top 4
abbrev N_need_alike : List Str := ["one", "other"]
theorem sc_need_alike : FnScope N_need_alike ["one", "other"] (defScope s_need_alike) := ⟨rfl, rfl, rfl, by decide +kernel, rfl, by decide +kernel, by decide +kernel⟩
abbrev s_joined : Stmt := top 5
abbrev N_joined : List Str := ["one", "other", "keeper"]
theorem sc_joined : FnScope N_joined ["one", "other"] (defScope s_joined) := ⟨rfl, rfl, rfl, by decide +kernel, rfl, by decide +kernel, by decide +kernel⟩
abbrev s_has_seen : Stmt := top 6
abbrev N_has_seen : List Str := ["mark", "keeper", "number"]
theorem sc_has_seen : FnScope N_has_seen ["mark", "keeper", "number"] (defScope s_has_seen) := ⟨rfl, rfl, rfl, by decide +kernel, rfl, by decide +kernel, by decide +kernel⟩
abbrev s_unseen : Stmt := top 8
abbrev N_unseen : List Str := ["rows", "mark", "row"]
theorem sc_unseen : FnScope N_unseen ["rows", "mark"] (defScope s_unseen) := ⟨rfl, rfl, rfl, by decide +kernel, rfl, by decide +kernel, by decide +kernel⟩
abbrev s_met : Stmt := top 9
abbrev N_met : List Str := ["one", "other", "rows", "row"]
theorem sc_met : FnScope N_met ["one", "other"] (defScope s_met) := ⟨rfl, rfl, rfl, by decide +kernel, rfl, by decide +kernel, by decide +kernel⟩
abbrev s_l_cell_at : Stmt := top 11
abbrev N_l_cell_at : List Str := ["_law_script", "_law_k"]
theorem sc_l_cell_at : FnScope N_l_cell_at ["_law_script", "_law_k"] (defScope s_l_cell_at) := ⟨rfl, rfl, rfl, by decide +kernel, rfl, by decide +kernel, by decide +kernel⟩
abbrev s_l_value : Stmt := top 12
abbrev N_l_value : List Str := ["_law_cell"]
theorem sc_l_value : FnScope N_l_value ["_law_cell"] (defScope s_l_value) := ⟨rfl, rfl, rfl, by decide +kernel, rfl, by decide +kernel, by decide +kernel⟩
abbrev s_l_mark : Stmt := top 13
abbrev N_l_mark : List Str := ["_law_script", "_law_first", "_law_many", "_law_most", "_law_k"]
theorem sc_l_mark : FnScope N_l_mark ["_law_script", "_law_first", "_law_many"] (defScope s_l_mark) := ⟨rfl, rfl, rfl, by decide +kernel, rfl, by decide +kernel, by decide +kernel⟩
abbrev s_l_rows : Stmt := top 14
abbrev N_l_rows : List Str := ["_law_script", "_law_first", "_law_mark_here", "_law_rows_here", "_law_cell", "_law_keeper", "_law_one"]
theorem sc_l_rows : FnScope N_l_rows ["_law_script", "_law_first", "_law_mark_here"] (defScope s_l_rows) := ⟨rfl, rfl, rfl, by decide +kernel, rfl, by decide +kernel, by decide +kernel⟩
abbrev s_l_shelf : Stmt := top 15
abbrev N_l_shelf : List Str := ["_law_found", "_law_mark_here", "_law_rows_here", "_law_row", "_law_number"]
theorem sc_l_shelf : FnScope N_l_shelf ["_law_found", "_law_mark_here", "_law_rows_here"] (defScope s_l_shelf) := ⟨rfl, rfl, rfl, by decide +kernel, rfl, by decide +kernel, by decide +kernel⟩
abbrev s_law : Stmt := top 16
abbrev N_law : List Str := ["_law_script", "_law_many", "_law_mark_here", "_law_other", "_law_rows_here", "_law_more", "_law_due", "_law_top", "_law_handed", "_law_found", "_law_row", "_law_k"]
theorem sc_law : FnScope N_law ["_law_script"] (defScope s_law) := ⟨rfl, rfl, rfl, by decide +kernel, rfl, by decide +kernel, by decide +kernel⟩
structure Ad where
  C_ShelfError : Addr
  C_BadMark : Addr
  f_need_alike : Addr
  d_need_alike : FuncData
  f_joined : Addr
  d_joined : FuncData
  f_has_seen : Addr
  d_has_seen : FuncData
  f_unseen : Addr
  d_unseen : FuncData
  f_met : Addr
  d_met : FuncData
  f_l_cell_at : Addr
  d_l_cell_at : FuncData
  f_l_value : Addr
  d_l_value : FuncData
  f_l_mark : Addr
  d_l_mark : FuncData
  f_l_rows : Addr
  d_l_rows : FuncData
  f_l_shelf : Addr
  d_l_shelf : FuncData
  f_law : Addr
  d_law : FuncData
structure Txt (K : Frag) (mg : Str → Option Value) (a : Ad) : Prop where
  n_ValueError : mg "ValueError" = none
  n_bool : mg "bool" = none
  n_int : mg "int" = none
  n_isinstance : mg "isinstance" = none
  n_len : mg "len" = none
  n_list : mg "list" = none
  n_max : mg "max" = none
  n_range : mg "range" = none
  n_sorted : mg "sorted" = none
  n_tuple : mg "tuple" = none
  g_ShelfError : mg "ShelfError" = some (.ref a.C_ShelfError)
  x_ShelfError : PySem.W.excIn K a.C_ShelfError [.type "ValueError", .type "Exception", .type "BaseException", .type "object"] "ValueError.__new__" = true
  k_ShelfError : PySem.W.keepIn K (.ref a.C_ShelfError) = true
  b_ShelfError : PySem.W.subIn K (.ref a.C_ShelfError) (.type "BaseException") = some true
  t_ShelfError : PySem.W.typeIn K (.ref a.C_ShelfError) = some (.type "type")
  g_BadMark : mg "BadMark" = some (.ref a.C_BadMark)
  x_BadMark : PySem.W.excIn K a.C_BadMark [.type "ValueError", .type "Exception", .type "BaseException", .type "object"] "ValueError.__new__" = true
  k_BadMark : PySem.W.keepIn K (.ref a.C_BadMark) = true
  b_BadMark : PySem.W.subIn K (.ref a.C_BadMark) (.type "BaseException") = some true
  t_BadMark : PySem.W.typeIn K (.ref a.C_BadMark) = some (.type "type")
  F_need_alike : Fun K "need_alike" "need_alike" s_need_alike a.f_need_alike a.d_need_alike
  b_need_alike : Binds K a.d_need_alike ["one", "other"] []
  k_need_alike : PySem.W.keepIn K (.ref a.f_need_alike) = true
  g_need_alike : mg "need_alike" = some (.ref a.f_need_alike)
  F_joined : Fun K "joined" "joined" s_joined a.f_joined a.d_joined
  b_joined : Binds K a.d_joined ["one", "other"] []
  k_joined : PySem.W.keepIn K (.ref a.f_joined) = true
  g_joined : mg "joined" = some (.ref a.f_joined)
  F_has_seen : Fun K "has_seen" "has_seen" s_has_seen a.f_has_seen a.d_has_seen
  b_has_seen : Binds K a.d_has_seen ["mark", "keeper", "number"] []
  k_has_seen : PySem.W.keepIn K (.ref a.f_has_seen) = true
  g_has_seen : mg "has_seen" = some (.ref a.f_has_seen)
  F_unseen : Fun K "unseen" "unseen" s_unseen a.f_unseen a.d_unseen
  b_unseen : Binds K a.d_unseen ["rows", "mark"] []
  k_unseen : PySem.W.keepIn K (.ref a.f_unseen) = true
  g_unseen : mg "unseen" = some (.ref a.f_unseen)
  F_met : Fun K "met" "met" s_met a.f_met a.d_met
  b_met : Binds K a.d_met ["one", "other"] []
  k_met : PySem.W.keepIn K (.ref a.f_met) = true
  g_met : mg "met" = some (.ref a.f_met)
  F_l_cell_at : Fun K "_law_cell_at" "_law_cell_at" s_l_cell_at a.f_l_cell_at a.d_l_cell_at
  b_l_cell_at : Binds K a.d_l_cell_at ["_law_script", "_law_k"] []
  k_l_cell_at : PySem.W.keepIn K (.ref a.f_l_cell_at) = true
  g_l_cell_at : mg "_law_cell_at" = some (.ref a.f_l_cell_at)
  F_l_value : Fun K "_law_value" "_law_value" s_l_value a.f_l_value a.d_l_value
  b_l_value : Binds K a.d_l_value ["_law_cell"] []
  k_l_value : PySem.W.keepIn K (.ref a.f_l_value) = true
  g_l_value : mg "_law_value" = some (.ref a.f_l_value)
  F_l_mark : Fun K "_law_mark" "_law_mark" s_l_mark a.f_l_mark a.d_l_mark
  b_l_mark : Binds K a.d_l_mark ["_law_script", "_law_first", "_law_many"] []
  k_l_mark : PySem.W.keepIn K (.ref a.f_l_mark) = true
  g_l_mark : mg "_law_mark" = some (.ref a.f_l_mark)
  F_l_rows : Fun K "_law_rows" "_law_rows" s_l_rows a.f_l_rows a.d_l_rows
  b_l_rows : Binds K a.d_l_rows ["_law_script", "_law_first", "_law_mark_here"] []
  k_l_rows : PySem.W.keepIn K (.ref a.f_l_rows) = true
  g_l_rows : mg "_law_rows" = some (.ref a.f_l_rows)
  F_l_shelf : Fun K "_law_shelf" "_law_shelf" s_l_shelf a.f_l_shelf a.d_l_shelf
  b_l_shelf : Binds K a.d_l_shelf ["_law_found", "_law_mark_here", "_law_rows_here"] []
  k_l_shelf : PySem.W.keepIn K (.ref a.f_l_shelf) = true
  g_l_shelf : mg "_law_shelf" = some (.ref a.f_l_shelf)
  F_law : Fun K "law" "law" s_law a.f_law a.d_law
  b_law : Binds K a.d_law ["_law_script"] []
  k_law : PySem.W.keepIn K (.ref a.f_law) = true
  g_law : mg "law" = some (.ref a.f_law)
end Sb

namespace Sb
open PySem L2
/-! ### marks -/
def sp_need_alike (a : Ad) : Sp := fun vs H Q E => ∃ (M : Addr → Prop) (x y : V) (m n : List Int), vs = [x, y] ∧ Rp M H x (markD m) ∧ Rp M H y (markD n) ∧ (m.length = n.length → Q .non H) ∧ (m.length ≠ n.length → E (.ref a.C_BadMark) none H)
def sp_joined (a : Ad) : Sp := fun vs H Q E => ∃ (M : Addr → Prop) (x y : V) (m n : List Int), vs = [x, y] ∧ Rp M H x (markD m) ∧ Rp M H y (markD n) ∧ m.length ≤ 1000 ∧
  (m.length = n.length → ∀ v H', Same H H' → (∀ M, Rp M H' v (markD (joinM m n))) → Q v H') ∧ (m.length ≠ n.length → E (.ref a.C_BadMark) none H)
def sp_has_seen : Sp := fun vs H Q _ => ∃ (M : Addr → Prop) (x : V) (m : List Int) (k : Nat) (n : Int), vs = [x, .int k, .int n] ∧ Rp M H x (markD m) ∧ k < m.length ∧ Q (.bl (decide (n ≤ m.getD k 0))) H
section
variable {P : Program} {w : World} {K : Frag} {mg : Str → Option Value} {base : Heap} {a : Ad}
local macro_rules | `(tactic| walk_at "e1") => `(tactic| first
  | ((with_reducible refine' w_var ?wh ?_); (case wh => rfl))
  | with_reducible refine w_c ?_
  | with_reducible refine w_projn ?_
  | with_reducible refine w_projr ?_
  | with_reducible refine w_op ?_
  | with_reducible refine w_cons ?_
  | with_reducible refine w_nil ?_
  | with_reducible refine w_I0 ?_
  | ((with_reducible refine w_I ?wc ?_); (case wc => first | (show (0 : Int) < _; decide) | exact ⟨by decide, by decide⟩ | exact ⟨by decide, by decide, by decide⟩ | exact Or.inr ⟨by decide, by decide⟩ | exact Or.inl ⟨by decide, by decide⟩ | (show (0 : Int) < _; omega) | exact ⟨by omega, by omega⟩))
  | with_reducible refine w_bl ?_
  | with_reducible refine w_test ?_
  | with_reducible refine w_tB ?_
  | with_reducible refine w_set ?_
  | with_reducible refine w_ifS ?_
  | with_reducible refine w_if ?_
  | with_reducible refine w_or ?_
  | with_reducible refine w_and ?_
  | with_reducible refine w_not ?_
  | with_reducible refine w_orV ?_
  | with_reducible refine w_andV ?_
  | with_reducible refine w_notV ?_
  | with_reducible refine w_ret ?_
  | with_reducible refine w_retN ?_
  | with_reducible refine w_drop ?_
  | with_reducible refine w_next ?_
  | with_reducible refine w_un ?_
  | with_reducible refine w_CB ?_
  | with_reducible refine w_call ?_
  | with_reducible refine w_callS ?_
  | with_reducible refine w_gName ?_
  | with_reducible refine w_asg ?_
  | with_reducible refine w_tTup ?_
  | with_reducible refine w_tLst ?_
  | with_reducible refine w_lc ?_
  | with_reducible refine w_iRng1 ?_
  | with_reducible refine w_iRng2 ?_
  | with_reducible refine w_iList ?_
  | with_reducible refine w_iTup ?_
  | with_reducible refine w_for ?_
  | with_reducible refine w_chain ?_
  | with_reducible refine w_sl ?_
  | with_reducible refine w_part ?_
  | with_reducible refine w_nopart ?_
  | with_reducible refine w_exint ?_
  | with_reducible refine w_dput ?_
  | with_reducible refine w_gSub ?_
  | with_reducible refine w_bm ?_
  | with_reducible refine w_isiII ?_
  | with_reducible refine w_isiIB ?_
  | with_reducible refine w_isiBB ?_
  | with_reducible refine w_max ?_
  | ((with_reducible refine w_eq ?we ?_); (case we => rfl))
  | ((with_reducible refine w_ne ?we ?_); (case we => rfl)))
local macro_rules | `(tactic| walk_at "w1") => `(tactic| first | walk_at "e1" | with_reducible refine w_seq ?_)
local macro_rules | `(tactic| walk_at "e") => `(tactic| repeat walk_at "e1")
local macro_rules | `(tactic| walk_at "w") => `(tactic| repeat walk_at "w1")

theorem ok_need_alike (T : Txt K mg a) : FnOk P w K mg base (L2.CX P w) 1 a.f_need_alike a.d_need_alike ["one", "other"] (sp_need_alike a) := by
  refine T.F_need_alike.okX sc_need_alike (fun vs H Q E h => ?_) (fun cdv A outer s H vs Q E hr h => ?_)
  · obtain ⟨M, x, y, m, n, rfl, _⟩ := h; rfl
  · obtain ⟨M, x, y, m, n, rfl, hx, hy, k1, k2⟩ := h
    refine ⟨_, (pss_one (ps_if (pt_cmpR op_ne (pe_callB (r := rLen K) cl_len rfl T.n_len (by decide +kernel) (pa_cons (pv 0) pa_nil)) (pe_callB (r := rLen K) cl_len rfl T.n_len (by decide +kernel) (pa_cons (pv 1) pa_nil)) (nomark _)) (pss_one (ps_raise rfl (takes_of rfl rfl rfl rfl) (pmk_own PySem.F.excBase_ValueError T.x_BadMark T.g_BadMark T.k_BadMark (raises_own T.b_BadMark T.t_BadMark) rfl))) pss_nil)), ?_⟩
    walk_at "w"
    refine w_lenM hx ?_
    walk_at "w"
    refine w_lenM hy ?_
    walk_at "w"
    refine ite2 (fun h1 => ?_) (fun h1 => ?_)
    · exact k2 fun z => by simp [z] at h1
    · exact k1 (by simp at h1; omega)
theorem ok_joined (T : Txt K mg a) : FnOk P w K mg base (L2.CX P w) 2 a.f_joined a.d_joined ["one", "other"] (sp_joined a) := by
  refine T.F_joined.okX sc_joined (fun vs H Q E h => ?_) (fun cdv A outer s H vs Q E hr h => ?_)
  · obtain ⟨M, x, y, m, n, rfl, _⟩ := h; rfl
  · obtain ⟨M, x, y, m, n, rfl, hx, hy, hl, k1, k2⟩ := h
    refine ⟨_, (pss_cons (ps_expr (pe_call (ok_need_alike T) (hr.mono (by decide)) rfl T.g_need_alike T.k_need_alike T.b_need_alike .nil (passes_call (takes_of rfl rfl rfl rfl) (fun _ _ _ _ h => h)) (pa_cons (pv 0) (pa_cons (pv 1) pa_nil))))
  (pss_one (ps_ret (pe_callTy (r := rTup K) cl_tup rfl T.n_tuple (by decide +kernel) (pa_cons (pe_lc (own := [("keeper", 2)]) rfl sc_joined.nd (pi_range1 rfl T.n_range (pa_cons (pe_callB (r := rLen K) cl_len rfl T.n_len (by decide +kernel) (pa_cons (pv 0) pa_nil)) pa_nil)) (blkOk_by (own := [("keeper", 2)]) (N := N_joined) (sc := defScope s_joined) (by decide +kernel)) (fun _ _ _ _ _ => (pg_name (i := 2) sc_joined.nd rfl (by first | exact Or.inl rfl | exact Or.inr rfl))) (fun _ _ _ _ _ => pts_nil) (fun _ _ _ _ _ => (pe_callB (cl_max rfl) rfl T.n_max (by decide +kernel) (pa_cons (pe_ix (r := rIxT K) ix_tup (pv 0) (pv 2) (fun _ _ => rfl)) (pa_cons (pe_ix (r := rIxT K) ix_tup (pv 1) (pv 2) (fun _ _ => rfl)) pa_nil))))) pa_nil))))), ?_⟩
    walk_at "w"
    refine ⟨M, x, y, m, n, rfl, hx, hy, fun e => ?_, fun e => k2 e⟩
    walk_at "w"
    refine w_lenM hx ?_
    refine ⟨_, rfl, by omega, by omega, ?_⟩
    refine lcR _ (fun i => some (.int (max (m.getD i 0) (n.getD i 0)))) (fun _ => False) (fun _ _ z => z) (sz_small (by omega)) (fun i H2 M' Yes No hi s ex fr yes no => ?_) (fun D H' hD s r => ?_)
    · have hi : i < m.length := hi
      refine w_it0 rfl ?_
      walk_at "w"
      refine w_ixM i (hx.same s) (by omega) hi ?_
      walk_at "w"
      refine w_ixM i (hy.same s) (by omega) (by omega) ?_
      walk_at "w"
      exact yes _ H2 _ rfl (Same.refl _) (.int _)
    · refine w_tupleL r fun v H2 s2 r2 => ?_
      refine k1 e v H2 (Same.trans s s2) fun M => ?_
      rw [fm_join e] at r2
      exact Rp.mark r2
theorem ok_has_seen (T : Txt K mg a) : FnOk P w K mg base (L2.CX P w) 1 a.f_has_seen a.d_has_seen ["mark", "keeper", "number"] sp_has_seen := by
  refine T.F_has_seen.okX sc_has_seen (fun vs H Q E h => ?_) (fun cdv A outer s H vs Q E hr h => ?_)
  · obtain ⟨M, x, m, k, n, rfl, _⟩ := h; rfl
  · obtain ⟨M, x, m, k, n, rfl, hx, hk, q⟩ := h
    refine ⟨_, (pss_one (ps_ret (pe_cmpR op_le (pv 2) (pe_ix (r := rIxT K) ix_tup (pv 0) (pv 1) (fun _ _ => rfl)) (nomark _)))), ?_⟩
    walk_at "w"
    refine w_ixM k hx rfl hk ?_
    walk_at "w"
    exact q
end
end Sb

namespace Sb
open PySem L2
def cell (ns : List Int) (k : Nat) : Int := ns.getD k 0
def sp_cell (K : Frag) : Sp := fun vs H Q _ => ∃ (b : Addr) (ns : List Int) (k : Nat), vs = [.ref b, .int k] ∧ SqL K H b (ns.map V.int) ∧ Q (.int (cell ns k)) H
section
variable {P : Program} {w : World} {K : Frag} {mg : Str → Option Value} {base : Heap} {a : Ad}
local macro_rules | `(tactic| walk_at "e1") => `(tactic| first
  | ((with_reducible refine' w_var ?wh ?_); (case wh => rfl))
  | with_reducible refine w_c ?_
  | with_reducible refine w_projn ?_
  | with_reducible refine w_projr ?_
  | with_reducible refine w_op ?_
  | with_reducible refine w_cons ?_
  | with_reducible refine w_nil ?_
  | with_reducible refine w_I0 ?_
  | ((with_reducible refine w_I ?wc ?_); (case wc => first | (show (0 : Int) < _; decide) | exact ⟨by decide, by decide⟩ | exact ⟨by decide, by decide, by decide⟩ | exact Or.inr ⟨by decide, by decide⟩ | exact Or.inl ⟨by decide, by decide⟩ | (show (0 : Int) < _; omega) | exact ⟨by omega, by omega⟩))
  | with_reducible refine w_bl ?_
  | with_reducible refine w_test ?_
  | with_reducible refine w_tB ?_
  | with_reducible refine w_set ?_
  | with_reducible refine w_ifS ?_
  | with_reducible refine w_if ?_
  | with_reducible refine w_or ?_
  | with_reducible refine w_and ?_
  | with_reducible refine w_not ?_
  | with_reducible refine w_orV ?_
  | with_reducible refine w_andV ?_
  | with_reducible refine w_notV ?_
  | with_reducible refine w_ret ?_
  | with_reducible refine w_retN ?_
  | with_reducible refine w_drop ?_
  | with_reducible refine w_next ?_
  | with_reducible refine w_un ?_
  | with_reducible refine w_CB ?_
  | with_reducible refine w_call ?_
  | with_reducible refine w_callS ?_
  | with_reducible refine w_gName ?_
  | with_reducible refine w_asg ?_
  | with_reducible refine w_tTup ?_
  | with_reducible refine w_tLst ?_
  | with_reducible refine w_lc ?_
  | with_reducible refine w_iRng1 ?_
  | with_reducible refine w_iRng2 ?_
  | with_reducible refine w_iList ?_
  | with_reducible refine w_iTup ?_
  | with_reducible refine w_for ?_
  | with_reducible refine w_chain ?_
  | with_reducible refine w_sl ?_
  | with_reducible refine w_part ?_
  | with_reducible refine w_nopart ?_
  | with_reducible refine w_exint ?_
  | with_reducible refine w_dput ?_
  | with_reducible refine w_gSub ?_
  | with_reducible refine w_bm ?_
  | with_reducible refine w_isiII ?_
  | with_reducible refine w_isiIB ?_
  | with_reducible refine w_isiBB ?_
  | with_reducible refine w_max ?_
  | ((with_reducible refine w_eq ?we ?_); (case we => rfl))
  | ((with_reducible refine w_ne ?we ?_); (case we => rfl)))
local macro_rules | `(tactic| walk_at "w1") => `(tactic| first | walk_at "e1" | with_reducible refine w_seq ?_)
local macro_rules | `(tactic| walk_at "e") => `(tactic| repeat walk_at "e1")
local macro_rules | `(tactic| walk_at "w") => `(tactic| repeat walk_at "w1")

theorem ok_l_cell_at (T : Txt K mg a) : FnOk P w K mg base (L2.CX P w) 1 a.f_l_cell_at a.d_l_cell_at ["_law_script", "_law_k"] (sp_cell K) := by
  refine T.F_l_cell_at.okX sc_l_cell_at (fun vs H Q E h => ?_) (fun cdv A outer s H vs Q E hr h => ?_)
  · obtain ⟨b, ns, k, rfl, _⟩ := h; rfl
  · obtain ⟨b, ns, k, rfl, hs, q⟩ := h
    refine ⟨_, (pss_cons (ps_if (pt_cmpR op_lt (pv 1) (pe_callB (r := rLen K) cl_len rfl T.n_len (by decide +kernel) (pa_cons (pv 0) pa_nil)) (nomark _)) (pss_one (ps_ret (pe_ix (r := rIxL K) ix_list (pv 0) (pv 1) (fun _ _ => rfl)))) pss_nil)
  (pss_one (ps_ret pe_int))), ?_⟩
    walk_at "w"
    refine w_lenS hs ?_
    walk_at "w"
    rw [List.length_map]
    refine ite2 (fun h1 => ?_) (fun h1 => ?_)
    · have hk : k < ns.length := by have := of_decide_eq_true h1; omega
      walk_at "w"
      refine w_ixS k hs rfl (v := .int (cell ns k)) ?_ ?_
      · unfold cell
        rw [List.getElem?_map, List.getD_eq_getElem?_getD, List.getElem?_eq_getElem hk]; rfl
      · exact q
    · have hk : ¬ k < ns.length := fun z => h1 (decide_eq_true (by omega))
      walk_at "w"
      have e : cell ns k = 0 := by
        unfold cell
        rw [List.getD_eq_getElem?_getD, List.getElem?_eq_none (by omega)]; rfl
      rw [e] at q
      exact q
end
end Sb

namespace Sb
open PySem L2 PyProof.Rows
def sp_unseen : Sp := fun vs H Q _ => ∃ (M : Addr → Prop) (x y : V) (rs : List Row) (m : List Int), vs = [x, y] ∧ Fr M H ∧ Rp M H x (rowsD rs) ∧ Rp M H y (markD m) ∧ Rin m.length rs ∧ rs.length ≤ 10000 ∧
  ∀ p H', H p = none → Same H H' → Rp M H' (.ref p) (rowsD (unseen rs m)) → Q (.ref p) H'
section
variable {P : Program} {w : World} {K : Frag} {mg : Str → Option Value} {base : Heap} {a : Ad}
local macro_rules | `(tactic| walk_at "e1") => `(tactic| first
  | ((with_reducible refine' w_var ?wh ?_); (case wh => rfl))
  | with_reducible refine w_c ?_
  | with_reducible refine w_projn ?_
  | with_reducible refine w_projr ?_
  | with_reducible refine w_op ?_
  | with_reducible refine w_cons ?_
  | with_reducible refine w_nil ?_
  | with_reducible refine w_I0 ?_
  | ((with_reducible refine w_I ?wc ?_); (case wc => first | (show (0 : Int) < _; decide) | exact ⟨by decide, by decide⟩ | exact ⟨by decide, by decide, by decide⟩ | exact Or.inr ⟨by decide, by decide⟩ | exact Or.inl ⟨by decide, by decide⟩ | (show (0 : Int) < _; omega) | exact ⟨by omega, by omega⟩))
  | with_reducible refine w_bl ?_
  | with_reducible refine w_test ?_
  | with_reducible refine w_tB ?_
  | with_reducible refine w_set ?_
  | with_reducible refine w_ifS ?_
  | with_reducible refine w_if ?_
  | with_reducible refine w_or ?_
  | with_reducible refine w_and ?_
  | with_reducible refine w_not ?_
  | with_reducible refine w_orV ?_
  | with_reducible refine w_andV ?_
  | with_reducible refine w_notV ?_
  | with_reducible refine w_ret ?_
  | with_reducible refine w_retN ?_
  | with_reducible refine w_drop ?_
  | with_reducible refine w_next ?_
  | with_reducible refine w_un ?_
  | with_reducible refine w_CB ?_
  | with_reducible refine w_call ?_
  | with_reducible refine w_callS ?_
  | with_reducible refine w_gName ?_
  | with_reducible refine w_asg ?_
  | with_reducible refine w_tTup ?_
  | with_reducible refine w_tLst ?_
  | with_reducible refine w_lc ?_
  | with_reducible refine w_iRng1 ?_
  | with_reducible refine w_iRng2 ?_
  | with_reducible refine w_iList ?_
  | with_reducible refine w_iTup ?_
  | with_reducible refine w_for ?_
  | with_reducible refine w_chain ?_
  | with_reducible refine w_sl ?_
  | with_reducible refine w_part ?_
  | with_reducible refine w_nopart ?_
  | with_reducible refine w_exint ?_
  | with_reducible refine w_dput ?_
  | with_reducible refine w_gSub ?_
  | with_reducible refine w_bm ?_
  | with_reducible refine w_isiII ?_
  | with_reducible refine w_isiIB ?_
  | with_reducible refine w_isiBB ?_
  | with_reducible refine w_max ?_
  | ((with_reducible refine w_eq ?we ?_); (case we => rfl))
  | ((with_reducible refine w_ne ?we ?_); (case we => rfl)))
local macro_rules | `(tactic| walk_at "w1") => `(tactic| first | walk_at "e1" | with_reducible refine w_seq ?_)
local macro_rules | `(tactic| walk_at "e") => `(tactic| repeat walk_at "e1")
local macro_rules | `(tactic| walk_at "w") => `(tactic| repeat walk_at "w1")

theorem ok_unseen (T : Txt K mg a) : FnOk P w K mg base (L2.CX P w) 2 a.f_unseen a.d_unseen ["rows", "mark"] sp_unseen := by
  refine T.F_unseen.okX sc_unseen (fun vs H Q E h => ?_) (fun cdv A outer s H vs Q E hr h => ?_)
  · obtain ⟨M, x, y, rs, m, rfl, _⟩ := h; rfl
  · obtain ⟨M, x, y, rs, m, rfl, fr, hx, hy, hin, hl, q⟩ := h
    refine ⟨_, (pss_one (ps_ret (pe_lc (own := [("row", 2)]) rfl sc_unseen.nd (pi_list (pv 0)) (blkOk_by (own := [("row", 2)]) (N := N_unseen) (sc := defScope s_unseen) (by decide +kernel)) (fun _ _ _ _ _ => (pg_name (i := 2) sc_unseen.nd rfl (by first | exact Or.inl rfl | exact Or.inr rfl))) (fun _ _ _ _ _ => (pts_one (pt_not (pt_val (pe_call (ok_has_seen T) (hr.mono (by decide)) rfl T.g_has_seen T.k_has_seen T.b_has_seen .nil passL (pa_cons (pv 1) (pa_cons (pe_ix (r := rIxT K) ix_tup (pv 2) pe_int (fun _ _ => rfl)) (pa_cons (pe_ix (r := rIxT K) ix_tup (pv 2) pe_int (fun _ _ => rfl)) pa_nil)))))))) (fun _ _ _ _ _ => (pv 2))))), ?_⟩
    walk_at "w"
    obtain ⟨b, xs, rfl, hb, hxs, ra⟩ := Rp.lst_inv (ds := rs.map rowD) hx
    have hlen : xs.length = rs.length := by rw [ra.1, List.length_map]
    refine ⟨b, rfl, ⟨xs, SqL.of hxs⟩, ?_⟩
    refine lcL rs (fun r => if (!seen m r) = true then some (rowD r) else none) M fr (SqL.of hxs) hlen (sz_small (by omega)) (fun i x r H2 M' Yes No hx hr s ex fr yes no => ?_) (fun D H' hD s r => ?_)
    · have rx : Rp M' H2 x (rowD r) := (ra.2 i x (rowD r) hx (by rw [List.getElem?_map, hr]; rfl)).ext ex
      obtain ⟨k0, k1⟩ := hin r (List.mem_of_getElem? hr)
      refine w_it1 rfl ?_
      walk_at "w"
      refine w_row0 rx ?_
      walk_at "w"
      refine w_row1 rx ?_
      walk_at "w"
      refine ⟨M', _, m, r.1.toNat, r.2.1, by rw [Int.toNat_of_nonneg k0]; rfl, hy.ext ex, by omega, ?_⟩
      walk_at "w"
      by_cases hs : seen m r = true
      · rw [show decide (r.2.1 ≤ m.getD r.1.toNat 0) = true from hs]
        refine iteF ?_
        exact no H2 (by rw [hs]; rfl) (Same.refl _)
      · have hs : seen m r = false := by simpa using hs
        rw [show decide (r.2.1 ≤ m.getD r.1.toNat 0) = false from hs]
        refine iteT ?_
        walk_at "w"
        exact yes _ H2 _ (by rw [hs]; rfl) (Same.refl _) rx
    · rw [fm_filter] at r
      exact q D _ hD s r
end
end Sb

namespace Sb
open PySem L2 PyProof.Rows
def sp_met : Sp := fun vs H Q _ => ∃ (M : Addr → Prop) (n : Nat) (x y : V) (s t : Shelf), vs = [x, y] ∧ Fr M H ∧ Rp M H x (shelfD s) ∧ Rp M H y (shelfD t) ∧ s.1.length = n ∧ t.1.length = n ∧ n ≤ 9 ∧
  Rin n s.2 ∧ Rin n t.2 ∧ s.2.length ≤ 3000 ∧ t.2.length ≤ 3000 ∧ ∀ v' H', Same H H' → Rp (Old H) H' v' (shelfD (metS s t)) → Q v' H'
section
variable {P : Program} {w : World} {K : Frag} {mg : Str → Option Value} {base : Heap} {a : Ad}
local macro_rules | `(tactic| walk_at "e1") => `(tactic| first
  | ((with_reducible refine' w_var ?wh ?_); (case wh => rfl))
  | with_reducible refine w_c ?_
  | with_reducible refine w_projn ?_
  | with_reducible refine w_projr ?_
  | with_reducible refine w_op ?_
  | with_reducible refine w_cons ?_
  | with_reducible refine w_nil ?_
  | with_reducible refine w_I0 ?_
  | ((with_reducible refine w_I ?wc ?_); (case wc => first | (show (0 : Int) < _; decide) | exact ⟨by decide, by decide⟩ | exact ⟨by decide, by decide, by decide⟩ | exact Or.inr ⟨by decide, by decide⟩ | exact Or.inl ⟨by decide, by decide⟩ | (show (0 : Int) < _; omega) | exact ⟨by omega, by omega⟩))
  | with_reducible refine w_bl ?_
  | with_reducible refine w_test ?_
  | with_reducible refine w_tB ?_
  | with_reducible refine w_set ?_
  | with_reducible refine w_ifS ?_
  | with_reducible refine w_if ?_
  | with_reducible refine w_or ?_
  | with_reducible refine w_and ?_
  | with_reducible refine w_not ?_
  | with_reducible refine w_orV ?_
  | with_reducible refine w_andV ?_
  | with_reducible refine w_notV ?_
  | with_reducible refine w_ret ?_
  | with_reducible refine w_retN ?_
  | with_reducible refine w_drop ?_
  | with_reducible refine w_next ?_
  | with_reducible refine w_un ?_
  | with_reducible refine w_CB ?_
  | with_reducible refine w_call ?_
  | with_reducible refine w_callS ?_
  | with_reducible refine w_gName ?_
  | with_reducible refine w_asg ?_
  | with_reducible refine w_tTup ?_
  | with_reducible refine w_tLst ?_
  | with_reducible refine w_lc ?_
  | with_reducible refine w_iRng1 ?_
  | with_reducible refine w_iRng2 ?_
  | with_reducible refine w_iList ?_
  | with_reducible refine w_iTup ?_
  | with_reducible refine w_for ?_
  | with_reducible refine w_chain ?_
  | with_reducible refine w_sl ?_
  | with_reducible refine w_part ?_
  | with_reducible refine w_nopart ?_
  | with_reducible refine w_exint ?_
  | with_reducible refine w_dput ?_
  | with_reducible refine w_gSub ?_
  | with_reducible refine w_bm ?_
  | with_reducible refine w_isiII ?_
  | with_reducible refine w_isiIB ?_
  | with_reducible refine w_isiBB ?_
  | with_reducible refine w_max ?_
  | ((with_reducible refine w_eq ?we ?_); (case we => rfl))
  | ((with_reducible refine w_ne ?we ?_); (case we => rfl)))
local macro_rules | `(tactic| walk_at "w1") => `(tactic| first | walk_at "e1" | with_reducible refine w_seq ?_)
local macro_rules | `(tactic| walk_at "e") => `(tactic| repeat walk_at "e1")
local macro_rules | `(tactic| walk_at "w") => `(tactic| repeat walk_at "w1")

theorem ok_met (T : Txt K mg a) : FnOk P w K mg base (L2.CX P w) 3 a.f_met a.d_met ["one", "other"] sp_met := by
  refine T.F_met.okX sc_met (fun vs H Q E h => ?_) (fun cdv A outer s0 H vs Q E hr h => ?_)
  · obtain ⟨M, n, x, y, s, t, rfl, _⟩ := h; rfl
  · obtain ⟨M, n, x, y, s, t, rfl, fr, hx, hy, hs, ht, hn9, hsi, hti, hsl, htl, q⟩ := h
    have hu65 : (A.deeper (PyProof.Rows.envOfC "met" (defScope s_met) s0.heap.objs.size a.f_met cdv)).units + 65 < cLine := by
      have := hr.un; omega
    have fs := List.length_filter_le (fun r => decide (r ∈ t.2)) s.2
    have fu : (unseen s.2 t.1).length ≤ s.2.length := List.length_filter_le _ _
    have fv : (unseen t.2 s.1).length ≤ t.2.length := List.length_filter_le _ _
    refine ⟨_, (pss_cons (ps_setLc (i := 2) (own := [("row", 3)]) rfl sc_met.nd rfl rfl (sw_true rfl rfl rfl (by decide +kernel)) (pi_list (pe_ix (r := rIxT K) ix_tup (pv 0) pe_int (fun _ _ => rfl))) (blkOk_by (own := [("row", 3)]) (N := N_met) (sc := defScope s_met) (by decide +kernel)) (fun _ _ _ _ _ => (pg_name (i := 3) sc_met.nd rfl (by first | exact Or.inl rfl | exact Or.inr rfl))) (fun _ _ _ _ _ => (pts_one (pt_cmpR (r := rInD K) (op_inD hu65) (pv 3) (pe_ix (r := rIxT K) ix_tup (pv 1) pe_int (fun _ _ => rfl)) (by with_unfolding_all rfl)))) (fun _ _ _ _ _ => (pv 3)))
  (pss_cons (ps_set (i := 2) sc_met.nd rfl (Or.inl rfl) (pe_op op_cat (pe_op op_cat (pv 2) (pe_call (ok_unseen T) (hr.mono (by decide)) rfl T.g_unseen T.k_unseen T.b_unseen .nil passL (pa_cons (pe_ix (r := rIxT K) ix_tup (pv 0) pe_int (fun _ _ => rfl)) (pa_cons (pe_ix (r := rIxT K) ix_tup (pv 1) pe_int (fun _ _ => rfl)) pa_nil)))) (pe_call (ok_unseen T) (hr.mono (by decide)) rfl T.g_unseen T.k_unseen T.b_unseen .nil passL (pa_cons (pe_ix (r := rIxT K) ix_tup (pv 1) pe_int (fun _ _ => rfl)) (pa_cons (pe_ix (r := rIxT K) ix_tup (pv 0) pe_int (fun _ _ => rfl)) pa_nil)))))
  (pss_one (ps_ret (pe_tup (pa_cons (pe_call (ok_joined T) (hr.mono (by decide)) rfl T.g_joined T.k_joined T.b_joined .nil passL (pa_cons (pe_ix (r := rIxT K) ix_tup (pv 0) pe_int (fun _ _ => rfl)) (pa_cons (pe_ix (r := rIxT K) ix_tup (pv 1) pe_int (fun _ _ => rfl)) pa_nil))) (pa_cons (pe_callB (r := rSortedT K) cr_sortedT rfl T.n_sorted (by decide +kernel) (pa_cons (pv 2) pa_nil)) pa_nil))))))), ?_⟩
    walk_at "w"
    refine w_shelf1 hx fun v1 r1 => ?_
    obtain ⟨p1, xs, rfl, _, hxs, ra⟩ := Rp.lst_inv (ds := s.2.map rowD) r1
    have hlen : xs.length = s.2.length := by rw [ra.1, List.length_map]
    refine ⟨p1, rfl, ⟨xs, SqL.of hxs⟩, ?_⟩
    refine lcL s.2 (fun r => if decide (r ∈ t.2) = true then some (rowD r) else none) M fr (SqL.of hxs) hlen (sz_small (by omega)) (fun i x' r H2 M' Yes No hx' hr' s' ex fr' yes no => ?_) (fun D H3 hD s3 r3 => ?_)
    · have rx : Rp M' H2 x' (rowD r) := (ra.2 i x' (rowD r) hx' (by rw [List.getElem?_map, hr']; rfl)).ext ex
      refine w_it1 rfl ?_
      walk_at "w"
      refine w_shelf1 (hy.ext ex) fun v2 r2 => ?_
      refine w_inR rx r2 ?_
      walk_at "w"
      by_cases hm : r ∈ t.2
      · refine iteD hm ?_
        walk_at "w"
        exact yes _ H2 _ (by rw [decide_eq_true hm]; rfl) (Same.refl _) rx
      · refine iteDn hm ?_
        exact no H2 (by rw [decide_eq_false hm]; rfl) (Same.refl _)
    rw [fm_filter] at r3
    have fr3 := fr.same s3
    have hx3 := hx.same s3
    have hy3 := hy.same s3
    walk_at "w"
    refine w_shelf1 hx3 fun v4 r4 => ?_
    walk_at "w"
    refine w_shelf0 hy3 fun v5 r5 => ?_
    walk_at "w"
    refine ⟨M, _, _, _, _, rfl, fr3, r4, r5, by rw [ht]; exact hsi, by omega, fun p6 H6 n6 s6 r6 => ?_⟩
    -- rows + unseen(..)
    obtain ⟨_, ys, e, _, hys, ry⟩ := Rp.lst_inv (ds := (s.2.filter fun r => decide (r ∈ t.2)).map rowD) (r3.same s6)
    cases e
    obtain ⟨_, zs, e, _, hzs, rz⟩ := Rp.lst_inv (ds := (unseen s.2 t.1).map rowD) r6
    cases e
    have ly : ys.length = (s.2.filter fun r => decide (r ∈ t.2)).length := by rw [ry.1, List.length_map]
    have lz : zs.length = (unseen s.2 t.1).length := by rw [rz.1, List.length_map]
    refine ⟨_, _, ys, zs, rfl, rfl, hys, hzs, sz_small (by omega), fun p7 n7 => ?_⟩
    have s7 : Same H6 (upd H6 p7 (.lst (ys ++ zs))) := Same.new n7
    have r7 : RpA M (upd H6 p7 (.lst (ys ++ zs))) (ys ++ zs) ((s.2.filter (fun r => decide (r ∈ t.2)) ++ unseen s.2 t.1).map rowD) := by
      rw [List.map_append]
      exact (ry.same s7).append (rz.same s7)
    have h7 : upd H6 p7 (.lst (ys ++ zs)) p7 = some (.lst (ys ++ zs)) := upd_same
    generalize upd H6 p7 (.lst (ys ++ zs)) = H7 at s7 r7 h7
    have s37 := Same.trans s6 s7
    walk_at "w"
    refine w_shelf1 (hy3.same s37) fun v8 r8 => ?_
    walk_at "w"
    refine w_shelf0 (hx3.same s37) fun v9 r9 => ?_
    walk_at "w"
    refine ⟨M, _, _, _, _, rfl, fr3.same s37, r8, r9, by rw [hs]; exact hti, by omega, fun p10 H10 n10 s10 r10 => ?_⟩
    obtain ⟨_, ws, e, _, hws, rw'⟩ := Rp.lst_inv (ds := (unseen t.2 s.1).map rowD) r10
    cases e
    have lw : ws.length = (unseen t.2 s.1).length := by rw [rw'.1, List.length_map]
    refine ⟨_, _, ys ++ zs, ws, rfl, rfl, s10 _ _ h7, hws, sz_small (by rw [List.length_append]; omega), fun p11 n11 => ?_⟩
    have s11 : Same H10 (upd H10 p11 (.lst (ys ++ zs ++ ws))) := Same.new n11
    have s3t := Same.trans s37 (Same.trans s10 s11)
    have r11 : Rp M (upd H10 p11 (.lst (ys ++ zs ++ ws))) (.ref p11) (rowsD (metRows s t)) := by
      refine .lstA ((fr3.same (Same.trans s37 s10)) p11 n11) upd_same ?_
      unfold metRows
      rw [List.map_append]
      exact ((r7.same s10).same s11).append (rw'.same s11)
    generalize upd H10 p11 (.lst (ys ++ zs ++ ws)) = H11 at s3t r11
    walk_at "w"
    refine w_shelf0 (hx3.same s3t) fun v12 r12 => ?_
    walk_at "w"
    refine w_shelf0 (hy3.same s3t) fun v13 r13 => ?_
    walk_at "w"
    refine ⟨M, _, _, _, _, rfl, r12, r13, by omega, fun _ v14 H14 s14 r14 => ?_, fun z => absurd (by omega) z⟩
    walk_at "w"
    refine w_sortR ((fr3.same s3t).same s14) (r11.same s14) fun p15 H15 n15 s15 r15 => ?_
    have sall := Same.trans s3 (Same.trans s3t s14)
    walk_at "w"
    have hpair : RpA (Old H) H15 [v14, .ref p15] [markD (metS s t).1, rowsD (metS s t).2] :=
      Rp.shelf (s := metS s t) (Rp.mark ((r14 M).same s15)) (r15.rows_at fun z => z (sall.free n15))
    refine w_newT hpair (by show 2 ≤ sizeLine; decide) fun v16 H16 s16 r16 => ?_
    exact q v16 H16 (Same.trans sall (Same.trans s15 s16)) r16
end
end Sb

namespace Sb
open PySem L2 PyProof.Rows
def lvalue (c : Int) : Int := c % (2 * 10 ^ 60 - 1) - (10 ^ 60 - 1)
def rval (k n : Int) : Int := lvalue (48271 * (k + 9 * n) + n % 7)
def mosts : List Int := [5, 10 ^ 6]
def lmost (ns : List Int) : Int := mosts.getD (cell ns 0 / 9 % 2).toNat 0
def lmark (ns : List Int) (first many : Nat) : List Int := (List.range many).map fun k => cell ns (first + k) % lmost ns
theorem lmost_pos (ns : List Int) : 0 < lmost ns := by
  unfold lmost
  have h : (cell ns 0 / 9 % 2).toNat = 0 ∨ (cell ns 0 / 9 % 2).toNat = 1 := by omega
  rcases h with h | h <;> rw [h] <;> decide
theorem lmark_len (ns : List Int) (first many : Nat) : (lmark ns first many).length = many := by simp [lmark]
/-- rows as this law lays them: of puts that the mark has seen, one a put, its value told by it; in order -/
structure RowsOk (m : List Int) (rs : List Row) : Prop where
  rin : Rin m.length rs
  pos : ∀ r ∈ rs, 1 ≤ r.2.1
  saw : ∀ r ∈ rs, seen m r = true
  val : ∀ r ∈ rs, r.2.2 = rval r.1 r.2.1
  srt : rs.Pairwise rowLe
  nod : rs.Nodup
  few : rs.length ≤ 14
def sp_value : Sp := fun vs H Q _ => ∃ c : Int, vs = [.int c] ∧ Q (.int (lvalue c)) H
def sp_mark (K : Frag) : Sp := fun vs H Q _ => ∃ (b : Addr) (ns : List Int) (first many : Nat), vs = [.ref b, .int first, .int many] ∧ SqL K H b (ns.map V.int) ∧ many ≤ 9 ∧
  ∀ v H', Same H H' → (∀ M, Rp M H' v (markD (lmark ns first many))) → Q v H'
def sp_rows (K : Frag) : Sp := fun vs H Q _ => ∃ (b : Addr) (ns : List Int) (first : Nat) (M : Addr → Prop) (y : V) (m : List Int), vs = [.ref b, .int first, y] ∧ SqL K H b (ns.map V.int) ∧ Rp M H y (markD m) ∧ 1 ≤ m.length ∧ m.length ≤ 9 ∧
  ∀ v H' rs, Same H H' → Rp (Old H) H' v (rowsD rs) → RowsOk m rs → Q v H'
def sp_shelf : Sp := fun vs H Q _ => ∃ (M M' M'' : Addr → Prop) (x y z : V) (s : Shelf) (m : List Int) (rs : List Row), vs = [x, y, z] ∧ Rp M H x (shelfD s) ∧ Rp M' H y (markD m) ∧ Rp M'' H z (rowsD rs) ∧ s.2.length ≤ 10000 ∧
  ∀ H', Same H H' → Q (.bl (decide (s.1 = m ∧ s.2 = rs))) H'
theorem putK_keys {κ : Type} [DecidableEq κ] (kvs : List (κ × V)) (k : κ) (v : V) : (putK kvs k v).map (·.1) = kvs.map (·.1) ∨ (k ∉ kvs.map (·.1) ∧ (putK kvs k v).map (·.1) = kvs.map (·.1) ++ [k]) := by
  cases h : valV kvs k with
  | none => exact .inr ⟨valV_not h, by rw [putK_new v h, List.map_append]; rfl⟩
  | some x =>
    refine .inl ?_
    unfold putK
    rw [valV_any, h]
    simp only [Option.isSome_some, if_true, List.map_map]
    refine List.map_congr_left fun kv _ => ?_
    show (if kv.1 = k then (kv.1, v) else kv).1 = kv.1
    split <;> rfl
theorem cutV_few {xs : List V} {lo hi : Int} {f : Nat} (e : lo = (f : Int)) (h : hi ≤ lo + 14) (h0 : 0 ≤ hi) : (cutV xs (some lo) (some hi)).length ≤ 14 := by
  unfold cutV
  rw [List.length_take]
  obtain ⟨g, rfl⟩ : ∃ g : Nat, hi = (g : Int) := ⟨hi.toNat, by omega⟩
  subst e
  rw [HT.sIx_nat, HT.sIx_nat]
  omega
theorem cutV_mem {xs : List V} {lo hi : Option Int} {x : V} (h : x ∈ cutV xs lo hi) : x ∈ xs := List.mem_of_mem_drop (List.mem_of_mem_take h)
section
variable {P : Program} {w : World} {K : Frag} {mg : Str → Option Value} {base : Heap} {a : Ad}
local macro_rules | `(tactic| walk_at "e1") => `(tactic| first
  | ((with_reducible refine' w_var ?wh ?_); (case wh => rfl))
  | with_reducible refine w_c ?_
  | with_reducible refine w_projn ?_
  | with_reducible refine w_projr ?_
  | with_reducible refine w_op ?_
  | with_reducible refine w_cons ?_
  | with_reducible refine w_nil ?_
  | with_reducible refine w_I0 ?_
  | ((with_reducible refine w_I ?wc ?_); (case wc => first | (show (0 : Int) < _; decide) | exact ⟨by decide, by decide⟩ | exact ⟨by decide, by decide, by decide⟩ | exact Or.inr ⟨by decide, by decide⟩ | exact Or.inl ⟨by decide, by decide⟩ | (show (0 : Int) < _; omega) | exact ⟨by omega, by omega⟩))
  | with_reducible refine w_bl ?_
  | with_reducible refine w_test ?_
  | with_reducible refine w_tB ?_
  | with_reducible refine w_set ?_
  | with_reducible refine w_ifS ?_
  | with_reducible refine w_if ?_
  | with_reducible refine w_or ?_
  | with_reducible refine w_and ?_
  | with_reducible refine w_not ?_
  | with_reducible refine w_orV ?_
  | with_reducible refine w_andV ?_
  | with_reducible refine w_notV ?_
  | with_reducible refine w_ret ?_
  | with_reducible refine w_retN ?_
  | with_reducible refine w_drop ?_
  | with_reducible refine w_next ?_
  | with_reducible refine w_un ?_
  | with_reducible refine w_CB ?_
  | with_reducible refine w_call ?_
  | with_reducible refine w_callS ?_
  | with_reducible refine w_gName ?_
  | with_reducible refine w_asg ?_
  | with_reducible refine w_tTup ?_
  | with_reducible refine w_tLst ?_
  | with_reducible refine w_lc ?_
  | with_reducible refine w_iRng1 ?_
  | with_reducible refine w_iRng2 ?_
  | with_reducible refine w_iList ?_
  | with_reducible refine w_iTup ?_
  | with_reducible refine w_for ?_
  | with_reducible refine w_chain ?_
  | with_reducible refine w_sl ?_
  | with_reducible refine w_part ?_
  | with_reducible refine w_nopart ?_
  | with_reducible refine w_exint ?_
  | with_reducible refine w_dput ?_
  | with_reducible refine w_gSub ?_
  | with_reducible refine w_bm ?_
  | with_reducible refine w_isiII ?_
  | with_reducible refine w_isiIB ?_
  | with_reducible refine w_isiBB ?_
  | with_reducible refine w_max ?_
  | ((with_reducible refine w_eq ?we ?_); (case we => rfl))
  | ((with_reducible refine w_ne ?we ?_); (case we => rfl)))
local macro_rules | `(tactic| walk_at "w1") => `(tactic| first | walk_at "e1" | with_reducible refine w_seq ?_)
local macro_rules | `(tactic| walk_at "e") => `(tactic| repeat walk_at "e1")
local macro_rules | `(tactic| walk_at "w") => `(tactic| repeat walk_at "w1")

theorem ok_l_value (T : Txt K mg a) : FnOk P w K mg base (L2.CX P w) 1 a.f_l_value a.d_l_value ["_law_cell"] sp_value := by
  refine T.F_l_value.okX sc_l_value (fun vs H Q E h => ?_) (fun cdv A outer s H vs Q E hr h => ?_)
  · obtain ⟨c, rfl, _⟩ := h; rfl
  · obtain ⟨c, rfl, q⟩ := h
    refine ⟨_, (pss_one (ps_ret (pe_op op_sub (pe_op op_mod (pv 0) (pe_op op_sub (pe_op op_mul pe_int (pe_op op_pow pe_int pe_int)) pe_int)) (pe_op op_sub (pe_op op_pow pe_int pe_int) pe_int)))), ?_⟩
    walk_at "w"
    exact q
theorem ok_l_mark (T : Txt K mg a) : FnOk P w K mg base (L2.CX P w) 2 a.f_l_mark a.d_l_mark ["_law_script", "_law_first", "_law_many"] (sp_mark K) := by
  refine T.F_l_mark.okX sc_l_mark (fun vs H Q E h => ?_) (fun cdv A outer s H vs Q E hr h => ?_)
  · obtain ⟨b, ns, first, many, rfl, _⟩ := h; rfl
  · obtain ⟨b, ns, first, many, rfl, hs, hm, q⟩ := h
    refine ⟨_, (pss_cons (ps_set (i := 3) sc_l_mark.nd rfl (Or.inr rfl) (pe_ix (r := rIxL K) ix_list (pe_lst (pa_cons pe_int (pa_cons (pe_op op_pow pe_int pe_int) pa_nil))) (pe_op op_mod (pe_op op_fdiv (pe_call (ok_l_cell_at T) (hr.mono (by decide)) rfl T.g_l_cell_at T.k_l_cell_at T.b_l_cell_at .nil passL (pa_cons (pv 0) (pa_cons pe_int pa_nil))) pe_int) pe_int) (fun _ _ => rfl)))
  (pss_one (ps_ret (pe_callTy (r := rTup K) cl_tup rfl T.n_tuple (by decide +kernel) (pa_cons (pe_lc (own := [("_law_k", 4)]) rfl sc_l_mark.nd (pi_range1 rfl T.n_range (pa_cons (pv 2) pa_nil)) (blkOk_by (own := [("_law_k", 4)]) (N := N_l_mark) (sc := defScope s_l_mark) (by decide +kernel)) (fun _ _ _ _ _ => (pg_name (i := 4) sc_l_mark.nd rfl (by first | exact Or.inl rfl | exact Or.inr rfl))) (fun _ _ _ _ _ => pts_nil) (fun _ _ _ _ _ => (pe_op op_mod (pe_call (ok_l_cell_at T) (hr.mono (by decide)) rfl T.g_l_cell_at T.k_l_cell_at T.b_l_cell_at .nil passL (pa_cons (pv 0) (pa_cons (pe_op op_add (pv 1) (pv 4)) pa_nil))) (pv 3)))) pa_nil))))), ?_⟩
    walk_at "w"
    refine w_newL (M := fun _ => False) (ds := mosts.map PyData.int) (fun _ _ z => z) (RpA.ints (ns := mosts)) (by decide) fun v H1 s1 r1 => ?_
    walk_at "w"
    refine ⟨b, ns, 0, rfl, Same.seq s1 hs, ?_⟩
    walk_at "w"
    refine w_ixL (cell ns 0 / 9 % 2).toNat r1 (by omega) (d := .int (lmost ns)) ?_ fun v r => ?_
    · have h : (cell ns 0 / 9 % 2).toNat = 0 ∨ (cell ns 0 / 9 % 2).toNat = 1 := by omega
      unfold lmost
      rcases h with h | h <;> rw [h] <;> rfl
    obtain rfl := r.int_inv
    walk_at "w"
    refine ⟨_, rfl, by omega, by omega, ?_⟩
    refine lcR _ (fun i => some (.int (cell ns (first + i) % lmost ns))) (fun _ => False) (fun _ _ z => z) (sz_small (by omega)) (fun i H2 M' Yes No hi s ex fr yes no => ?_) (fun D H' hD s r => ?_)
    · refine w_it0 rfl ?_
      walk_at "w"
      refine ⟨b, ns, first + i, by simp, Same.seq s (Same.seq s1 hs), ?_⟩
      walk_at "w"
      refine w_I (lmost_pos ns) ?_
      exact yes _ H2 _ rfl (Same.refl _) (.int _)
    · refine w_tupleL r fun v H2 s2 r2 => ?_
      refine q v H2 (Same.trans s1 (Same.trans s s2)) fun M => ?_
      have e : (List.range ((many : Int)).toNat).filterMap (fun i => some (PyData.int (cell ns (first + i) % lmost ns))) = (lmark ns first many).map PyData.int := by
        rw [fm_some, lmark, List.map_map]; rfl
      rw [e] at r2
      exact Rp.mark r2
end
end Sb

namespace Sb
open PySem L2 PyProof.Rows
structure KeysOk (m : List Int) (ks : List (List Int)) : Prop where
  each : ∀ l ∈ ks, ∃ (k : Nat) (n : Int), l = [(k : Int), n] ∧ k < m.length ∧ 1 ≤ n ∧ n ≤ m.getD k 0
  nod : ks.Nodup
def rowOf (l : List Int) : Row := (l.getD 0 0, l.getD 1 0, rval (l.getD 0 0) (l.getD 1 0))
theorem lex_ne {a b : List Int} (h : HT.lexLt b a = false) (n : a ≠ b) : HT.lexLt a b = true := by
  cases e : HT.lexLt a b with
  | true => rfl
  | false => exact absurd (lex_anti a b e h) n
theorem rows_ok {m : List Int} {ks : List (List Int)} (h : KeysOk m ks) (hl : ks.length ≤ 14) : RowsOk m ((sortL ks).map rowOf) := by
  have hk : ∀ l ∈ sortL ks, ∃ (k : Nat) (n : Int), l = [(k : Int), n] ∧ k < m.length ∧ 1 ≤ n ∧ n ≤ m.getD k 0 := fun l hl => h.each l ((sortL_perm ks).mem_iff.mp hl)
  have hn : (sortL ks).Nodup := (sortL_perm ks).nodup_iff.mpr h.nod
  have hs : (sortL ks).Pairwise fun a b => HT.lexLt a b = true := ((sortL_srt ks).and hn).imp fun z => lex_ne z.1 z.2
  have hr : ((sortL ks).map rowOf).Pairwise fun a b => HT.lexLt (rowL a) (rowL b) = true := by
    refine List.pairwise_map.mpr (hs.imp_of_mem fun {a b} ha hb z => ?_)
    obtain ⟨k, n, rfl, _⟩ := hk a ha
    obtain ⟨k', n', rfl, _⟩ := hk b hb
    show HT.lexLt [(k : Int), n, _] [(k' : Int), n', _] = true
    rw [HT.lexLt_cons] at z ⊢
    by_cases e : (k : Int) = k'
    · rw [if_pos e] at z ⊢
      rw [HT.lexLt_cons] at z ⊢
      by_cases e' : n = n'
      · rw [if_pos e'] at z
        cases z
      · rw [if_neg e'] at z ⊢
        exact z
    · rw [if_neg e] at z ⊢
      exact z
  refine ⟨fun r hr => ?_, fun r hr => ?_, fun r hr => ?_, fun r hr => ?_, hr.imp fun z => lex_asym _ _ z, hr.imp fun {a b} z e => ?_, ?_⟩
  · obtain ⟨l, hl, rfl⟩ := List.mem_map.mp hr
    obtain ⟨k, n, rfl, h1, _⟩ := hk l hl
    show 0 ≤ (k : Int) ∧ (k : Int) < m.length
    omega
  · obtain ⟨l, hl, rfl⟩ := List.mem_map.mp hr
    obtain ⟨k, n, rfl, h1, h2, h3⟩ := hk l hl
    exact h2
  · obtain ⟨l, hl, rfl⟩ := List.mem_map.mp hr
    obtain ⟨k, n, rfl, h1, h2, h3⟩ := hk l hl
    show decide (n ≤ m.getD (k : Int).toNat 0) = true
    rw [Int.toNat_natCast]
    exact decide_eq_true h3
  · obtain ⟨l, hl, rfl⟩ := List.mem_map.mp hr
    rfl
  · subst e
    rw [lex_irr] at z
    cases z
  · rw [List.length_map, (sortL_perm ks).length_eq]; exact hl
section
variable {P : Program} {w : World} {K : Frag} {mg : Str → Option Value} {base : Heap} {a : Ad}
local macro_rules | `(tactic| walk_at "e1") => `(tactic| first
  | ((with_reducible refine' w_var ?wh ?_); (case wh => rfl))
  | with_reducible refine w_c ?_
  | with_reducible refine w_projn ?_
  | with_reducible refine w_projr ?_
  | with_reducible refine w_op ?_
  | with_reducible refine w_cons ?_
  | with_reducible refine w_nil ?_
  | with_reducible refine w_I0 ?_
  | ((with_reducible refine w_I ?wc ?_); (case wc => first | (show (0 : Int) < _; decide) | exact ⟨by decide, by decide⟩ | exact ⟨by decide, by decide, by decide⟩ | exact Or.inr ⟨by decide, by decide⟩ | exact Or.inl ⟨by decide, by decide⟩ | (show (0 : Int) < _; omega) | exact ⟨by omega, by omega⟩))
  | with_reducible refine w_bl ?_
  | with_reducible refine w_test ?_
  | with_reducible refine w_tB ?_
  | with_reducible refine w_set ?_
  | with_reducible refine w_ifS ?_
  | with_reducible refine w_if ?_
  | with_reducible refine w_or ?_
  | with_reducible refine w_and ?_
  | with_reducible refine w_not ?_
  | with_reducible refine w_orV ?_
  | with_reducible refine w_andV ?_
  | with_reducible refine w_notV ?_
  | with_reducible refine w_ret ?_
  | with_reducible refine w_retN ?_
  | with_reducible refine w_drop ?_
  | with_reducible refine w_next ?_
  | with_reducible refine w_un ?_
  | with_reducible refine w_CB ?_
  | with_reducible refine w_call ?_
  | with_reducible refine w_callS ?_
  | with_reducible refine w_gName ?_
  | with_reducible refine w_asg ?_
  | with_reducible refine w_tTup ?_
  | with_reducible refine w_tLst ?_
  | with_reducible refine w_lc ?_
  | with_reducible refine w_iRng1 ?_
  | with_reducible refine w_iRng2 ?_
  | with_reducible refine w_iList ?_
  | with_reducible refine w_iTup ?_
  | with_reducible refine w_for ?_
  | with_reducible refine w_chain ?_
  | with_reducible refine w_sl ?_
  | with_reducible refine w_part ?_
  | with_reducible refine w_nopart ?_
  | with_reducible refine w_exint ?_
  | with_reducible refine w_dput ?_
  | with_reducible refine w_gSub ?_
  | with_reducible refine w_bm ?_
  | with_reducible refine w_isiII ?_
  | with_reducible refine w_isiIB ?_
  | with_reducible refine w_isiBB ?_
  | with_reducible refine w_max ?_
  | ((with_reducible refine w_eq ?we ?_); (case we => rfl))
  | ((with_reducible refine w_ne ?we ?_); (case we => rfl)))
local macro_rules | `(tactic| walk_at "w1") => `(tactic| first | walk_at "e1" | with_reducible refine w_seq ?_)
local macro_rules | `(tactic| walk_at "e") => `(tactic| repeat walk_at "e1")
local macro_rules | `(tactic| walk_at "w") => `(tactic| repeat walk_at "w1")

theorem ok_l_rows (T : Txt K mg a) : FnOk P w K mg base (L2.CX P w) 2 a.f_l_rows a.d_l_rows ["_law_script", "_law_first", "_law_mark_here"] (sp_rows K) := by
  refine T.F_l_rows.okX sc_l_rows (fun vs H Q E h => ?_) (fun cdv A outer s H vs Q E hr h => ?_)
  · obtain ⟨b, ns, first, M, y, m, rfl, _⟩ := h; rfl
  · obtain ⟨b, ns, first, M, y, m, rfl, hs, hy, hm1, hm9, q⟩ := h
    have hu := hu_of hr
    refine ⟨_, (pss_cons (ps_set (i := 3) sc_l_rows.nd rfl (Or.inl rfl) pe_dnewT)
  (pss_cons (ps_for (passes_of rfl) rfl (pi_list (pe_slice (r := rSlL K) sl_list (pv 0) (po_some (pv 1)) (po_some (pe_op op_add (pv 1) pe_int)))) (pg_name (i := 4) sc_l_rows.nd rfl (by first | exact Or.inl rfl | exact Or.inr rfl))
  (pss_cons (ps_set (i := 5) sc_l_rows.nd rfl (Or.inl rfl) (pe_op op_mod (pv 4) (pe_callB (r := rLen K) cl_len rfl T.n_len (by decide +kernel) (pa_cons (pv 2) pa_nil))))
  (pss_one (ps_if (pt_cmpR op_gt (pe_ix (r := rIxT K) ix_tup (pv 2) (pv 5) (fun _ _ => rfl)) pe_int (nomark _)) (pss_one (ps_dput hu (pv 3) (pe_tup (pa_cons (pv 5) (pa_cons (pe_op op_add pe_int (pe_op op_mod (pe_op op_fdiv (pv 4) (pe_callB (r := rLen K) cl_len rfl T.n_len (by decide +kernel) (pa_cons (pv 2) pa_nil))) (pe_ix (r := rIxT K) ix_tup (pv 2) (pv 5) (fun _ _ => rfl)))) pa_nil))) pe_bl rfl)) pss_nil))))
  (pss_one (ps_ret (pe_lc (own := [("_law_one", 6)]) rfl sc_l_rows.nd (pi_list (pe_callB (r := rSortedDT) (cr_sortedDT rfl) rfl T.n_sorted (by decide +kernel) (pa_cons (pv 3) pa_nil))) (blkOk_by (own := [("_law_one", 6)]) (N := N_l_rows) (sc := defScope s_l_rows) (by decide +kernel)) (fun _ _ _ _ _ => (pg_name (i := 6) sc_l_rows.nd rfl (by first | exact Or.inl rfl | exact Or.inr rfl))) (fun _ _ _ _ _ => pts_nil) (fun _ _ _ _ _ => (pe_tup (pa_cons (pe_ix (r := rIxT K) ix_tup (pv 6) pe_int (fun _ _ => rfl)) (pa_cons (pe_ix (r := rIxT K) ix_tup (pv 6) pe_int (fun _ _ => rfl)) (pa_cons (pe_call (ok_l_value T) (hr.mono (by decide)) rfl T.g_l_value T.k_l_value T.b_l_value .nil passL (pa_cons (pe_op op_add (pe_op op_mul pe_int (pe_op op_add (pe_ix (r := rIxT K) ix_tup (pv 6) pe_int (fun _ _ => rfl)) (pe_op op_mul pe_int (pe_ix (r := rIxT K) ix_tup (pv 6) pe_int (fun _ _ => rfl))))) (pe_op op_mod (pe_ix (r := rIxT K) ix_tup (pv 6) pe_int (fun _ _ => rfl)) pe_int)) pa_nil)) pa_nil)))))))))), ?_⟩
    walk_at "w"
    intro d hd
    walk_at "w"
    have s1 : Same H (upd H d (.dT [])) := Same.new hd
    refine w_slL (Same.seq s1 hs) fun xs p exs np => ?_
    generalize eH2 : upd (upd H d (.dT [])) p (.lst xs) = H2
    have hpd : p ≠ d := fun z => by subst z; rw [upd_same] at np; cases np
    have s2 : Same H H2 := by rw [← eH2]; exact Same.trans s1 (Same.new np)
    have hp : H2 p = some (.lst xs) := by rw [← eH2]; exact upd_same
    have hd2 : H2 d = some (.dT []) := by rw [← eH2, upd_ne hpd.symm]; exact upd_same
    have hx14 : xs.length ≤ 14 := by rw [← exs]; exact cutV_few rfl (by omega) (by omega)
    have hxi : ∀ x ∈ xs, ∃ c, x = V.int c := fun x hx => by
      rw [← exs] at hx
      obtain ⟨c, _, rfl⟩ := List.mem_map.mp (cutV_mem hx)
      exact ⟨c, rfl⟩
    have hyM := hy.same s2
    refine ⟨p, rfl, ⟨xs, SqL.of hp⟩, ?_⟩
    refine for_list (K := K) (xs := xs) (fun i σ H' => (∃ v u, σ = [some (.ref b), some (.int first), some y, some (.ref d), v, u, none]) ∧ But d H2 H' ∧ ∃ kvs ks, H' d = some (.dT kvs) ∧ kvs.map (·.1) = ks.map (fun l => l.map Sum.inl) ∧ KeysOk m ks ∧ kvs.length ≤ i)
      ⟨⟨_, _, rfl⟩, fun _ _ _ e => e, [], [], hd2, rfl, ⟨fun _ z => (nomatch z), List.nodup_nil⟩, Nat.le_refl _⟩ (fun i σ H' _ ⟨_, b', _⟩ => SqL.of (b' p _ hpd hp)) ?_ ?_
    · rintro i x σ H' hx ⟨⟨v, u, rfl⟩, bt, kvs, ks, hk, hks, ko, hl⟩
      obtain ⟨c, rfl⟩ := hxi x (List.mem_of_getElem? hx)
      have hi : i < xs.length := (List.getElem?_eq_some_iff.mp hx).1
      have hyH : Rp M H' y (markD m) := hyM.ext (bt.ext fun xs => ⟨fun z => (by rw [hd2] at z; cases z), fun _ z => (by rw [hd2] at z; cases z)⟩)
      walk_at "w"
      refine w_lenM hyH ?_
      walk_at "w"
      obtain ⟨k, ek, hkm⟩ : ∃ k : Nat, c % (m.length : Int) = (k : Int) ∧ k < m.length := ⟨(c % (m.length : Int)).toNat, by
        have := Int.emod_nonneg c (show (m.length : Int) ≠ 0 by omega); omega, by
        have := Int.emod_nonneg c (show (m.length : Int) ≠ 0 by omega)
        have := Int.emod_lt_of_pos c (show (0 : Int) < m.length by omega)
        omega⟩
      rw [ek]
      refine w_ixM k hyH rfl hkm ?_
      walk_at "w"
      refine ite2 (fun h1 => ?_) (fun h1 => ?_)
      · have h1 := of_decide_eq_true h1
        walk_at "w"
        refine w_lenM hyH ?_
        walk_at "w"
        refine w_ixM k hyH rfl hkm ?_
        walk_at "w"
        refine ⟨by show 2 ≤ sizeLine; decide, fun t ht => ?_⟩
        have hdt : d ≠ t := fun z => by subst z; rw [hk] at ht; cases ht
        refine ⟨d, _, rfl, DPut.t (k := [Sum.inl (k : Int), Sum.inl _]) (by rw [upd_ne hdt]; exact hk) upd_same (Nat.lt_of_le_of_lt hl (sz_smallL (by omega))), ?_⟩
        walk_at "w"
        have bt2 : But d H2 (upd (upd H' t (.tup [V.int k, V.int (1 + c / (m.length : Int) % m.getD k 0)])) d (.dT (putK kvs [Sum.inl (k : Int), Sum.inl (1 + c / (m.length : Int) % m.getD k 0)] (V.bl true)))) :=
          But.trans bt (But.trans (But.same (Same.new ht)) (But.upd _))
        have hn1 := Int.emod_nonneg (c / (m.length : Int)) (show m.getD k 0 ≠ 0 by omega)
        have hn2 := Int.emod_lt_of_pos (c / (m.length : Int)) (show 0 < m.getD k 0 by omega)
        refine ⟨⟨_, _, rfl⟩, bt2, ?_⟩
        have hlen := length_putK kvs [Sum.inl (k : Int), Sum.inl (1 + c / (m.length : Int) % m.getD k 0)] (V.bl true)
        rcases putK_keys kvs ([Sum.inl (k : Int), Sum.inl (1 + c / (m.length : Int) % m.getD k 0)] : List Key) (V.bl true) with e | ⟨e0, e⟩
        · exact ⟨_, ks, upd_same, by rw [e, hks], ko, by omega⟩
        · refine ⟨_, ks ++ [[(k : Int), 1 + c / (m.length : Int) % m.getD k 0]], upd_same, by rw [e, hks, List.map_append]; rfl, ⟨fun l hl => ?_, ?_⟩, by omega⟩
          · rcases List.mem_append.mp hl with hl | hl
            · exact ko.each l hl
            · rw [List.mem_singleton] at hl
              subst hl
              exact ⟨k, _, rfl, hkm, by omega, by omega⟩
          · refine nd_snoc ko.nod fun z => e0 ?_
            rw [hks]
            exact List.mem_map.mpr ⟨_, z, rfl⟩
      · walk_at "w"
        exact ⟨⟨_, _, rfl⟩, bt, kvs, ks, hk, hks, ko, by omega⟩
    · rintro σ H' ⟨⟨v, u, rfl⟩, bt, kvs, ks, hk, hks, ko, hl⟩
      have s3 : Same H H' := fun a o e => bt a o (ne_of_none e hd) (s2 a o e)
      have hkl : ks.length ≤ 14 := by
        have := congrArg List.length hks
        rw [List.length_map, List.length_map] at this
        omega
      walk_at "w"
      refine ⟨d, kvs, ks, rfl, hk, hks, fun l hl => ?_, fun ys p2 np2 ra => ?_⟩
      · obtain ⟨k, n, rfl, _⟩ := ko.each l hl
        intro z; cases z
      walk_at "w"
      refine ⟨p2, rfl, ⟨ys, SqL.of upd_same⟩, ?_⟩
      have s4 : Same H (upd H' p2 (.lst ys)) := Same.trans s3 (Same.new np2)
      have ra := fun M => (ra M).same (Same.new (o := .lst ys) np2)
      refine lcL (sortL ks) (fun l => some (rowD (rowOf l))) (Old H) (fun a h z => z (s4.free h)) (SqL.of upd_same) (by have := (ra M).1; rw [List.length_map] at this; exact this) (sz_small (by rw [(sortL_perm ks).length_eq]; omega)) (fun i x l H3 M' Yes No hx hl s ex fr yes no => ?_) (fun D H3 hD s r => ?_)
      · have rx : Rp M' H3 x (tupD l) := ((ra M').2 i x (tupD l) hx (by rw [List.getElem?_map, hl]; rfl)).same s
        obtain ⟨k, n, rfl, _⟩ := ko.each l ((sortL_perm ks).mem_iff.mp (List.mem_of_getElem? hl))
        refine w_it0 rfl ?_
        walk_at "w"
        refine w_ixM (m := [(k : Int), n]) 0 rx rfl (by simp) ?_
        walk_at "w"
        refine w_ixM (m := [(k : Int), n]) 1 rx rfl (by simp) ?_
        walk_at "w"
        refine w_ixM (m := [(k : Int), n]) 0 rx rfl (by simp) ?_
        walk_at "w"
        refine w_ixM (m := [(k : Int), n]) 1 rx rfl (by simp) ?_
        walk_at "w"
        refine w_ixM (m := [(k : Int), n]) 1 rx rfl (by simp) ?_
        walk_at "w"
        refine ⟨_, rfl, ?_⟩
        walk_at "w"
        refine w_newT (M := M') (ds := (rowL (rowOf [(k : Int), n])).map PyData.int) (RpA.ints (ns := rowL (rowOf [(k : Int), n]))) (by show 3 ≤ sizeLine; decide) fun v H4 s4 r4 => ?_
        exact yes v H4 _ rfl s4 r4
      · walk_at "w"
        refine q _ H3 _ (Same.trans s4 s) ?_ (rows_ok ko hkl)
        have e : (sortL ks).filterMap (fun l => some (rowD (rowOf l))) = ((sortL ks).map rowOf).map rowD := by
          rw [List.filterMap_eq_map', List.map_map]; rfl
        rw [e] at r
        exact r
end
end Sb

namespace Sb
open PySem L2 PyProof.Rows
section
variable {P : Program} {w : World} {K : Frag} {mg : Str → Option Value} {base : Heap} {a : Ad}
local macro_rules | `(tactic| walk_at "e1") => `(tactic| first
  | ((with_reducible refine' w_var ?wh ?_); (case wh => rfl))
  | with_reducible refine w_c ?_
  | with_reducible refine w_projn ?_
  | with_reducible refine w_projr ?_
  | with_reducible refine w_op ?_
  | with_reducible refine w_cons ?_
  | with_reducible refine w_nil ?_
  | with_reducible refine w_I0 ?_
  | ((with_reducible refine w_I ?wc ?_); (case wc => first | (show (0 : Int) < _; decide) | exact ⟨by decide, by decide⟩ | exact ⟨by decide, by decide, by decide⟩ | exact Or.inr ⟨by decide, by decide⟩ | exact Or.inl ⟨by decide, by decide⟩ | (show (0 : Int) < _; omega) | exact ⟨by omega, by omega⟩))
  | with_reducible refine w_bl ?_
  | with_reducible refine w_test ?_
  | with_reducible refine w_tB ?_
  | with_reducible refine w_set ?_
  | with_reducible refine w_ifS ?_
  | with_reducible refine w_if ?_
  | with_reducible refine w_or ?_
  | with_reducible refine w_and ?_
  | with_reducible refine w_not ?_
  | with_reducible refine w_orV ?_
  | with_reducible refine w_andV ?_
  | with_reducible refine w_notV ?_
  | with_reducible refine w_ret ?_
  | with_reducible refine w_retN ?_
  | with_reducible refine w_drop ?_
  | with_reducible refine w_next ?_
  | with_reducible refine w_un ?_
  | with_reducible refine w_CB ?_
  | with_reducible refine w_call ?_
  | with_reducible refine w_callS ?_
  | with_reducible refine w_gName ?_
  | with_reducible refine w_asg ?_
  | with_reducible refine w_tTup ?_
  | with_reducible refine w_tLst ?_
  | with_reducible refine w_lc ?_
  | with_reducible refine w_iRng1 ?_
  | with_reducible refine w_iRng2 ?_
  | with_reducible refine w_iList ?_
  | with_reducible refine w_iTup ?_
  | with_reducible refine w_for ?_
  | with_reducible refine w_chain ?_
  | with_reducible refine w_sl ?_
  | with_reducible refine w_part ?_
  | with_reducible refine w_nopart ?_
  | with_reducible refine w_exint ?_
  | with_reducible refine w_dput ?_
  | with_reducible refine w_gSub ?_
  | with_reducible refine w_bm ?_
  | with_reducible refine w_isiII ?_
  | with_reducible refine w_isiIB ?_
  | with_reducible refine w_isiBB ?_
  | with_reducible refine w_max ?_
  | ((with_reducible refine w_eq ?we ?_); (case we => rfl))
  | ((with_reducible refine w_ne ?we ?_); (case we => rfl)))
local macro_rules | `(tactic| walk_at "w1") => `(tactic| first | walk_at "e1" | with_reducible refine w_seq ?_)
local macro_rules | `(tactic| walk_at "e") => `(tactic| repeat walk_at "e1")
local macro_rules | `(tactic| walk_at "w") => `(tactic| repeat walk_at "w1")

theorem ok_l_shelf (T : Txt K mg a) : FnOk P w K mg base (L2.CX P w) 1 a.f_l_shelf a.d_l_shelf ["_law_found", "_law_mark_here", "_law_rows_here"] sp_shelf := by
  refine T.F_l_shelf.okX sc_l_shelf (fun vs H Q E h => ?_) (fun cdv A outer s H vs Q E hr h => ?_)
  · obtain ⟨M, M', M'', x, y, z, s, m, rs, rfl, _⟩ := h; rfl
  · obtain ⟨M, M', M'', x, y, z, s, m, rs, rfl, hx, hy, hz, hl, q⟩ := h
    have hu64 := hr.units
    refine ⟨_, (pss_cons (ps_if (PW.pt (pw_or (pt_not (pt_val (pe_callB (r := rIsi K) call_isi rfl T.n_isinstance (by decide +kernel) (pa_cons (pv 0) (pa_cons (pe_bltn (v := .ty "tuple") (u := .type "tuple") rfl T.n_tuple (by decide +kernel) rfl) pa_nil))))) (pw_or (pt_cmpR op_ne (pe_callB (r := rLen K) cl_len rfl T.n_len (by decide +kernel) (pa_cons (pv 0) pa_nil)) pe_int (nomark _)) (pw_or1 (pt_not (pt_val (pe_callB (r := rIsi K) call_isi rfl T.n_isinstance (by decide +kernel) (pa_cons (pe_ix (r := rIxT K) ix_tup (pv 0) pe_int (fun _ _ => rfl)) (pa_cons (pe_bltn (v := .ty "tuple") (u := .type "tuple") rfl T.n_tuple (by decide +kernel) rfl) pa_nil))))))))) (pss_one (ps_ret pe_bl)) pss_nil)
  (pss_cons (ps_if (PW.pt (pw_or (pt_not (pt_val (pe_callB (r := rIsi K) call_isi rfl T.n_isinstance (by decide +kernel) (pa_cons (pe_ix (r := rIxT K) ix_tup (pv 0) pe_int (fun _ _ => rfl)) (pa_cons (pe_bltn (v := .ty "list") (u := .type "list") rfl T.n_list (by decide +kernel) rfl) pa_nil))))) (pw_or (pt_cmpR (r := rNeD K) (op_neD hu64) (pe_ix (r := rIxT K) ix_tup (pv 0) pe_int (fun _ _ => rfl)) (pv 1) (nomark _)) (pw_or1 (pt_cmpR (r := rNeD K) (op_neD hu64) (pe_ix (r := rIxT K) ix_tup (pv 0) pe_int (fun _ _ => rfl)) (pv 2) (nomark _)))))) (pss_one (ps_ret pe_bl)) pss_nil)
  (pss_cons (ps_for (passes_of rfl) rfl (pi_list (pe_op op_cat (pe_ix (r := rIxT K) ix_tup (pv 0) pe_int (fun _ _ => rfl)) (pe_lst (pa_cons (pe_ix (r := rIxT K) ix_tup (pv 0) pe_int (fun _ _ => rfl)) pa_nil)))) (pg_name (i := 3) sc_l_shelf.nd rfl (by first | exact Or.inl rfl | exact Or.inr rfl))
  (pss_cons (ps_if (pt_not (pt_val (pe_callB (r := rIsi K) call_isi rfl T.n_isinstance (by decide +kernel) (pa_cons (pv 3) (pa_cons (pe_bltn (v := .ty "tuple") (u := .type "tuple") rfl T.n_tuple (by decide +kernel) rfl) pa_nil))))) (pss_one (ps_ret pe_bl)) pss_nil)
  (pss_one (ps_for (passes_of rfl) rfl (pi_tup (pv 3)) (pg_name (i := 4) sc_l_shelf.nd rfl (by first | exact Or.inl rfl | exact Or.inr rfl))
  (pss_one (ps_if (PW.pt (pw_or (pt_not (pt_val (pe_callB (r := rIsi K) call_isi rfl T.n_isinstance (by decide +kernel) (pa_cons (pv 4) (pa_cons (pe_bltn (v := .ty "int") (u := .type "int") rfl T.n_int (by decide +kernel) rfl) pa_nil))))) (pw_or1 (pt_val (pe_callB (r := rIsi K) call_isi rfl T.n_isinstance (by decide +kernel) (pa_cons (pv 4) (pa_cons (pe_bltn (v := .ty "bool") (u := .type "bool") rfl T.n_bool (by decide +kernel) rfl) pa_nil))))))) (pss_one (ps_ret pe_bl)) pss_nil))))))
  (pss_one (ps_ret pe_bl))))), ?_⟩
    walk_at "w"
    refine w_isiTT hx ?_
    walk_at "w"
    refine iteF ?_
    walk_at "w"
    refine w_lenT hx ?_
    walk_at "w"
    refine iteNS rfl ?_
    walk_at "w"
    refine w_shelf0 hx fun v0 r0 => ?_
    walk_at "w"
    refine w_isiTT r0 ?_
    walk_at "w"
    refine iteF ?_
    walk_at "w"
    refine w_shelf1 hx fun v1 r1 => ?_
    walk_at "w"
    refine w_isiLL r1 ?_
    walk_at "w"
    refine iteF ?_
    walk_at "w"
    refine w_shelf0 hx fun v0 r0 => ?_
    walk_at "w"
    refine w_neM r0 hy ?_
    walk_at "w"
    by_cases e1 : s.1 = m
    · refine iteNS e1 ?_
      walk_at "w"
      refine w_shelf1 hx fun v1 r1 => ?_
      walk_at "w"
      refine w_neR r1 hz ?_
      walk_at "w"
      by_cases e2 : s.2 = rs
      · refine iteNS e2 ?_
        walk_at "w"
        refine w_shelf1 hx fun v1 r1 => ?_
        obtain ⟨l, xs, rfl, ml, hl1, ra⟩ := Rp.lst_inv (ds := s.2.map rowD) r1
        walk_at "w"
        refine w_shelf0 hx fun v0 r0 => ?_
        walk_at "w"
        refine ⟨by show 1 ≤ sizeLine; decide, fun b nb => ?_⟩
        have hlb : l ≠ b := ne_of_none hl1 nb
        have hlen : xs.length = s.2.length := by rw [ra.1, List.length_map]
        refine ⟨l, b, xs, [v0], rfl, rfl, by rw [upd_ne hlb]; exact hl1, upd_same, sz_small (by simp; omega), fun c nc => ?_⟩
        have s5 : Same H (upd (upd H b (.lst [v0])) c (.lst (xs ++ [v0]))) := Same.trans (Same.new nb) (Same.new nc)
        have rall : RpA M (upd (upd H b (.lst [v0])) c (.lst (xs ++ [v0]))) (xs ++ [v0]) ((s.2.map rowL ++ [s.1]).map tupD) := by
          rw [List.map_append, ← rows_map]
          exact (ra.same s5).snoc (r0.same s5)
        have hc : upd (upd H b (.lst [v0])) c (.lst (xs ++ [v0])) c = some (.lst (xs ++ [v0])) := upd_same
        generalize upd (upd H b (.lst [v0])) c (.lst (xs ++ [v0])) = H5 at s5 rall hc
        refine ⟨c, rfl, ⟨_, SqL.of hc⟩, ?_⟩
        refine for_list (K := K) (xs := xs ++ [v0]) (fun i σ H' => (∃ v u, σ = [some x, some y, some z, v, u]) ∧ H' = H5) ⟨⟨_, _, rfl⟩, rfl⟩ (fun i σ H' _ ⟨_, e⟩ => by rw [e]; exact SqL.of hc) ?_ ?_
        · rintro i x' σ H' hx' ⟨⟨v, u, rfl⟩, rfl⟩
          obtain ⟨d, hd, rd⟩ := rall.atx hx'
          rw [List.getElem?_map] at hd
          obtain ⟨l', e', rfl⟩ : ∃ l', (s.2.map rowL ++ [s.1])[i]? = some l' ∧ tupD l' = d := by
            cases e : (s.2.map rowL ++ [s.1])[i]? with
            | none => rw [e] at hd; cases hd
            | some l' => rw [e] at hd; exact ⟨l', rfl, Option.some.inj hd⟩
          obtain ⟨t, rfl, ht, _⟩ := rd.ktup
          walk_at "w"
          refine w_isiTT rd ?_
          walk_at "w"
          refine iteF ?_
          walk_at "w"
          refine ⟨t, rfl, ⟨_, SqT.of ht⟩, ?_⟩
          refine for_tup (K := K) (xs := l'.map V.int) (fun i σ H'' => (∃ v u, σ = [some x, some y, some z, v, u]) ∧ H'' = H') ⟨⟨_, _, rfl⟩, rfl⟩ (fun i σ H'' _ ⟨_, e⟩ => by rw [e]; exact SqT.of ht) ?_ ?_
          · rintro j x'' σ H'' hx'' ⟨⟨v', u', rfl⟩, rfl⟩
            rw [List.getElem?_map] at hx''
            obtain ⟨n, rfl⟩ : ∃ n, x'' = V.int n := by
              cases e : l'[j]? with
              | none => rw [e] at hx''; cases hx''
              | some n => rw [e] at hx''; exact ⟨n, (Option.some.inj hx'').symm⟩
            walk_at "w"
            refine iteF ?_
            walk_at "w"
            refine iteF ?_
            walk_at "w"
            exact ⟨⟨_, _, rfl⟩, rfl⟩
          · rintro σ H'' ⟨⟨v', u', rfl⟩, rfl⟩
            exact ⟨⟨_, _, rfl⟩, rfl⟩
        · rintro σ H' ⟨⟨v, u, rfl⟩, rfl⟩
          walk_at "w"
          have e : decide (s.1 = m ∧ s.2 = rs) = true := decide_eq_true ⟨e1, e2⟩
          rw [e] at q
          exact q _ s5
      · refine iteY (by simp [e2]) ?_
        walk_at "w"
        have e : decide (s.1 = m ∧ s.2 = rs) = false := decide_eq_false fun z => e2 z.2
        rw [e] at q
        exact q _ (Same.refl _)
    · refine iteY (by simp [e1]) ?_
      walk_at "w"
      have e : decide (s.1 = m ∧ s.2 = rs) = false := decide_eq_false fun z => e1 z.1
      rw [e] at q
      exact q _ (Same.refl _)
end
end Sb

namespace Sb
open PySem L2 PyProof.Rows
theorem RowsOk.wf {m : List Int} {rs : List Row} (h : RowsOk m rs) : WF m.length (m, rs) := ⟨rfl, h.rin, h.saw, h.srt, h.nod⟩
/-- the law's own list of what is due -/
def dueOf (s t : Shelf) : List Row := s.2.filter (fun r => decide (r ∈ t.2) || !seen t.1 r) ++ t.2.filter (fun r => !decide (r ∈ s.2) && !seen s.1 r)
theorem due_met {n : Nat} {s t : Shelf} (hs : WF n s) (ht : WF n t) : sortR (dueOf s t) = (metS s t).2 := by
  refine sort_ext ?_ (metRows_nod hs ht) fun r => ?_
  · unfold dueOf
    refine List.nodup_append.mpr ⟨hs.nod.filter _, ht.nod.filter _, fun a ha b hb e => ?_⟩
    subst e
    have h1 := (List.mem_filter.mp ha).1
    have h2 := (List.mem_filter.mp hb).2
    simp [h1] at h2
  · unfold dueOf
    rw [mem_metRows, List.mem_append, List.mem_filter, List.mem_filter]
    constructor
    · rintro (⟨a, h⟩ | ⟨a, h⟩)
      · rw [Bool.or_eq_true] at h
        rcases h with h | h
        · exact .inl ⟨a, of_decide_eq_true h⟩
        · exact .inr (.inl ⟨a, by simpa using h⟩)
      · rw [Bool.and_eq_true] at h
        exact .inr (.inr ⟨a, by simpa using h.2⟩)
    · rintro (⟨a, h⟩ | ⟨a, h⟩ | ⟨a, h⟩)
      · exact .inl ⟨a, by simp [h]⟩
      · exact .inl ⟨a, by simp [h]⟩
      · refine .inr ⟨a, ?_⟩
        have : r ∉ s.2 := fun z => by have := hs.saw r z; rw [h] at this; cases this
        simp [this, h]
theorem add_wf {m m' : List Int} {rs qs : List Row} (e : m.length = m'.length) (hs : WF m.length (m, rs)) (ht : WF m'.length (m', qs)) : WF m'.length (m', sortR (qs ++ rs.filter fun r => !decide (r ∈ qs) && seen m' r)) := by
  refine ⟨rfl, Rin.sort (ht.rin.app fun r hr => ?_), fun r hr => ?_, sortR_srt _, sortR_nod (List.nodup_append.mpr ⟨ht.nod, hs.nod.filter _, fun a ha b hb z => ?_⟩)⟩
  · rw [← e]; exact hs.rin r (List.mem_filter.mp hr).1
  · rcases List.mem_append.mp (mem_sortR.mp hr) with h | h
    · exact ht.saw r h
    · have := (List.mem_filter.mp h).2
      rw [Bool.and_eq_true] at this
      exact this.2
  · subst z
    have := (List.mem_filter.mp hb).2
    simp [ha] at this
section
variable {P : Program} {w : World} {K : Frag} {mg : Str → Option Value} {base : Heap} {a : Ad}
local macro_rules | `(tactic| walk_at "e1") => `(tactic| first
  | ((with_reducible refine' w_var ?wh ?_); (case wh => rfl))
  | with_reducible refine w_c ?_
  | with_reducible refine w_projn ?_
  | with_reducible refine w_projr ?_
  | with_reducible refine w_op ?_
  | with_reducible refine w_cons ?_
  | with_reducible refine w_nil ?_
  | with_reducible refine w_I0 ?_
  | ((with_reducible refine w_I ?wc ?_); (case wc => first | (show (0 : Int) < _; decide) | exact ⟨by decide, by decide⟩ | exact ⟨by decide, by decide, by decide⟩ | exact Or.inr ⟨by decide, by decide⟩ | exact Or.inl ⟨by decide, by decide⟩ | (show (0 : Int) < _; omega) | exact ⟨by omega, by omega⟩))
  | with_reducible refine w_bl ?_
  | with_reducible refine w_test ?_
  | with_reducible refine w_tB ?_
  | with_reducible refine w_set ?_
  | with_reducible refine w_ifS ?_
  | with_reducible refine w_if ?_
  | with_reducible refine w_or ?_
  | with_reducible refine w_and ?_
  | with_reducible refine w_not ?_
  | with_reducible refine w_orV ?_
  | with_reducible refine w_andV ?_
  | with_reducible refine w_notV ?_
  | with_reducible refine w_ret ?_
  | with_reducible refine w_retN ?_
  | with_reducible refine w_drop ?_
  | with_reducible refine w_next ?_
  | with_reducible refine w_un ?_
  | with_reducible refine w_CB ?_
  | with_reducible refine w_call ?_
  | with_reducible refine w_callS ?_
  | with_reducible refine w_gName ?_
  | with_reducible refine w_asg ?_
  | with_reducible refine w_tTup ?_
  | with_reducible refine w_tLst ?_
  | with_reducible refine w_lc ?_
  | with_reducible refine w_iRng1 ?_
  | with_reducible refine w_iRng2 ?_
  | with_reducible refine w_iList ?_
  | with_reducible refine w_iTup ?_
  | with_reducible refine w_for ?_
  | with_reducible refine w_chain ?_
  | with_reducible refine w_sl ?_
  | with_reducible refine w_part ?_
  | with_reducible refine w_nopart ?_
  | with_reducible refine w_exint ?_
  | with_reducible refine w_dput ?_
  | with_reducible refine w_gSub ?_
  | with_reducible refine w_bm ?_
  | with_reducible refine w_isiII ?_
  | with_reducible refine w_isiIB ?_
  | with_reducible refine w_isiBB ?_
  | with_reducible refine w_max ?_
  | ((with_reducible refine w_eq ?we ?_); (case we => rfl))
  | ((with_reducible refine w_ne ?we ?_); (case we => rfl)))
local macro_rules | `(tactic| walk_at "w1") => `(tactic| first | walk_at "e1" | with_reducible refine w_seq ?_)
local macro_rules | `(tactic| walk_at "e") => `(tactic| repeat walk_at "e1")
local macro_rules | `(tactic| walk_at "w") => `(tactic| repeat walk_at "w1")

theorem ok_law (T : Txt K mg a) : FnOk P w K mg base (L2.CX P w) 4 a.f_law a.d_law ["_law_script"] (sp_law K) := by
  refine T.F_law.okX sc_law (fun vs H Q E h => ?_) (fun cdv A outer s0 H vs Q E hr h => ?_)
  · obtain ⟨b, ns, rfl, _⟩ := h; rfl
  · obtain ⟨b, ns, rfl, hs, hl, q⟩ := h
    have hu65 : (A.deeper (PyProof.Rows.envOfC "law" (defScope s_law) s0.heap.objs.size a.f_law cdv)).units + 65 < cLine := by
      have := hr.un; omega
    refine ⟨_, (pss_cons (ps_set (i := 1) sc_law.nd rfl (Or.inl rfl) (pe_op op_add pe_int (pe_op op_mod (pe_call (ok_l_cell_at T) (hr.mono (by decide)) rfl T.g_l_cell_at T.k_l_cell_at T.b_l_cell_at .nil passL (pa_cons (pv 0) (pa_cons pe_int pa_nil))) pe_int)))
  (pss_cons (ps_set (i := 2) sc_law.nd rfl (Or.inr rfl) (pe_call (ok_l_mark T) (hr.mono (by decide)) rfl T.g_l_mark T.k_l_mark T.b_l_mark .nil passL (pa_cons (pv 0) (pa_cons pe_int (pa_cons (pv 1) pa_nil)))))
  (pss_cons (ps_set (i := 3) sc_law.nd rfl (Or.inr rfl) (pe_call (ok_l_mark T) (hr.mono (by decide)) rfl T.g_l_mark T.k_l_mark T.b_l_mark .nil passL (pa_cons (pv 0) (pa_cons pe_int (pa_cons (pv 1) pa_nil)))))
  (pss_cons (ps_if (pt_cmpR op_eq (pe_op op_mod (pe_call (ok_l_cell_at T) (hr.mono (by decide)) rfl T.g_l_cell_at T.k_l_cell_at T.b_l_cell_at .nil passL (pa_cons (pv 0) (pa_cons pe_int pa_nil))) pe_int) pe_int (nomark _)) (pss_one (ps_set (i := 3) sc_law.nd rfl (Or.inr rfl) (pe_callTy (r := rTup K) cl_tup rfl T.n_tuple (by decide +kernel) (pa_cons (pe_lc (own := [("_law_k", 11)]) rfl sc_law.nd (pi_range1 rfl T.n_range (pa_cons (pv 1) pa_nil)) (blkOk_by (own := [("_law_k", 11)]) (N := N_law) (sc := defScope s_law) (by decide +kernel)) (fun _ _ _ _ _ => (pg_name (i := 11) sc_law.nd rfl (by first | exact Or.inl rfl | exact Or.inr rfl))) (fun _ _ _ _ _ => pts_nil) (fun _ _ _ _ _ => (pe_op op_add (pe_ix (r := rIxT K) ix_tup (pv 2) (pv 11) (fun _ _ => rfl)) (pe_ix (r := rIxT K) ix_tup (pv 3) (pv 11) (fun _ _ => rfl))))) pa_nil)))) pss_nil)
  (pss_cons (ps_set (i := 4) sc_law.nd rfl (Or.inr rfl) (pe_call (ok_l_rows T) (hr.mono (by decide)) rfl T.g_l_rows T.k_l_rows T.b_l_rows .nil passL (pa_cons (pv 0) (pa_cons pe_int (pa_cons (pv 2) pa_nil)))))
  (pss_cons (ps_set (i := 5) sc_law.nd rfl (Or.inr rfl) (pe_call (ok_l_rows T) (hr.mono (by decide)) rfl T.g_l_rows T.k_l_rows T.b_l_rows .nil passL (pa_cons (pv 0) (pa_cons pe_int (pa_cons (pv 3) pa_nil)))))
  (pss_cons (ps_if (pt_cmpR op_eq (pe_op op_mod (pe_op op_fdiv (pe_call (ok_l_cell_at T) (hr.mono (by decide)) rfl T.g_l_cell_at T.k_l_cell_at T.b_l_cell_at .nil passL (pa_cons (pv 0) (pa_cons pe_int pa_nil))) pe_int) pe_int) pe_int (nomark _)) (pss_one (ps_set (i := 5) sc_law.nd rfl (Or.inr rfl) (pe_callB (r := rSortedT K) cr_sortedT rfl T.n_sorted (by decide +kernel) (pa_cons (pe_op op_cat (pv 5) (pe_lc (own := [("_law_row", 10)]) rfl sc_law.nd (pi_list (pv 4)) (blkOk_by (own := [("_law_row", 10)]) (N := N_law) (sc := defScope s_law) (by decide +kernel)) (fun _ _ _ _ _ => (pg_name (i := 10) sc_law.nd rfl (by first | exact Or.inl rfl | exact Or.inr rfl))) (fun _ _ _ _ _ => (pts_one (PW.pt (pw_and (pt_cmpR (r := rNotInD K) (op_notInD hu65) (pv 10) (pv 5) (by with_unfolding_all rfl)) (pw_and1 (pt_cmpR op_le (pe_ix (r := rIxT K) ix_tup (pv 10) pe_int (fun _ _ => rfl)) (pe_ix (r := rIxT K) ix_tup (pv 3) (pe_ix (r := rIxT K) ix_tup (pv 10) pe_int (fun _ _ => rfl)) (fun _ _ => rfl)) (nomark _))))))) (fun _ _ _ _ _ => (pv 10)))) pa_nil)))) pss_nil)
  (pss_cons (ps_setLc (i := 6) (own := [("_law_row", 10)]) rfl sc_law.nd rfl rfl (sw_true rfl rfl rfl (by decide +kernel)) (pi_list (pv 4)) (blkOk_by (own := [("_law_row", 10)]) (N := N_law) (sc := defScope s_law) (by decide +kernel)) (fun _ _ _ _ _ => (pg_name (i := 10) sc_law.nd rfl (by first | exact Or.inl rfl | exact Or.inr rfl))) (fun _ _ _ _ _ => (pts_one (PW.pt (pw_or (pt_cmpR (r := rInD K) (op_inD hu65) (pv 10) (pv 5) (by with_unfolding_all rfl)) (pw_or1 (pt_cmpR op_gt (pe_ix (r := rIxT K) ix_tup (pv 10) pe_int (fun _ _ => rfl)) (pe_ix (r := rIxT K) ix_tup (pv 3) (pe_ix (r := rIxT K) ix_tup (pv 10) pe_int (fun _ _ => rfl)) (fun _ _ => rfl)) (nomark _))))))) (fun _ _ _ _ _ => (pv 10)))
  (pss_cons (ps_set (i := 6) sc_law.nd rfl (Or.inl rfl) (pe_callB (r := rSortedT K) cr_sortedT rfl T.n_sorted (by decide +kernel) (pa_cons (pe_op op_cat (pv 6) (pe_lc (own := [("_law_row", 10)]) rfl sc_law.nd (pi_list (pv 5)) (blkOk_by (own := [("_law_row", 10)]) (N := N_law) (sc := defScope s_law) (by decide +kernel)) (fun _ _ _ _ _ => (pg_name (i := 10) sc_law.nd rfl (by first | exact Or.inl rfl | exact Or.inr rfl))) (fun _ _ _ _ _ => (pts_one (PW.pt (pw_and (pt_cmpR (r := rNotInD K) (op_notInD hu65) (pv 10) (pv 4) (by with_unfolding_all rfl)) (pw_and1 (pt_cmpR op_gt (pe_ix (r := rIxT K) ix_tup (pv 10) pe_int (fun _ _ => rfl)) (pe_ix (r := rIxT K) ix_tup (pv 2) (pe_ix (r := rIxT K) ix_tup (pv 10) pe_int (fun _ _ => rfl)) (fun _ _ => rfl)) (nomark _))))))) (fun _ _ _ _ _ => (pv 10)))) pa_nil)))
  (pss_cons (ps_set (i := 7) sc_law.nd rfl (Or.inl rfl) (pe_callTy (r := rTup K) cl_tup rfl T.n_tuple (by decide +kernel) (pa_cons (pe_lc (own := [("_law_k", 11)]) rfl sc_law.nd (pi_range1 rfl T.n_range (pa_cons (pv 1) pa_nil)) (blkOk_by (own := [("_law_k", 11)]) (N := N_law) (sc := defScope s_law) (by decide +kernel)) (fun _ _ _ _ _ => (pg_name (i := 11) sc_law.nd rfl (by first | exact Or.inl rfl | exact Or.inr rfl))) (fun _ _ _ _ _ => pts_nil) (fun _ _ _ _ _ => (pe_callB (cl_max rfl) rfl T.n_max (by decide +kernel) (pa_cons (pe_ix (r := rIxT K) ix_tup (pv 2) (pv 11) (fun _ _ => rfl)) (pa_cons (pe_ix (r := rIxT K) ix_tup (pv 3) (pv 11) (fun _ _ => rfl)) pa_nil))))) pa_nil)))
  (pss_cons (ps_set (i := 8) sc_law.nd rfl (Or.inl rfl) (pe_lst (pa_cons (pe_tup (pa_cons (pv 2) (pa_cons (pe_callTy (r := rLst K) cl_lst rfl T.n_list (by decide +kernel) (pa_cons (pv 4) pa_nil)) pa_nil))) (pa_cons (pe_tup (pa_cons (pv 3) (pa_cons (pe_callTy (r := rLst K) cl_lst rfl T.n_list (by decide +kernel) (pa_cons (pv 5) pa_nil)) pa_nil))) pa_nil))))
  (pss_cons (ps_set (i := 9) sc_law.nd rfl (Or.inl rfl) (pe_call (ok_met T) (hr.mono (by decide)) rfl T.g_met T.k_met T.b_met .nil passL (pa_cons (pe_ix (r := rIxL K) ix_list (pv 8) pe_int (fun _ _ => rfl)) (pa_cons (pe_ix (r := rIxL K) ix_list (pv 8) pe_int (fun _ _ => rfl)) pa_nil))))
  (pss_cons (ps_if (PW.pt (pw_or (pt_not (pt_val (pe_call (ok_l_shelf T) (hr.mono (by decide)) rfl T.g_l_shelf T.k_l_shelf T.b_l_shelf .nil passL (pa_cons (pv 9) (pa_cons (pv 7) (pa_cons (pv 6) pa_nil)))))) (pw_or1 (pt_not (pt_val (pe_call (ok_l_shelf T) (hr.mono (by decide)) rfl T.g_l_shelf T.k_l_shelf T.b_l_shelf .nil passL (pa_cons (pe_call (ok_met T) (hr.mono (by decide)) rfl T.g_met T.k_met T.b_met .nil passL (pa_cons (pe_ix (r := rIxL K) ix_list (pv 8) pe_int (fun _ _ => rfl)) (pa_cons (pe_ix (r := rIxL K) ix_list (pv 8) pe_int (fun _ _ => rfl)) pa_nil))) (pa_cons (pv 7) (pa_cons (pv 6) pa_nil))))))))) (pss_one (ps_ret pe_bl)) pss_nil)
  (pss_cons (ps_if (pt_not (pt_val (pe_call (ok_l_shelf T) (hr.mono (by decide)) rfl T.g_l_shelf T.k_l_shelf T.b_l_shelf .nil passL (pa_cons (pe_call (ok_met T) (hr.mono (by decide)) rfl T.g_met T.k_met T.b_met .nil passL (pa_cons (pe_ix (r := rIxL K) ix_list (pv 8) pe_int (fun _ _ => rfl)) (pa_cons (pe_ix (r := rIxL K) ix_list (pv 8) pe_int (fun _ _ => rfl)) pa_nil))) (pa_cons (pv 2) (pa_cons (pv 4) pa_nil)))))) (pss_one (ps_ret pe_bl)) pss_nil)
  (pss_cons (ps_if (PW.pt (pw_or (pt_not (pt_val (pe_call (ok_l_shelf T) (hr.mono (by decide)) rfl T.g_l_shelf T.k_l_shelf T.b_l_shelf .nil passL (pa_cons (pe_call (ok_met T) (hr.mono (by decide)) rfl T.g_met T.k_met T.b_met .nil passL (pa_cons (pv 9) (pa_cons (pe_ix (r := rIxL K) ix_list (pv 8) pe_int (fun _ _ => rfl)) pa_nil))) (pa_cons (pv 7) (pa_cons (pv 6) pa_nil)))))) (pw_or1 (pt_not (pt_val (pe_call (ok_l_shelf T) (hr.mono (by decide)) rfl T.g_l_shelf T.k_l_shelf T.b_l_shelf .nil passL (pa_cons (pe_call (ok_met T) (hr.mono (by decide)) rfl T.g_met T.k_met T.b_met .nil passL (pa_cons (pe_ix (r := rIxL K) ix_list (pv 8) pe_int (fun _ _ => rfl)) (pa_cons (pv 9) pa_nil))) (pa_cons (pv 7) (pa_cons (pv 6) pa_nil))))))))) (pss_one (ps_ret pe_bl)) pss_nil)
  (pss_cons (ps_expr (pe_bmK K rfl PySem.F.plainAttrs_list PySem.F.slot_list_append PySem.F.type_list_append mt_append (pe_ix (r := rIxT K) ix_tup (pv 9) pe_int (fun _ _ => rfl)) (pa_cons (pe_tup (pa_cons pe_int (pa_cons pe_int (pa_cons pe_int pa_nil)))) pa_nil)))
  (pss_one (ps_ret (pe_and (pe_call (ok_l_shelf T) (hr.mono (by decide)) rfl T.g_l_shelf T.k_l_shelf T.b_l_shelf .nil passL (pa_cons (pe_ix (r := rIxL K) ix_list (pv 8) pe_int (fun _ _ => rfl)) (pa_cons (pv 2) (pa_cons (pv 4) pa_nil)))) (pe_one (pe_call (ok_l_shelf T) (hr.mono (by decide)) rfl T.g_l_shelf T.k_l_shelf T.b_l_shelf .nil passL (pa_cons (pe_ix (r := rIxL K) ix_list (pv 8) pe_int (fun _ _ => rfl)) (pa_cons (pv 3) (pa_cons (pv 5) pa_nil)))))))))))))))))))))))), ?_⟩
    walk_at "w"
    refine ⟨b, ns, 0, rfl, hs, ?_⟩
    walk_at "w"
    obtain ⟨many, em, m1, m2⟩ : ∃ many : Nat, 1 + cell ns 0 % 9 = (many : Int) ∧ 1 ≤ many ∧ many ≤ 9 := ⟨(1 + cell ns 0 % 9).toNat, by omega, by omega, by omega⟩
    rw [em]
    refine ⟨b, ns, 2, many, rfl, hs, m2, fun v1 H1 s1 r1 => ?_⟩
    have hs1 := Same.seq s1 hs
    have l1 := lmark_len ns 2 many
    generalize lmark ns 2 many = m at r1 l1
    walk_at "w"
    refine ⟨b, ns, 11, many, rfl, hs1, m2, fun v2 H2 s2 r2 => ?_⟩
    have hs2 := Same.seq s2 hs1
    have l2 := lmark_len ns 11 many
    generalize lmark ns 11 many = m0 at r2 l2
    have r1 := fun M => (r1 M).same s2
    walk_at "e"
    refine w_cut (fun σ' H' => ∃ hv hm, σ' = [some (.ref b), some (.int many), some v1, some hv, none, none, none, none, none, none, none, none] ∧ Same H2 H' ∧ (∀ M, Rp M H' hv (markD hm)) ∧ hm.length = many) (fun N key => ?_) ?_
    · walk_at "w"
      refine ⟨b, ns, 1, rfl, hs2, ?_⟩
      walk_at "w"
      refine ite2 (fun _ => ?_) (fun _ => ?_)
      · walk_at "w"
        refine ⟨_, rfl, by omega, by omega, ?_⟩
        refine lcR _ (fun i => some (.int (m.getD i 0 + m0.getD i 0))) (fun _ => False) (fun _ _ z => z) (sz_small (by omega)) (fun i H2 M' Yes No hi s ex fr yes no => ?_) (fun D H' hD s r => ?_)
        · have hi : i < many := hi
          refine w_it0 rfl ?_
          walk_at "w"
          refine w_ixM i ((r1 M').same s) (by omega) (by omega) ?_
          walk_at "w"
          refine w_ixM i ((r2 M').same s) (by omega) (by omega) ?_
          walk_at "w"
          exact yes _ H2 _ rfl (Same.refl _) (.int _)
        · walk_at "w"
          refine w_tupleL r fun v H5 s5 r5 => ?_
          walk_at "w"
          refine key _ _ ⟨v, (List.range many).map fun i => m.getD i 0 + m0.getD i 0, rfl, Same.trans s s5, fun M => ?_, by simp⟩
          rw [fm_some] at r5
          have e : (List.range (many : Int).toNat).map (fun i => PyData.int (m.getD i 0 + m0.getD i 0)) = ((List.range many).map fun i => m.getD i 0 + m0.getD i 0).map PyData.int := by
            rw [List.map_map]; rfl
          rw [e] at r5
          exact Rp.mark r5
      · walk_at "w"
        exact key _ _ ⟨v2, m0, rfl, Same.refl _, r2, l2⟩
    clear r2
    rintro _ H3 ⟨v3, m3, rfl, s3, r3, l3⟩
    have hs3 := Same.seq s3 hs2
    have r1 := fun M => (r1 M).same s3
    walk_at "w"
    refine ⟨b, ns, 20, fun _ => False, v1, m, rfl, hs3, r1 _, by omega, by omega, fun v4 H4 rs s4 r4 ok4 => ?_⟩
    have hs4 := Same.seq s4 hs3
    have r1 := fun M => (r1 M).same s4
    have r3 := fun M => (r3 M).same s4
    have r4 : Rp (fun _ => False) H4 v4 (rowsD rs) := r4.ext (Ext.less fun _ z => z.elim)
    walk_at "w"
    refine ⟨b, ns, 32, fun _ => False, v3, m3, rfl, hs4, r3 _, by omega, by omega, fun v5 H5 qs0 s5 r5 ok5 => ?_⟩
    have hs5 := Same.seq s5 hs4
    have r1 := fun M => (r1 M).same s5
    have r3 := fun M => (r3 M).same s5
    have r4 := r4.same s5
    have r5 : Rp (fun _ => False) H5 v5 (rowsD qs0) := r5.ext (Ext.less fun _ z => z.elim)
    have wf4 := ok4.wf
    have wf5 := ok5.wf
    have few4 := ok4.few
    have few5 := ok5.few
    have in4 : Rin m3.length rs := fun r hr => by have := ok4.rin r hr; omega
    have in5 : Rin m.length qs0 := fun r hr => by have := ok5.rin r hr; omega
    obtain ⟨p4, xs, rfl, _, hxs, rx4⟩ := Rp.lst_inv (ds := rs.map rowD) r4
    have lx : xs.length = rs.length := by rw [rx4.1, List.length_map]
    walk_at "e"
    refine w_cut (fun σ' H' => ∃ p qs, σ' = [some (.ref b), some (.int many), some v1, some v3, some (.ref p4), some (.ref p), none, none, none, none, none, none] ∧ Same H5 H' ∧ Rp (fun _ => False) H' (.ref p) (rowsD qs) ∧ WF m3.length (m3, qs) ∧ qs.length ≤ 100) (fun N key => ?_) ?_
    · walk_at "w"
      refine ⟨b, ns, 1, rfl, hs5, ?_⟩
      walk_at "w"
      obtain ⟨p5, ys, rfl, _, hys, ry⟩ := Rp.lst_inv (ds := qs0.map rowD) r5
      have ly : ys.length = qs0.length := by rw [ry.1, List.length_map]
      refine ite2 (fun _ => ?_) (fun _ => ?_)
      · walk_at "w"
        refine ⟨p4, rfl, ⟨xs, SqL.of hxs⟩, ?_⟩
        refine lcL rs (fun r => if (!decide (r ∈ qs0) && seen m3 r) = true then some (rowD r) else none) (fun _ => False) (fun _ _ z => z) (SqL.of hxs) lx (sz_small (by omega)) (fun i x' r H2 M' Yes No hx' hr' s' ex fr' yes no => ?_) (fun D H6 hD s6 r6 => ?_)
        · have rx : Rp M' H2 x' (rowD r) := (rx4.2 i x' (rowD r) hx' (by rw [List.getElem?_map, hr']; rfl)).ext ex
          obtain ⟨k0, k1⟩ := in4 r (List.mem_of_getElem? hr')
          refine w_it1 rfl ?_
          walk_at "w"
          refine w_ninR rx (r5.ext ex) ?_
          walk_at "w"
          by_cases hm : r ∈ qs0
          · refine iteN (by simp [hm]) ?_
            refine iteF ?_
            exact no H2 (by simp [hm]) (Same.refl _)
          · refine iteY (by simp [hm]) ?_
            walk_at "w"
            refine w_row1 rx ?_
            walk_at "w"
            refine w_row0 rx ?_
            walk_at "w"
            refine w_ixM r.1.toNat ((r3 M').same s') (by omega) (by omega) ?_
            walk_at "w"
            by_cases hz : r.2.1 ≤ m3.getD r.1.toNat 0
            · refine iteD hz ?_
              walk_at "w"
              exact yes _ H2 _ (by rw [show seen m3 r = true from decide_eq_true hz]; simp [hm]) (Same.refl _) rx
            · refine iteDn hz ?_
              exact no H2 (by rw [show seen m3 r = false from decide_eq_false hz]; simp) (Same.refl _)
        rw [fm_filter] at r6
        obtain ⟨_, zs, e, _, hzs, rz⟩ := Rp.lst_inv (ds := (rs.filter fun r => !decide (r ∈ qs0) && seen m3 r).map rowD) r6
        cases e
        have lz : zs.length ≤ rs.length := by rw [rz.1, List.length_map]; exact List.length_filter_le _ _
        walk_at "w"
        refine ⟨p5, D, ys, zs, rfl, rfl, s6 _ _ hys, hzs, sz_small (by omega), fun p7 n7 => ?_⟩
        have s7 : Same H6 (upd H6 p7 (.lst (ys ++ zs))) := Same.new n7
        have r7 : Rp (fun _ => False) (upd H6 p7 (.lst (ys ++ zs))) (.ref p7) (rowsD (qs0 ++ rs.filter fun r => !decide (r ∈ qs0) && seen m3 r)) := by
          refine .lstA (fun z => z) upd_same ?_
          rw [List.map_append]
          exact ((ry.same s6).same s7).append (rz.same s7)
        generalize upd H6 p7 (.lst (ys ++ zs)) = H7 at s7 r7
        walk_at "w"
        refine w_sortR (fun _ _ z => z) r7 fun p8 H8 n8 s8 r8 => ?_
        walk_at "w"
        refine key _ _ ⟨p8, _, rfl, Same.trans s6 (Same.trans s7 s8), r8, add_wf (by omega) wf4 wf5, ?_⟩
        rw [sortR_len, List.length_append]
        have := List.length_filter_le (fun r => !decide (r ∈ qs0) && seen m3 r) rs
        omega
      · walk_at "w"
        exact key _ _ ⟨p5, qs0, rfl, Same.refl _, r5, wf5, by omega⟩
    clear wf5 in5 few5 ok5 r5
    rintro _ H6 ⟨p6, qs, rfl, s6, r6, wf6, few6⟩
    have r1 := fun M => (r1 M).same s6
    have r3 := fun M => (r3 M).same s6
    have r4 := r4.same s6
    have rx4 := rx4.same s6
    have hxs := s6 _ _ hxs
    have in6 : Rin m.length qs := fun r hr => by have := wf6.rin r hr; omega
    obtain ⟨_, ys, e, _, hys, ry⟩ := Rp.lst_inv (ds := qs.map rowD) r6
    cases e
    have ly : ys.length = qs.length := by rw [ry.1, List.length_map]
    walk_at "w"
    -- due
    refine ⟨p4, rfl, ⟨xs, SqL.of hxs⟩, ?_⟩
    refine lcL rs (fun r => if (decide (r ∈ qs) || !seen m3 r) = true then some (rowD r) else none) (fun _ => False) (fun _ _ z => z) (SqL.of hxs) lx (sz_small (by omega)) (fun i x' r H2 M' Yes No hx' hr' s' ex fr' yes no => ?_) (fun D7 H7 hD7 s7 r7 => ?_)
    · have rx : Rp M' H2 x' (rowD r) := (rx4.2 i x' (rowD r) hx' (by rw [List.getElem?_map, hr']; rfl)).ext ex
      obtain ⟨k0, k1⟩ := in4 r (List.mem_of_getElem? hr')
      refine w_it1 rfl ?_
      walk_at "w"
      refine w_inR rx (r6.ext ex) ?_
      walk_at "w"
      by_cases hm : r ∈ qs
      · refine iteD hm ?_
        refine iteT ?_
        walk_at "w"
        exact yes _ H2 _ (by simp [hm]) (Same.refl _) rx
      · refine iteDn hm ?_
        walk_at "w"
        refine w_row1 rx ?_
        walk_at "w"
        refine w_row0 rx ?_
        walk_at "w"
        refine w_ixM r.1.toNat ((r3 M').same s') (by omega) (by omega) ?_
        walk_at "w"
        by_cases hz : r.2.1 ≤ m3.getD r.1.toNat 0
        · refine iteDn (by omega) ?_
          exact no H2 (by rw [show seen m3 r = true from decide_eq_true hz]; simp [hm]) (Same.refl _)
        · refine iteD (by omega) ?_
          walk_at "w"
          exact yes _ H2 _ (by rw [show seen m3 r = false from decide_eq_false hz]; simp) (Same.refl _) rx
    rw [fm_filter] at r7
    have r1 := fun M => (r1 M).same s7
    have r3 := fun M => (r3 M).same s7
    have r4 := r4.same s7
    have r6 := r6.same s7
    have ry := ry.same s7
    have hys := s7 _ _ hys
    walk_at "w"
    refine ⟨p6, rfl, ⟨ys, SqL.of hys⟩, ?_⟩
    refine lcL qs (fun r => if (!decide (r ∈ rs) && !seen m r) = true then some (rowD r) else none) (fun _ => False) (fun _ _ z => z) (SqL.of hys) ly (sz_small (by omega)) (fun i x' r H2 M' Yes No hx' hr' s' ex fr' yes no => ?_) (fun D8 H8 hD8 s8 r8 => ?_)
    · have rx : Rp M' H2 x' (rowD r) := (ry.2 i x' (rowD r) hx' (by rw [List.getElem?_map, hr']; rfl)).ext ex
      obtain ⟨k0, k1⟩ := in6 r (List.mem_of_getElem? hr')
      refine w_it1 rfl ?_
      walk_at "w"
      refine w_ninR rx (r4.ext ex) ?_
      walk_at "w"
      by_cases hm : r ∈ rs
      · refine iteN (by simp [hm]) ?_
        refine iteF ?_
        exact no H2 (by simp [hm]) (Same.refl _)
      · refine iteY (by simp [hm]) ?_
        walk_at "w"
        refine w_row1 rx ?_
        walk_at "w"
        refine w_row0 rx ?_
        walk_at "w"
        refine w_ixM r.1.toNat ((r1 M').same s') (by omega) (by omega) ?_
        walk_at "w"
        by_cases hz : r.2.1 ≤ m.getD r.1.toNat 0
        · refine iteDn (by omega) ?_
          exact no H2 (by rw [show seen m r = true from decide_eq_true hz]; simp) (Same.refl _)
        · refine iteD (by omega) ?_
          walk_at "w"
          exact yes _ H2 _ (by rw [show seen m r = false from decide_eq_false hz]; simp [hm]) (Same.refl _) rx
    rw [fm_filter] at r8
    obtain ⟨_, us, e, _, hus, ru⟩ := Rp.lst_inv (ds := (rs.filter fun r => decide (r ∈ qs) || !seen m3 r).map rowD) (r7.same s8)
    cases e
    obtain ⟨_, ts, e, _, hts, rt⟩ := Rp.lst_inv (ds := (qs.filter fun r => !decide (r ∈ rs) && !seen m r).map rowD) r8
    cases e
    have lu : us.length ≤ rs.length := by rw [ru.1, List.length_map]; exact List.length_filter_le _ _
    have lt' : ts.length ≤ qs.length := by rw [rt.1, List.length_map]; exact List.length_filter_le _ _
    walk_at "w"
    refine ⟨D7, D8, us, ts, rfl, rfl, hus, hts, sz_small (by omega), fun p9 n9 => ?_⟩
    have s9 : Same H8 (upd H8 p9 (.lst (us ++ ts))) := Same.new n9
    have r9 : Rp (fun _ => False) (upd H8 p9 (.lst (us ++ ts))) (.ref p9) (rowsD (dueOf (m, rs) (m3, qs))) := by
      refine .lstA (fun z => z) upd_same ?_
      unfold dueOf
      rw [List.map_append]
      exact (ru.same s9).append (rt.same s9)
    generalize upd H8 p9 (.lst (us ++ ts)) = H9 at s9 r9
    walk_at "w"
    have wfs : WF many (m, rs) := by rw [← l1]; exact wf4
    have wft : WF many (m3, qs) := by rw [← l3]; exact wf6
    refine w_sortR (fun _ _ z => z) r9 fun p10 H10 n10 s10 r10 => ?_
    rw [due_met wfs wft] at r10
    have s810 := Same.trans s8 (Same.trans s9 s10)
    have r1 := fun M => (r1 M).same s810
    have r3 := fun M => (r3 M).same s810
    have r4 := r4.same s810
    have r6 := r6.same s810
    walk_at "w"
    refine ⟨_, rfl, by omega, by omega, ?_⟩
    refine lcR _ (fun i => some (.int (max (m.getD i 0) (m3.getD i 0)))) (fun _ => False) (fun _ _ z => z) (sz_small (by omega)) (fun i H2 M' Yes No hi s ex fr yes no => ?_) (fun D11 H11 hD11 s11 r11 => ?_)
    · have hi : i < many := hi
      refine w_it0 rfl ?_
      walk_at "w"
      refine w_ixM i ((r1 M').same s) (by omega) (by omega) ?_
      walk_at "w"
      refine w_ixM i ((r3 M').same s) (by omega) (by omega) ?_
      walk_at "w"
      exact yes _ H2 _ rfl (Same.refl _) (.int _)
    walk_at "w"
    refine w_tupleL r11 fun v12 H12 s12 r12 => ?_
    have fmj := fm_join (m := m) (n := m3) (by omega)
    rw [l1] at fmj
    rw [fmj] at r12
    have s1112 := Same.trans s11 s12
    have r1 := fun M => (r1 M).same s1112
    have r3 := fun M => (r3 M).same s1112
    have r4 := r4.same s1112
    have r6 := r6.same s1112
    have r10 := r10.same s1112
    have r12 : Rp (fun _ => False) H12 v12 (markD (metS (m, rs) (m3, qs)).1) := r12
    walk_at "w"
    -- handed
    refine w_listL (fun _ _ z => z) r4 fun v13 H13 s13 r13 => ?_
    walk_at "w"
    refine w_newT (Rp.shelf (s := (m, rs)) ((r1 _).same s13) r13) (by show 2 ≤ sizeLine; decide) fun v14 H14 s14 r14 => ?_
    have r14 : Rp (fun _ => False) H14 v14 (shelfD (m, rs)) := r14
    have s1314 := Same.trans s13 s14
    walk_at "w"
    refine w_listL (fun _ _ z => z) (r6.same s1314) fun v15 H15 s15 r15 => ?_
    walk_at "w"
    refine w_newT (Rp.shelf (s := (m3, qs)) (((r3 _).same s1314).same s15) r15) (by show 2 ≤ sizeLine; decide) fun v16 H16 s16 r16 => ?_
    have r16 : Rp (fun _ => False) H16 v16 (shelfD (m3, qs)) := r16
    have s1516 := Same.trans s15 s16
    walk_at "w"
    refine w_newL (fun _ _ z => z) ((RpA.nil.cons r16).cons (r14.same s1516)) (by show 2 ≤ sizeLine; decide) fun v17 H17 s17 r17 => ?_
    have s1217 := Same.trans s1314 (Same.trans s1516 s17)
    have r1 := fun M => (r1 M).same s1217
    have r3 := fun M => (r3 M).same s1217
    have r4 := r4.same s1217
    have r6 := r6.same s1217
    have r10 := r10.same s1217
    have r12 := r12.same s1217
    have met2 := met_comm wfs wft
    have wfu := wfs.met wft
    have lm1 : (m, rs).1.length = many := wfs.len
    have lm2 : (m3, qs).1.length = many := wft.len
    have fr1 : (m, rs).2.length ≤ 3000 := by show rs.length ≤ 3000; omega
    have fr2 : (m3, qs).2.length ≤ 3000 := by show qs.length ≤ 3000; omega
    have lrows := metRows_len (s := (m, rs)) (t := (m3, qs))
    have fr3 : (metS (m, rs) (m3, qs)).2.length ≤ 3000 := by
      show (sortR (metRows (m, rs) (m3, qs))).length ≤ 3000
      rw [sortR_len]
      have a1 : (m, rs).2.length ≤ 14 := few4
      have a2 : (m3, qs).2.length ≤ 100 := few6
      omega
    -- found = met(handed[0], handed[1])
    walk_at "w"
    refine w_ixL 0 r17 rfl (d := shelfD (m, rs)) rfl fun va ra => ?_
    walk_at "w"
    refine w_ixL 1 r17 rfl (d := shelfD (m3, qs)) rfl fun vb rb => ?_
    walk_at "w"
    refine ⟨fun _ => False, many, va, vb, (m, rs), (m3, qs), rfl, fun _ _ z => z, ra, rb, lm1, lm2, m2, wfs.rin, wft.rin, fr1, fr2, fun v18 H18 s18 r18 => ?_⟩
    generalize eu : metS (m, rs) (m3, qs) = u at r10 r12 r18 wfu fr3 met2
    have r10 := r10.same s18
    have r12 := r12.same s18
    have rf18 : Rp (fun _ => False) H18 v18 (shelfD u) := r18.ext (Ext.less fun _ z => z.elim)
    have r17' := r17.same s18
    have yes : ∀ {u' : Shelf}, decide (u'.1 = u'.1 ∧ u'.2 = u'.2) = true := fun {u'} => decide_eq_true ⟨rfl, rfl⟩
    have lu1 : u.1.length = many := wfu.len
    walk_at "w"
    refine ⟨_, _, _, _, _, _, u, u.1, u.2, rfl, rf18, r12, r10, by omega, fun H19 s19 => ?_⟩
    rw [yes]
    walk_at "w"
    refine iteF ?_
    walk_at "w"
    refine w_ixL 1 (r17'.same s19) rfl (d := shelfD (m3, qs)) rfl fun va ra => ?_
    walk_at "w"
    refine w_ixL 0 (r17'.same s19) rfl (d := shelfD (m, rs)) rfl fun vb rb => ?_
    walk_at "w"
    refine ⟨fun _ => False, many, va, vb, (m3, qs), (m, rs), rfl, fun _ _ z => z, ra, rb, lm2, lm1, m2, wft.rin, wfs.rin, fr2, fr1, fun v20 H20 s20 r20 => ?_⟩
    rw [← met2] at r20
    have s1820 := Same.trans s19 s20
    walk_at "w"
    refine ⟨_, _, _, _, _, _, u, u.1, u.2, rfl, r20, r12.same s1820, r10.same s1820, by omega, fun H21 s21 => ?_⟩
    rw [yes]
    walk_at "w"
    refine iteF ?_
    walk_at "w"
    have s1821 := Same.trans s1820 s21
    -- a shelf meets itself
    refine w_ixL 0 (r17'.same s1821) rfl (d := shelfD (m, rs)) rfl fun va ra => ?_
    walk_at "w"
    refine w_ixL 0 (r17'.same s1821) rfl (d := shelfD (m, rs)) rfl fun vb rb => ?_
    walk_at "w"
    refine ⟨fun _ => False, many, va, vb, (m, rs), (m, rs), rfl, fun _ _ z => z, ra, rb, lm1, lm1, m2, wfs.rin, wfs.rin, fr1, fr1, fun v22 H22 s22 r22 => ?_⟩
    rw [met_self wfs] at r22
    have s1822 := Same.trans s1821 s22
    have s1722 := Same.trans s18 s1822
    walk_at "w"
    refine ⟨_, _, _, _, _, _, (m, rs), m, rs, rfl, r22, (r1 fun _ => False).same s1722, r4.same s1722, by show rs.length ≤ 10000; omega, fun H23 s23 => ?_⟩
    rw [show decide ((m, rs).1 = m ∧ (m, rs).2 = rs) = true from decide_eq_true ⟨rfl, rfl⟩]
    walk_at "w"
    refine iteF ?_
    walk_at "w"
    have s1823 := Same.trans s1822 s23
    -- what they meet in meets either one in itself
    refine w_ixL 0 (r17'.same s1823) rfl (d := shelfD (m, rs)) rfl fun va ra => ?_
    walk_at "w"
    refine ⟨fun _ => False, many, v18, va, u, (m, rs), rfl, fun _ _ z => z, rf18.same s1823, ra, lu1, lm1, m2, wfu.rin, wfs.rin, fr3, fr1, fun v24 H24 s24 r24 => ?_⟩
    have eabs : metS u (m, rs) = u := by rw [← eu]; exact met_abs wfs wft
    rw [eabs] at r24
    have s1824 := Same.trans s1823 s24
    walk_at "w"
    refine ⟨_, _, _, _, _, _, u, u.1, u.2, rfl, r24, r12.same s1824, r10.same s1824, by omega, fun H25 s25 => ?_⟩
    rw [yes]
    walk_at "w"
    refine iteF ?_
    walk_at "w"
    have s1825 := Same.trans s1824 s25
    refine w_ixL 1 (r17'.same s1825) rfl (d := shelfD (m3, qs)) rfl fun va ra => ?_
    walk_at "w"
    refine ⟨fun _ => False, many, va, v18, (m3, qs), u, rfl, fun _ _ z => z, ra, rf18.same s1825, lm2, lu1, m2, wft.rin, wfu.rin, fr2, fr3, fun v26 H26 s26 r26 => ?_⟩
    have eabs2 : metS (m3, qs) u = u := by
      rw [met_comm wft wfu, ← eu, met_comm wfs wft]
      exact met_abs wft wfs
    rw [eabs2] at r26
    have s1826 := Same.trans s1825 s26
    walk_at "w"
    refine ⟨_, _, _, _, _, _, u, u.1, u.2, rfl, r26, r12.same s1826, r10.same s1826, by omega, fun H27 s27 => ?_⟩
    rw [yes]
    walk_at "w"
    refine iteF ?_
    walk_at "w"
    have s1827 := Same.trans s1826 s27
    -- what was told is changed
    refine w_shelf1 (r18.same s1827) fun v28 r28 => ?_
    obtain ⟨l, ks, rfl, ml, hks, rk⟩ := Rp.lst_inv (ds := u.2.map rowD) r28
    have lk : ks.length = u.2.length := by rw [rk.1, List.length_map]
    refine ⟨ty_lst (SqL.of hks), ?_⟩
    walk_at "w"
    refine ⟨by show 3 ≤ sizeLine; decide, fun t nt => ?_⟩
    have hlt : l ≠ t := ne_of_none hks nt
    refine ⟨l, ks, _, rfl, rfl, by rw [upd_ne hlt]; exact hks, sz_smallL (by omega), ?_⟩
    have nl : H17 l = none := Classical.byContradiction fun z => ml z
    have sf : Same H17 (upd (upd H27 t (.tup [V.int 0, V.int 1, V.int 0])) l (.lst (ks ++ [.ref t]))) := Same.mut (Same.trans (Same.trans s18 s1827) (Same.new nt)) nl
    generalize upd (upd H27 t (.tup [V.int 0, V.int 1, V.int 0])) l (.lst (ks ++ [.ref t])) = H28 at sf
    walk_at "w"
    refine w_ixL 0 (r17.same sf) rfl (d := shelfD (m, rs)) rfl fun va ra => ?_
    walk_at "w"
    refine ⟨_, _, _, _, _, _, (m, rs), m, rs, rfl, ra, (r1 fun _ => False).same sf, r4.same sf, by show rs.length ≤ 10000; omega, fun H29 s29 => ?_⟩
    rw [show decide ((m, rs).1 = m ∧ (m, rs).2 = rs) = true from decide_eq_true ⟨rfl, rfl⟩]
    walk_at "w"
    refine iteT ?_
    walk_at "w"
    have sg := Same.trans sf s29
    refine w_ixL 1 (r17.same sg) rfl (d := shelfD (m3, qs)) rfl fun vb rb => ?_
    walk_at "w"
    refine ⟨_, _, _, _, _, _, (m3, qs), m3, qs, rfl, rb, (r3 fun _ => False).same sg, r6.same sg, by show qs.length ≤ 10000; omega, fun H30 s30 => ?_⟩
    rw [show decide ((m3, qs).1 = m3 ∧ (m3, qs).2 = qs) = true from decide_eq_true ⟨rfl, rfl⟩]
    exact q _
end
end Sb

namespace Sb
open PySem L2
set_option maxHeartbeats 16000000
theorem all_mk {l : PySem.W.OpenLaw} {w : World} {K : Frag} {h : Heap} {mg : Str → Option Value} {fa : Addr} (X : K.In h) (G : h.Ns mainGlobals mg) (hfa : mg "law" = some (.ref fa))
    {C_ShelfError C_BadMark f_need_alike f_joined f_has_seen f_unseen f_met f_l_cell_at f_l_value f_l_mark f_l_rows f_l_shelf f_law : Addr}
    {od_need_alike an_need_alike od_joined an_joined od_has_seen an_has_seen od_unseen an_unseen od_met an_met od_l_cell_at an_l_cell_at od_l_value an_l_value od_l_mark an_l_mark od_l_rows an_l_rows od_l_shelf an_l_shelf od_law an_law : Option Addr}
    {sl_need_alike sl_joined sl_has_seen sl_unseen sl_met sl_l_cell_at sl_l_value sl_l_mark sl_l_rows sl_l_shelf sl_law : Array (Option Value)}
    {oc_need_alike kV_need_alike dc_need_alike pm_need_alike cd_need_alike ct_need_alike oc_joined kV_joined dc_joined pm_joined cd_joined ct_joined oc_has_seen kV_has_seen dc_has_seen pm_has_seen cd_has_seen ct_has_seen oc_unseen kV_unseen dc_unseen pm_unseen cd_unseen ct_unseen oc_met kV_met dc_met pm_met cd_met ct_met oc_l_cell_at kV_l_cell_at dc_l_cell_at pm_l_cell_at cd_l_cell_at ct_l_cell_at oc_l_value kV_l_value dc_l_value pm_l_value cd_l_value ct_l_value oc_l_mark kV_l_mark dc_l_mark pm_l_mark cd_l_mark ct_l_mark oc_l_rows kV_l_rows dc_l_rows pm_l_rows cd_l_rows ct_l_rows oc_l_shelf kV_l_shelf dc_l_shelf pm_l_shelf cd_l_shelf ct_l_shelf oc_law kV_law dc_law pm_law cd_law ct_law : Value}
    (z_ValueError : PySem.W.nsIn K mainGlobals "ValueError" = some none)
    (z_bool : PySem.W.nsIn K mainGlobals "bool" = some none)
    (z_int : PySem.W.nsIn K mainGlobals "int" = some none)
    (z_isinstance : PySem.W.nsIn K mainGlobals "isinstance" = some none)
    (z_len : PySem.W.nsIn K mainGlobals "len" = some none)
    (z_list : PySem.W.nsIn K mainGlobals "list" = some none)
    (z_max : PySem.W.nsIn K mainGlobals "max" = some none)
    (z_range : PySem.W.nsIn K mainGlobals "range" = some none)
    (z_sorted : PySem.W.nsIn K mainGlobals "sorted" = some none)
    (z_tuple : PySem.W.nsIn K mainGlobals "tuple" = some none)
    (a_ShelfError : PySem.W.nsIn K mainGlobals "ShelfError" = some (some (.ref C_ShelfError)))
    (x_ShelfError : PySem.W.excIn K C_ShelfError [.type "ValueError", .type "Exception", .type "BaseException", .type "object"] "ValueError.__new__" = true)
    (k_ShelfError : PySem.W.keepIn K (.ref C_ShelfError) = true)
    (b_ShelfError : PySem.W.subIn K (.ref C_ShelfError) (.type "BaseException") = some true)
    (t_ShelfError : PySem.W.typeIn K (.ref C_ShelfError) = some (.type "type"))
    (a_BadMark : PySem.W.nsIn K mainGlobals "BadMark" = some (some (.ref C_BadMark)))
    (x_BadMark : PySem.W.excIn K C_BadMark [.type "ValueError", .type "Exception", .type "BaseException", .type "object"] "ValueError.__new__" = true)
    (k_BadMark : PySem.W.keepIn K (.ref C_BadMark) = true)
    (b_BadMark : PySem.W.subIn K (.ref C_BadMark) (.type "BaseException") = some true)
    (t_BadMark : PySem.W.typeIn K (.ref C_BadMark) = some (.type "type"))
    (a_need_alike : PySem.W.nsIn K mainGlobals "need_alike" = some (some (.ref f_need_alike)))
    (l_need_alike : K.lookup f_need_alike = some ⟨oc_need_alike, od_need_alike, .func (PySem.W.fnOf "need_alike" "need_alike" (defArgs s_need_alike) (defBody s_need_alike) (defScope s_need_alike) .none kV_need_alike dc_need_alike pm_need_alike an_need_alike cd_need_alike ct_need_alike), sl_need_alike⟩)
    (c_need_alike : PySem.W.codeIn K cd_need_alike "need_alike" = true)
    (k_need_alike : PySem.W.keepIn K (.ref f_need_alike) = true)
    (a_joined : PySem.W.nsIn K mainGlobals "joined" = some (some (.ref f_joined)))
    (l_joined : K.lookup f_joined = some ⟨oc_joined, od_joined, .func (PySem.W.fnOf "joined" "joined" (defArgs s_joined) (defBody s_joined) (defScope s_joined) .none kV_joined dc_joined pm_joined an_joined cd_joined ct_joined), sl_joined⟩)
    (c_joined : PySem.W.codeIn K cd_joined "joined" = true)
    (k_joined : PySem.W.keepIn K (.ref f_joined) = true)
    (a_has_seen : PySem.W.nsIn K mainGlobals "has_seen" = some (some (.ref f_has_seen)))
    (l_has_seen : K.lookup f_has_seen = some ⟨oc_has_seen, od_has_seen, .func (PySem.W.fnOf "has_seen" "has_seen" (defArgs s_has_seen) (defBody s_has_seen) (defScope s_has_seen) .none kV_has_seen dc_has_seen pm_has_seen an_has_seen cd_has_seen ct_has_seen), sl_has_seen⟩)
    (c_has_seen : PySem.W.codeIn K cd_has_seen "has_seen" = true)
    (k_has_seen : PySem.W.keepIn K (.ref f_has_seen) = true)
    (a_unseen : PySem.W.nsIn K mainGlobals "unseen" = some (some (.ref f_unseen)))
    (l_unseen : K.lookup f_unseen = some ⟨oc_unseen, od_unseen, .func (PySem.W.fnOf "unseen" "unseen" (defArgs s_unseen) (defBody s_unseen) (defScope s_unseen) .none kV_unseen dc_unseen pm_unseen an_unseen cd_unseen ct_unseen), sl_unseen⟩)
    (c_unseen : PySem.W.codeIn K cd_unseen "unseen" = true)
    (k_unseen : PySem.W.keepIn K (.ref f_unseen) = true)
    (a_met : PySem.W.nsIn K mainGlobals "met" = some (some (.ref f_met)))
    (l_met : K.lookup f_met = some ⟨oc_met, od_met, .func (PySem.W.fnOf "met" "met" (defArgs s_met) (defBody s_met) (defScope s_met) .none kV_met dc_met pm_met an_met cd_met ct_met), sl_met⟩)
    (c_met : PySem.W.codeIn K cd_met "met" = true)
    (k_met : PySem.W.keepIn K (.ref f_met) = true)
    (a_l_cell_at : PySem.W.nsIn K mainGlobals "_law_cell_at" = some (some (.ref f_l_cell_at)))
    (l_l_cell_at : K.lookup f_l_cell_at = some ⟨oc_l_cell_at, od_l_cell_at, .func (PySem.W.fnOf "_law_cell_at" "_law_cell_at" (defArgs s_l_cell_at) (defBody s_l_cell_at) (defScope s_l_cell_at) .none kV_l_cell_at dc_l_cell_at pm_l_cell_at an_l_cell_at cd_l_cell_at ct_l_cell_at), sl_l_cell_at⟩)
    (c_l_cell_at : PySem.W.codeIn K cd_l_cell_at "_law_cell_at" = true)
    (k_l_cell_at : PySem.W.keepIn K (.ref f_l_cell_at) = true)
    (a_l_value : PySem.W.nsIn K mainGlobals "_law_value" = some (some (.ref f_l_value)))
    (l_l_value : K.lookup f_l_value = some ⟨oc_l_value, od_l_value, .func (PySem.W.fnOf "_law_value" "_law_value" (defArgs s_l_value) (defBody s_l_value) (defScope s_l_value) .none kV_l_value dc_l_value pm_l_value an_l_value cd_l_value ct_l_value), sl_l_value⟩)
    (c_l_value : PySem.W.codeIn K cd_l_value "_law_value" = true)
    (k_l_value : PySem.W.keepIn K (.ref f_l_value) = true)
    (a_l_mark : PySem.W.nsIn K mainGlobals "_law_mark" = some (some (.ref f_l_mark)))
    (l_l_mark : K.lookup f_l_mark = some ⟨oc_l_mark, od_l_mark, .func (PySem.W.fnOf "_law_mark" "_law_mark" (defArgs s_l_mark) (defBody s_l_mark) (defScope s_l_mark) .none kV_l_mark dc_l_mark pm_l_mark an_l_mark cd_l_mark ct_l_mark), sl_l_mark⟩)
    (c_l_mark : PySem.W.codeIn K cd_l_mark "_law_mark" = true)
    (k_l_mark : PySem.W.keepIn K (.ref f_l_mark) = true)
    (a_l_rows : PySem.W.nsIn K mainGlobals "_law_rows" = some (some (.ref f_l_rows)))
    (l_l_rows : K.lookup f_l_rows = some ⟨oc_l_rows, od_l_rows, .func (PySem.W.fnOf "_law_rows" "_law_rows" (defArgs s_l_rows) (defBody s_l_rows) (defScope s_l_rows) .none kV_l_rows dc_l_rows pm_l_rows an_l_rows cd_l_rows ct_l_rows), sl_l_rows⟩)
    (c_l_rows : PySem.W.codeIn K cd_l_rows "_law_rows" = true)
    (k_l_rows : PySem.W.keepIn K (.ref f_l_rows) = true)
    (a_l_shelf : PySem.W.nsIn K mainGlobals "_law_shelf" = some (some (.ref f_l_shelf)))
    (l_l_shelf : K.lookup f_l_shelf = some ⟨oc_l_shelf, od_l_shelf, .func (PySem.W.fnOf "_law_shelf" "_law_shelf" (defArgs s_l_shelf) (defBody s_l_shelf) (defScope s_l_shelf) .none kV_l_shelf dc_l_shelf pm_l_shelf an_l_shelf cd_l_shelf ct_l_shelf), sl_l_shelf⟩)
    (c_l_shelf : PySem.W.codeIn K cd_l_shelf "_law_shelf" = true)
    (k_l_shelf : PySem.W.keepIn K (.ref f_l_shelf) = true)
    (a_law : PySem.W.nsIn K mainGlobals "law" = some (some (.ref f_law)))
    (l_law : K.lookup f_law = some ⟨oc_law, od_law, .func (PySem.W.fnOf "law" "law" (defArgs s_law) (defBody s_law) (defScope s_law) .none kV_law dc_law pm_law an_law cd_law ct_law), sl_law⟩)
    (c_law : PySem.W.codeIn K cd_law "law" = true)
    (k_law : PySem.W.keepIn K (.ref f_law) = true) :
    ∃ fd : FuncData, (∀ (s : Shared) (v : Value), BindsTo s fd ⟨[v], []⟩ [("_law_script", v)]) ∧ ∀ base : Heap, K.In base → base.Ns mainGlobals mg → FnOk l.prog w K mg base (L2.CX l.prog w) 4 fa fd ["_law_script"] (sp_law K) := by
  have e := hfa.symm.trans (PySem.W.mg_of X G a_law)
  cases e
  have T : Txt K mg ⟨C_ShelfError, C_BadMark, f_need_alike, PySem.W.fnOf "need_alike" "need_alike" (defArgs s_need_alike) (defBody s_need_alike) (defScope s_need_alike) .none kV_need_alike dc_need_alike pm_need_alike an_need_alike cd_need_alike ct_need_alike, f_joined, PySem.W.fnOf "joined" "joined" (defArgs s_joined) (defBody s_joined) (defScope s_joined) .none kV_joined dc_joined pm_joined an_joined cd_joined ct_joined, f_has_seen, PySem.W.fnOf "has_seen" "has_seen" (defArgs s_has_seen) (defBody s_has_seen) (defScope s_has_seen) .none kV_has_seen dc_has_seen pm_has_seen an_has_seen cd_has_seen ct_has_seen, f_unseen, PySem.W.fnOf "unseen" "unseen" (defArgs s_unseen) (defBody s_unseen) (defScope s_unseen) .none kV_unseen dc_unseen pm_unseen an_unseen cd_unseen ct_unseen, f_met, PySem.W.fnOf "met" "met" (defArgs s_met) (defBody s_met) (defScope s_met) .none kV_met dc_met pm_met an_met cd_met ct_met, f_l_cell_at, PySem.W.fnOf "_law_cell_at" "_law_cell_at" (defArgs s_l_cell_at) (defBody s_l_cell_at) (defScope s_l_cell_at) .none kV_l_cell_at dc_l_cell_at pm_l_cell_at an_l_cell_at cd_l_cell_at ct_l_cell_at, f_l_value, PySem.W.fnOf "_law_value" "_law_value" (defArgs s_l_value) (defBody s_l_value) (defScope s_l_value) .none kV_l_value dc_l_value pm_l_value an_l_value cd_l_value ct_l_value, f_l_mark, PySem.W.fnOf "_law_mark" "_law_mark" (defArgs s_l_mark) (defBody s_l_mark) (defScope s_l_mark) .none kV_l_mark dc_l_mark pm_l_mark an_l_mark cd_l_mark ct_l_mark, f_l_rows, PySem.W.fnOf "_law_rows" "_law_rows" (defArgs s_l_rows) (defBody s_l_rows) (defScope s_l_rows) .none kV_l_rows dc_l_rows pm_l_rows an_l_rows cd_l_rows ct_l_rows, f_l_shelf, PySem.W.fnOf "_law_shelf" "_law_shelf" (defArgs s_l_shelf) (defBody s_l_shelf) (defScope s_l_shelf) .none kV_l_shelf dc_l_shelf pm_l_shelf an_l_shelf cd_l_shelf ct_l_shelf, fa, PySem.W.fnOf "law" "law" (defArgs s_law) (defBody s_law) (defScope s_law) .none kV_law dc_law pm_law an_law cd_law ct_law⟩ := {
    n_ValueError := PySem.W.mg_none_of X G z_ValueError,
    n_bool := PySem.W.mg_none_of X G z_bool,
    n_int := PySem.W.mg_none_of X G z_int,
    n_isinstance := PySem.W.mg_none_of X G z_isinstance,
    n_len := PySem.W.mg_none_of X G z_len,
    n_list := PySem.W.mg_none_of X G z_list,
    n_max := PySem.W.mg_none_of X G z_max,
    n_range := PySem.W.mg_none_of X G z_range,
    n_sorted := PySem.W.mg_none_of X G z_sorted,
    n_tuple := PySem.W.mg_none_of X G z_tuple,
    g_ShelfError := PySem.W.mg_of X G a_ShelfError,
    x_ShelfError := x_ShelfError,
    k_ShelfError := k_ShelfError,
    b_ShelfError := b_ShelfError,
    t_ShelfError := t_ShelfError,
    g_BadMark := PySem.W.mg_of X G a_BadMark,
    x_BadMark := x_BadMark,
    k_BadMark := k_BadMark,
    b_BadMark := b_BadMark,
    t_BadMark := t_BadMark,
    F_need_alike := fun_mk (st := s_need_alike) l_need_alike c_need_alike k_need_alike,
    b_need_alike := (fun_mk (st := s_need_alike) l_need_alike c_need_alike k_need_alike).binds fun _ _ _ _ _ _ us hl => match us, hl with | [_, _], _ => rfl,
    k_need_alike := k_need_alike,
    g_need_alike := PySem.W.mg_of X G a_need_alike,
    F_joined := fun_mk (st := s_joined) l_joined c_joined k_joined,
    b_joined := (fun_mk (st := s_joined) l_joined c_joined k_joined).binds fun _ _ _ _ _ _ us hl => match us, hl with | [_, _], _ => rfl,
    k_joined := k_joined,
    g_joined := PySem.W.mg_of X G a_joined,
    F_has_seen := fun_mk (st := s_has_seen) l_has_seen c_has_seen k_has_seen,
    b_has_seen := (fun_mk (st := s_has_seen) l_has_seen c_has_seen k_has_seen).binds fun _ _ _ _ _ _ us hl => match us, hl with | [_, _, _], _ => rfl,
    k_has_seen := k_has_seen,
    g_has_seen := PySem.W.mg_of X G a_has_seen,
    F_unseen := fun_mk (st := s_unseen) l_unseen c_unseen k_unseen,
    b_unseen := (fun_mk (st := s_unseen) l_unseen c_unseen k_unseen).binds fun _ _ _ _ _ _ us hl => match us, hl with | [_, _], _ => rfl,
    k_unseen := k_unseen,
    g_unseen := PySem.W.mg_of X G a_unseen,
    F_met := fun_mk (st := s_met) l_met c_met k_met,
    b_met := (fun_mk (st := s_met) l_met c_met k_met).binds fun _ _ _ _ _ _ us hl => match us, hl with | [_, _], _ => rfl,
    k_met := k_met,
    g_met := PySem.W.mg_of X G a_met,
    F_l_cell_at := fun_mk (st := s_l_cell_at) l_l_cell_at c_l_cell_at k_l_cell_at,
    b_l_cell_at := (fun_mk (st := s_l_cell_at) l_l_cell_at c_l_cell_at k_l_cell_at).binds fun _ _ _ _ _ _ us hl => match us, hl with | [_, _], _ => rfl,
    k_l_cell_at := k_l_cell_at,
    g_l_cell_at := PySem.W.mg_of X G a_l_cell_at,
    F_l_value := fun_mk (st := s_l_value) l_l_value c_l_value k_l_value,
    b_l_value := (fun_mk (st := s_l_value) l_l_value c_l_value k_l_value).binds fun _ _ _ _ _ _ us hl => match us, hl with | [_], _ => rfl,
    k_l_value := k_l_value,
    g_l_value := PySem.W.mg_of X G a_l_value,
    F_l_mark := fun_mk (st := s_l_mark) l_l_mark c_l_mark k_l_mark,
    b_l_mark := (fun_mk (st := s_l_mark) l_l_mark c_l_mark k_l_mark).binds fun _ _ _ _ _ _ us hl => match us, hl with | [_, _, _], _ => rfl,
    k_l_mark := k_l_mark,
    g_l_mark := PySem.W.mg_of X G a_l_mark,
    F_l_rows := fun_mk (st := s_l_rows) l_l_rows c_l_rows k_l_rows,
    b_l_rows := (fun_mk (st := s_l_rows) l_l_rows c_l_rows k_l_rows).binds fun _ _ _ _ _ _ us hl => match us, hl with | [_, _, _], _ => rfl,
    k_l_rows := k_l_rows,
    g_l_rows := PySem.W.mg_of X G a_l_rows,
    F_l_shelf := fun_mk (st := s_l_shelf) l_l_shelf c_l_shelf k_l_shelf,
    b_l_shelf := (fun_mk (st := s_l_shelf) l_l_shelf c_l_shelf k_l_shelf).binds fun _ _ _ _ _ _ us hl => match us, hl with | [_, _, _], _ => rfl,
    k_l_shelf := k_l_shelf,
    g_l_shelf := PySem.W.mg_of X G a_l_shelf,
    F_law := fun_mk (st := s_law) l_law c_law k_law,
    b_law := (fun_mk (st := s_law) l_law c_law k_law).binds fun _ _ _ _ _ _ us hl => match us, hl with | [_], _ => rfl,
    k_law := k_law,
    g_law := PySem.W.mg_of X G a_law }
  exact ⟨_, fun s v => .of_eq rfl, fun base _ _ => ok_law T⟩

theorem walk {l : PySem.W.OpenLaw} {q : Program} {loose : List Str} {XP : (Str → Option Value) → Heap → Prop} {YP : World → Heap → Prop} {d : DefRec} {K : Params → Frag} (hn : l.most = some 63) (hdf : d.params.defaults = [])
    (hY : ∀ (w : World) (h : Heap), YP w h → (K w.params).In h)
    (F : ∀ (w : World) (mg : Str → Option Value) (fa : Addr) (h : Heap), (K w.params).In h → h.Ns mainGlobals mg → mg d.name = some (.ref fa) →
      ∃ fd : FuncData, (∀ (s : Shared) (u : Value), BindsTo s fd ⟨[u], []⟩ [("_law_script", u)]) ∧ ∀ base : Heap, (K w.params).In base → base.Ns mainGlobals mg → FnOk l.prog w (K w.params) mg base (L2.CX l.prog w) 4 fa fd ["_law_script"] (sp_law (K w.params))) :
    PySem.W.WalkO q loose XP YP l.row.toRowW d [] (fun f vs => PySem.call f vs) :=
  L2.walk_of (n := 63) (k := 4) (x := "_law_script") (CX := fun w => L2.CX l.prog w) (sp := fun w => sp_law (K w.params)) hn (by decide) hdf ⟨rfl, by decide, by decide⟩ hY F (fun _ _ a ns hl _ hS => ⟨a, ns, rfl, hS, hl, fun _ => rfl⟩) fun _ _ _ _ _ z => by
    obtain ⟨_, _, _, _, _, _, _, _, _, _, _, _, z⟩ := z
    exact z
end Sb
open PySem PySem.W PyProof.Rows
set_option maxRecDepth 100000 in
set_option maxHeartbeats 0 in
theorem PySem.Challenge.cw_siblingshelf_k05_two_meet_holds : PySem.Challenge.rw_siblingshelf_k05_two_meet.Holds := by
  w_on; o_law; k_head; (case hw => w_witness2)
  k_fill
  refine Sb.walk (l := PySem.Challenge.rw_siblingshelf_k05_two_meet) rfl rfl (fun w h Y => PySem.W.kIn_of Y) ?F
  case F =>
    intro w mg fa h KX G hmg
    refine' Sb.all_mk KX G hmg ?z_ValueError ?z_bool ?z_int ?z_isinstance ?z_len ?z_list ?z_max ?z_range ?z_sorted ?z_tuple ?a_ShelfError ?x_ShelfError ?k_ShelfError ?b_ShelfError ?t_ShelfError ?a_BadMark ?x_BadMark ?k_BadMark ?b_BadMark ?t_BadMark ?a_need_alike ?l_need_alike ?c_need_alike ?k_need_alike ?a_joined ?l_joined ?c_joined ?k_joined ?a_has_seen ?l_has_seen ?c_has_seen ?k_has_seen ?a_unseen ?l_unseen ?c_unseen ?k_unseen ?a_met ?l_met ?c_met ?k_met ?a_l_cell_at ?l_l_cell_at ?c_l_cell_at ?k_l_cell_at ?a_l_value ?l_l_value ?c_l_value ?k_l_value ?a_l_mark ?l_l_mark ?c_l_mark ?k_l_mark ?a_l_rows ?l_l_rows ?c_l_rows ?k_l_rows ?a_l_shelf ?l_l_shelf ?c_l_shelf ?k_l_shelf ?a_law ?l_law ?c_law ?k_law
    (case z_ValueError => k_is)
    (case z_bool => k_is)
    (case z_int => k_is)
    (case z_isinstance => k_is)
    (case z_len => k_is)
    (case z_list => k_is)
    (case z_max => k_is)
    (case z_range => k_is)
    (case z_sorted => k_is)
    (case z_tuple => k_is)
    (case a_ShelfError => k_is)
    (case x_ShelfError => k_exc)
    (case k_ShelfError => k_is)
    (case b_ShelfError => k_is)
    (case t_ShelfError => k_is)
    (case a_BadMark => k_is)
    (case x_BadMark => k_exc)
    (case k_BadMark => k_is)
    (case b_BadMark => k_is)
    (case t_BadMark => k_is)
    (case a_need_alike => k_is)
    (case l_need_alike => k_is)
    (case c_need_alike => k_is)
    (case k_need_alike => k_is)
    (case a_joined => k_is)
    (case l_joined => k_is)
    (case c_joined => k_is)
    (case k_joined => k_is)
    (case a_has_seen => k_is)
    (case l_has_seen => k_is)
    (case c_has_seen => k_is)
    (case k_has_seen => k_is)
    (case a_unseen => k_is)
    (case l_unseen => k_is)
    (case c_unseen => k_is)
    (case k_unseen => k_is)
    (case a_met => k_is)
    (case l_met => k_is)
    (case c_met => k_is)
    (case k_met => k_is)
    (case a_l_cell_at => k_is)
    (case l_l_cell_at => k_is)
    (case c_l_cell_at => k_is)
    (case k_l_cell_at => k_is)
    (case a_l_value => k_is)
    (case l_l_value => k_is)
    (case c_l_value => k_is)
    (case k_l_value => k_is)
    (case a_l_mark => k_is)
    (case l_l_mark => k_is)
    (case c_l_mark => k_is)
    (case k_l_mark => k_is)
    (case a_l_rows => k_is)
    (case l_l_rows => k_is)
    (case c_l_rows => k_is)
    (case k_l_rows => k_is)
    (case a_l_shelf => k_is)
    (case l_l_shelf => k_is)
    (case c_l_shelf => k_is)
    (case k_l_shelf => k_is)
    (case a_law => k_is)
    (case l_law => k_is)
    (case c_law => k_is)
    (case k_law => k_is)
#print axioms PySem.Challenge.cw_siblingshelf_k05_two_meet_holds


