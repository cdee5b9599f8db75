import PyProof.Rows.All
import Wide.All
import OpenK.AllK
import Wide.FinOn
import HandS.ForMost
import HandS.ForExc
import HandS.Deep
import HandS.IsInst
import HandS.ExcIs
import HandS.SortRule
import HandS.Walk
import HandS.SortInts
import HandS.Style
import HandS.Rev
import HandS.RevTup
import KE.KDictList
import KE.KDictSum
import KE.KDictCopyH
import KE.GoesComp
import PyProof.StrBlock2
import HandS.Codes
import HandS.Text
import PySem.Challenge.RW_siblingshelf_k02_marks_written
set_option Elab.async false
set_option maxRecDepth 100000
set_option maxHeartbeats 8000000
set_option linter.all false
set_option Elab.async false
set_option maxRecDepth 100000
set_option maxHeartbeats 4000000
/-! Data that stands in the heap: the value v stands for the data d; its lists lie where M does not hold. -/
namespace Sb
open PySem L2
abbrev Frag := PySem.W.Frag

inductive Rp (M : Addr → Prop) (H : Hp) : V → PyData → Prop
  | non : Rp M H .non .none
  | bl (b : Bool) : Rp M H (.bl b) (.bool b)
  | int (i : Int) : Rp M H (.int i) (.int i)
  | str (x : Str) : Rp M H (.str x) (.str x)
  | lst {a : Addr} {xs : List V} {ds : List PyData} : ¬ M a → H a = some (.lst xs) → xs.length = ds.length → (∀ (i : Nat) (x : V) (d : PyData), xs[i]? = some x → ds[i]? = some d → Rp M H x d) → Rp M H (.ref a) (.list ds)
  | tup {a : Addr} {xs : List V} {ds : List PyData} : H a = some (.tup xs) → xs.length = ds.length → (∀ (i : Nat) (x : V) (d : PyData), xs[i]? = some x → ds[i]? = some d → Rp M H x d) → Rp M H (.ref a) (.tuple ds)
/-- item by item -/
def RpA (M : Addr → Prop) (H : Hp) (xs : List V) (ds : List PyData) : Prop := xs.length = ds.length ∧ ∀ (i : Nat) (x : V) (d : PyData), xs[i]? = some x → ds[i]? = some d → Rp M H x d

section
variable {M M' : Addr → Prop} {H H' : Hp} {v x : V} {d : PyData} {xs ys : List V} {ds es : List PyData} {a : Addr}
theorem RpA.nil : RpA M H [] [] := ⟨rfl, fun i x d h => by simp at h⟩
theorem RpA.cons (h : Rp M H x d) (t : RpA M H xs ds) : RpA M H (x :: xs) (d :: ds) := by
  refine ⟨by simp [t.1], fun i y e h1 h2 => ?_⟩
  cases i with
  | zero => simp at h1 h2; subst h1; subst h2; exact h
  | succ i => exact t.2 i y e (by simpa using h1) (by simpa using h2)
theorem RpA.head (h : RpA M H (x :: xs) (d :: ds)) : Rp M H x d := h.2 0 x d rfl rfl
theorem RpA.tail (h : RpA M H (x :: xs) (d :: ds)) : RpA M H xs ds := ⟨by simpa using h.1, fun i y e h1 h2 => h.2 (i + 1) y e (by simpa using h1) (by simpa using h2)⟩
theorem RpA.append (h : RpA M H xs ds) (t : RpA M H ys es) : RpA M H (xs ++ ys) (ds ++ es) := by
  refine ⟨by simp [h.1, t.1], fun i y e h1 h2 => ?_⟩
  by_cases hi : i < xs.length
  · rw [List.getElem?_append_left hi] at h1
    rw [List.getElem?_append_left (by rw [← h.1]; exact hi)] at h2
    exact h.2 i y e h1 h2
  · rw [List.getElem?_append_right (by omega)] at h1
    rw [List.getElem?_append_right (by rw [← h.1]; omega), ← h.1] at h2
    exact t.2 _ y e h1 h2
theorem RpA.snoc (h : RpA M H xs ds) (t : Rp M H x d) : RpA M H (xs ++ [x]) (ds ++ [d]) := h.append (RpA.nil.cons t)
theorem RpA.at (h : RpA M H xs ds) {i : Nat} (e : ds[i]? = some d) : ∃ x, xs[i]? = some x ∧ Rp M H x d := by
  have hi : i < ds.length := (List.getElem?_eq_some_iff.mp e).1
  have hx : i < xs.length := by rw [h.1]; exact hi
  exact ⟨xs[i], List.getElem?_eq_getElem hx, h.2 i _ _ (List.getElem?_eq_getElem hx) e⟩
theorem RpA.atx (h : RpA M H xs ds) {i : Nat} (e : xs[i]? = some x) : ∃ d, ds[i]? = some d ∧ Rp M H x d := by
  have hi : i < xs.length := (List.getElem?_eq_some_iff.mp e).1
  have hx : i < ds.length := by rw [← h.1]; exact hi
  exact ⟨ds[i], List.getElem?_eq_getElem hx, h.2 i _ _ e (List.getElem?_eq_getElem hx)⟩
theorem Rp.lstA (m : ¬ M a) (h : H a = some (.lst xs)) (r : RpA M H xs ds) : Rp M H (.ref a) (.list ds) := .lst m h r.1 r.2
theorem Rp.tupA (h : H a = some (.tup xs)) (r : RpA M H xs ds) : Rp M H (.ref a) (.tuple ds) := .tup h r.1 r.2
theorem Rp.int_inv {i : Int} (h : Rp M H v (.int i)) : v = .int i := by cases h; rfl
theorem Rp.str_inv {i : Str} (h : Rp M H v (.str i)) : v = .str i := by cases h; rfl
theorem Rp.bool_inv {i : Bool} (h : Rp M H v (.bool i)) : v = .bl i := by cases h; rfl
theorem Rp.none_inv (h : Rp M H v .none) : v = .non := by cases h; rfl
theorem Rp.tup_inv (h : Rp M H v (.tuple ds)) : ∃ a xs, v = .ref a ∧ H a = some (.tup xs) ∧ RpA M H xs ds := by
  cases h with
  | tup h1 h2 h3 => exact ⟨_, _, rfl, h1, h2, h3⟩
theorem Rp.lst_inv (h : Rp M H v (.list ds)) : ∃ a xs, v = .ref a ∧ ¬ M a ∧ H a = some (.lst xs) ∧ RpA M H xs ds := by
  cases h with
  | lst h0 h1 h2 h3 => exact ⟨_, _, rfl, h0, h1, h2, h3⟩
/-- what lists and tuples of H there are stand in H' too -/
structure Ext (M M' : Addr → Prop) (H H' : Hp) : Prop where
  tup : ∀ a xs, H a = some (.tup xs) → H' a = some (.tup xs)
  lst : ∀ a xs, ¬ M a → H a = some (.lst xs) → ¬ M' a ∧ H' a = some (.lst xs)
theorem Rp.ext (h : Rp M H v d) (e : Ext M M' H H') : Rp M' H' v d := by
  induction h with
  | non => exact .non
  | bl b => exact .bl b
  | int i => exact .int i
  | str x => exact .str x
  | lst h0 h1 h2 h3 ih => exact .lst (e.lst _ _ h0 h1).1 (e.lst _ _ h0 h1).2 h2 ih
  | tup h1 h2 h3 ih => exact .tup (e.tup _ _ h1) h2 ih
theorem Ext.same (s : Same H H') : Ext M M H H' := ⟨fun a xs h => s a _ h, fun a xs m h => ⟨m, s a _ h⟩⟩
theorem Rp.same (h : Rp M H v d) (s : Same H H') : Rp M H' v d := h.ext (.same s)
theorem RpA.ext (h : RpA M H xs ds) (e : Ext M M' H H') : RpA M' H' xs ds := ⟨h.1, fun i x d h1 h2 => (h.2 i x d h1 h2).ext e⟩
theorem RpA.same (h : RpA M H xs ds) (s : Same H H') : RpA M H' xs ds := h.ext (.same s)
/-- .. as the layer's own data -/
theorem dpAll_of {K : Frag} : ∀ {xs : List V} {ds : List PyData}, xs.length = ds.length → (∀ (i : Nat) (x : V) (d : PyData), xs[i]? = some x → ds[i]? = some d → Dp K H x d) → DpAll K H xs ds
  | [], [], _, _ => .nil
  | x :: xs, d :: ds, h, k => .cons (k 0 x d rfl rfl) (dpAll_of (by simpa using h) fun i y e h1 h2 => k (i + 1) y e (by simpa using h1) (by simpa using h2))
  | [], _ :: _, h, _ => by simp at h
  | _ :: _, [], h, _ => by simp at h
theorem Rp.dp {K : Frag} (h : Rp M H v d) : Dp K H v d := by
  induction h with
  | non => exact .non
  | bl b => exact .bl b
  | int i => exact .int i
  | str x => exact .str x
  | lst h0 h1 h2 h3 ih => exact .lst (SqL.of h1) (dpAll_of h2 ih)
  | tup h1 h2 h3 ih => exact .tup (SqT.of h1) (dpAll_of h2 ih)
/-- data of ints -/
theorem RpA.ints : ∀ {ns : List Int}, RpA M H (ns.map V.int) (ns.map PyData.int)
  | [] => RpA.nil
  | n :: ns => RpA.cons (.int n) RpA.ints
theorem RpA.ints_inv : ∀ {ns : List Int} {xs : List V}, RpA M H xs (ns.map PyData.int) → xs = ns.map V.int
  | [], [], _ => rfl
  | [], x :: xs, h => by have := h.1; simp at this
  | n :: ns, [], h => by have := h.1; simp at this
  | n :: ns, x :: xs, h => by
    have h1 := h.head.int_inv
    have h2 := RpA.ints_inv h.tail
    rw [h1, h2, List.map_cons]
end
end Sb

set_option Elab.async false
set_option maxRecDepth 100000
set_option maxHeartbeats 4000000
set_option linter.all false
/-! Steps of a reading, one a rule. -/
namespace Sb
open PySem L2
section
variable {K : Frag} {σ : L2.St} {H : Hp} {Q : VK} {QT : Bool → Hp → Prop} {QA : List V → Hp → Prop} {D : Ends} {ta tb te : TE} {tt t1 t2 : TT} {tr : TA} {ts tu : TS} {i : Nat} {v x y : V} {b : Bool}
theorem w_var (h : σ[i]? = some (some v)) (q : Q v H) : tVar i σ H Q := ⟨v, h, q⟩
theorem w_c (q : Q v H) : tC v σ H Q := q
theorem w_nil (q : QA [] H) : tNil σ H QA := q
theorem w_cons (q : ta σ H fun x H1 => tr σ H1 fun xs H2 => QA (x :: xs) H2) : tCons ta tr σ H QA := q
theorem w_op {r : R2} (q : ta σ H fun x H1 => tb σ H1 fun y H2 => r x y H2 Q) : tOp r ta tb σ H Q := q
theorem w_un {r : V → Hp → VK → Prop} (q : ta σ H fun x H1 => r x H1 Q) : tUn r ta σ H Q := q
theorem w_test (q : te σ H fun x H1 => ∃ k, x = .bl k ∧ QT k H1) : tTest te σ H QT := q
theorem w_tB (q : te σ H fun x H1 => ∃ k, x = .bl k ∧ QT k H1) : tB te σ H QT := q
theorem w_bl {R : Bool → Prop} (q : R b) : ∃ k, V.bl b = V.bl k ∧ R k := ⟨b, rfl, q⟩
theorem w_and (q : t1 σ H fun c H1 => if c = true then t2 σ H1 QT else QT false H1) : tAnd t1 t2 σ H QT := q
theorem w_or (q : t1 σ H fun c H1 => if c = true then QT true H1 else t2 σ H1 QT) : tOr t1 t2 σ H QT := q
theorem w_not (q : tt σ H fun c H1 => QT (!c) H1) : tNot tt σ H QT := q
theorem w_andV (q : ta σ H fun x H1 => ∃ c, x = .bl c ∧ if c = true then tb σ H1 Q else Q (.bl false) H1) : tAndV ta tb σ H Q := q
theorem w_orV (q : ta σ H fun x H1 => ∃ c, x = .bl c ∧ if c = true then Q (.bl true) H1 else tb σ H1 Q) : tOrV ta tb σ H Q := q
theorem w_notV (q : ta σ H fun x H1 => ∃ c, x = .bl c ∧ Q (.bl (!c)) H1) : tNotV ta σ H Q := q
theorem w_if (q : tt σ H fun c H1 => if c = true then ta σ H1 Q else tb σ H1 Q) : tIf tt ta tb σ H Q := q
theorem w_ifS (q : tt σ H fun c H1 => if c = true then ts D σ H1 else tu D σ H1) : tIfS tt ts tu D σ H := q
theorem w_seq (q : ts { D with nx := tu D } σ H) : tSeq ts tu D σ H := q
theorem w_set (q : te σ H fun x H1 => D.nx (σ.set i (some x)) H1) : tAsg te (gName i) D σ H := q
theorem w_asg {g : TG} (q : te σ H fun x H1 => g x σ H1 D.nx) : tAsg te g D σ H := q
theorem w_ret (q : te σ H D.rt) : tRet te D σ H := q
theorem w_retN (q : D.rt .non H) : tRetN D σ H := q
theorem w_drop (q : te σ H fun _ H1 => D.nx σ H1) : tDrop te D σ H := q
theorem w_next (q : D.nx σ H) : tNext D σ H := q
theorem w_gName {Qs : L2.St → Hp → Prop} (q : Qs (σ.set i (some v)) H) : gName i v σ H Qs := q
theorem w_I0 {g : Int → Int → V} {i j : Int} (q : Q (g i j) H) : rI0 g (.int i) (.int j) H Q := ⟨i, j, rfl, rfl, q⟩
theorem w_I {C : Int → Int → Prop} {g : Int → Int → V} {i j : Int} (c : C i j) (q : Q (g i j) H) : rI C g (.int i) (.int j) H Q := ⟨i, j, rfl, rfl, c, q⟩
theorem w_eq (h : scal x y = true) (q : Q (.bl (decide (x = y))) H) : rEq x y H Q := ⟨h, q⟩
theorem w_ne (h : scal x y = true) (q : Q (.bl (!decide (x = y))) H) : rNe x y H Q := ⟨h, q⟩
theorem w_CB {r : List V → Hp → VK → Prop} (q : tr σ H fun vs H1 => r vs H1 Q) : tCB r tr σ H Q := q
theorem w_call {sp : Sp} {dvs : List V} {E : XK} (q : tr σ H fun vs H1 => sp (vs ++ dvs) H1 Q E) : tCall sp dvs E tr σ H Q := q
theorem w_callS {sp : Sp} {E : L2.St → XK} (q : tr σ H fun vs H1 => sp vs H1 Q (E σ)) : tCallS sp E tr σ H Q := q
end
end Sb

set_option Elab.async false
set_option maxRecDepth 100000
set_option maxHeartbeats 4000000
set_option linter.all false
/-! Comprehensions whose turns only add to the heap: the new list's data, item by item. -/
namespace Sb
open PySem L2
/-- a new address is not among the changing ones -/
def Fr (M : Addr → Prop) (H : Hp) : Prop := ∀ a, H a = none → ¬ M a
theorem Fr.same {M : Addr → Prop} {H H' : Hp} (f : Fr M H) (s : Same H H') : Fr M H' := fun a h => f a (s.free h)
section
variable {M M' M'' : Addr → Prop} {H H' H'' : Hp} {v x : V} {d : PyData} {xs ys : List V} {ds es : List PyData} {a p : Addr} {o : HO}
theorem Ext.trans (e : Ext M M' H H') (e' : Ext M' M'' H' H'') : Ext M M'' H H'' :=
  ⟨fun a xs h => e'.tup a xs (e.tup a xs h), fun a xs m h => e'.lst a xs (e.lst a xs m h).1 (e.lst a xs m h).2⟩
/-- one address more changes: it was new -/
theorem Ext.fresh (s : Same H H') (h : H p = none) : Ext M (fun a => M a ∨ a = p) H H' :=
  ⟨fun a xs e => s a _ e, fun a xs m e => ⟨fun z => z.elim m fun z => (by subst z; rw [h] at e; cases e), s a _ e⟩⟩
/-- fewer change -/
theorem Ext.less (k : ∀ a, M' a → M a) : Ext M M' H H := ⟨fun _ _ e => e, fun a xs m e => ⟨fun z => m (k a z), e⟩⟩
/-- the changing one is written -/
theorem Ext.write (m : M p) (hp : ∀ xs, H p ≠ some (.tup xs)) : Ext M M H (upd H p o) := by
  refine ⟨fun a xs e => ?_, fun a xs n e => ⟨n, ?_⟩⟩
  · rw [upd_ne (fun z => by subst z; exact hp xs e)]; exact e
  · rw [upd_ne (fun z => by subst z; exact n m)]; exact e
theorem Same.new (h : H p = none) : Same H (upd H p o) := fun b u e => by rw [upd_ne (ne_of_none e h)]; exact e
theorem Same.mut (s : Same H H') (h : H p = none) : Same H (upd H' p o) := fun b u e => by rw [upd_ne (ne_of_none e h)]; exact s b u e
/-- one turn of a comprehension -/
abbrev LcItem (g : TG) (tt : TT) (te : TE) (vs : List Nat) (σ : L2.St) (x : V) (H : Hp) (Yes : V → Hp → Prop) (No : Hp → Prop) : Prop :=
  g x (wipe σ vs) H fun σ2 H2 => wipe σ2 vs = wipe σ vs ∧ tt σ2 H2 fun b H3 => if b = true then te σ2 H3 Yes else No H3
/-- what stands between two turns -/
def LcInv (M : Addr → Prop) (H1 : Hp) (D : Addr) (es : List PyData) (H : Hp) : Prop := Same H1 H ∧ ∃ ys, H D = some (.lst ys) ∧ RpA (fun a => M a ∨ a = D) H ys es
variable {g : TG} {tt : TT} {te : TE} {vs : List Nat} {σ : L2.St} {H1 : Hp} {D : Addr} {Qd : Addr → Hp → Prop}
theorem LcInv.start (hD : H1 D = none) : LcInv M H1 D [] (upd H1 D (.lst [])) := ⟨Same.new hD, [], upd_same, RpA.nil⟩
theorem LcInv.more {Hx H4 : Hp} {y : V} {e : PyData} (hD : H1 D = none) (w : LcInv M H1 D es Hx) (s : Same Hx H4) (r : Rp (fun a => M a ∨ a = D) H4 y e) (hl : es.length < sizeLine) :
    ∃ acc, H4 D = some (.lst acc) ∧ acc.length < sizeLine ∧ LcInv M H1 D (es ++ [e]) (upd H4 D (.lst (acc ++ [y]))) := by
  obtain ⟨s1, ys, hy, ra⟩ := w
  have h4 := s D _ hy
  have ex : Ext (fun a => M a ∨ a = D) (fun a => M a ∨ a = D) H4 (upd H4 D (.lst (ys ++ [y]))) := Ext.write (.inr rfl) fun xs z => by rw [h4] at z; cases z
  refine ⟨ys, h4, by rw [ra.1]; exact hl, Same.mut (Same.trans s1 s) hD, _, upd_same, ?_⟩
  exact ((ra.same s).snoc r).ext ex
theorem LcInv.out (fr : Fr M H1) (hD : H1 D = none) (w : LcInv M H1 D es H) : Same H1 H ∧ Rp M H (.ref D) (.list es) := by
  obtain ⟨s, ys, hy, ra⟩ := w
  exact ⟨s, .lstA (fr D hD) hy (ra.ext (Ext.less fun a z => .inl z))⟩
theorem LcInv.ext (hD : H1 D = none) (w : LcInv M H1 D es H) : Ext M (fun a => M a ∨ a = D) H1 H := Ext.fresh w.1 hD
theorem LcInv.fr (fr : Fr M H1) (w : LcInv M H1 D es H) : Fr (fun a => M a ∨ a = D) H := fun a h z => by
  rcases z with z | z
  · exact fr a (w.1.free h) z
  · obtain ⟨_, ys, hy, _⟩ := w
    rw [z, hy] at h; cases h
theorem fm_take {δ : Type} {f : δ → Option PyData} {ds : List δ} {i : Nat} {d : δ} (h : ds[i]? = some d) : (ds.take (i + 1)).filterMap f = (ds.take i).filterMap f ++ (f d).toList := by
  have hi := (List.getElem?_eq_some_iff.mp h).1
  have e : ds.take (i + 1) = ds.take i ++ [d] := by
    rw [List.take_succ, h]; rfl
  rw [e, List.filterMap_append]
  cases q : f d <;> simp [q]
/-- over a list -/
theorem lcL {K : Frag} {δ : Type} {a : Addr} {xs : List V} (ds : List δ) (f : δ → Option PyData) (M : Addr → Prop) (fr : Fr M H1) (hl : SqL K H1 a xs) (hlen : xs.length = ds.length) (hz : ds.length ≤ sizeLine)
    (hs : ∀ (i : Nat) (x : V) (d : δ) (H2 : Hp) (M' : Addr → Prop) (Yes : V → Hp → Prop) (No : Hp → Prop), xs[i]? = some x → ds[i]? = some d → Same H1 H2 → Ext M M' H1 H2 → Fr M' H2 → (∀ y H4 e, f d = some e → Same H2 H4 → Rp M' H4 y e → Yes y H4) → (∀ H4, f d = none → Same H2 H4 → No H4) → LcItem g tt te vs σ x H2 Yes No)
    (hd : ∀ D H', H1 D = none → Same H1 H' → Rp M H' (.ref D) (.list (ds.filterMap f)) → Qd D H') :
    ∀ D, H1 D = none → ∃ W : Nat → Nat → Hp → Prop, (∃ m, W 0 m (upd H1 D (.lst []))) ∧ ∀ i m H, W i m H →
      ((Itl K a).stop i H ∧ Qd D H) ∨ ((Itl K a).go i H ∧ ∃ Nx : Hp → Prop, (∀ H', Nx H' → ∃ m', m' < m ∧ W (i + 1) m' H') ∧ ∀ x H', (Itl K a).yld i H x H' → g x (wipe σ vs) H' fun σ2 H2 => wipe σ2 vs = wipe σ vs ∧ tt σ2 H2 fun b H3 =>
        if b = true then te σ2 H3 fun y H4 => ∃ acc, H4 D = some (.lst acc) ∧ acc.length < sizeLine ∧ Nx (upd H4 D (.lst (acc ++ [y]))) else Nx H3) := by
  intro D hD
  refine lc_list (K := K) (a := a) (xs := xs) (fun i H => LcInv M H1 D ((ds.take i).filterMap f) H) (by simpa using LcInv.start hD) (fun i H _ w => w.1.seq hl) (fun i x H hx w => ?_) (fun H w => ?_)
  · obtain ⟨d, hdd⟩ : ∃ d, ds[i]? = some d := by
      have := (List.getElem?_eq_some_iff.mp hx).1
      exact ⟨_, List.getElem?_eq_getElem (by omega)⟩
    have hi := (List.getElem?_eq_some_iff.mp hdd).1
    refine hs i x d H _ (fun y H4 => _) (fun H4 => _) hx hdd w.1 (w.ext hD) (w.fr fr) (fun y H4 e he s r => ?_) (fun H4 he s => ?_)
    · obtain ⟨acc, h1, h2, h3⟩ := w.more hD s r (Nat.lt_of_le_of_lt (List.length_filterMap_le f (ds.take i)) (by rw [List.length_take]; omega))
      refine ⟨acc, h1, h2, ?_⟩
      rw [fm_take hdd, he]; exact h3
    · rw [fm_take hdd, he]
      obtain ⟨s1, ys, hy, ra⟩ := w
      exact ⟨Same.trans s1 s, ys, s _ _ hy, by simpa using ra.same s⟩
  · rw [hlen, List.take_length] at w
    obtain ⟨s, r⟩ := w.out fr hD
    exact hd D H hD s r
/-- over a tuple -/
theorem lcT {K : Frag} {δ : Type} {a : Addr} {xs : List V} (ds : List δ) (f : δ → Option PyData) (M : Addr → Prop) (fr : Fr M H1) (hl : H1 a = some (.tup xs)) (hlen : xs.length = ds.length) (hz : ds.length ≤ sizeLine)
    (hs : ∀ (i : Nat) (x : V) (d : δ) (H2 : Hp) (M' : Addr → Prop) (Yes : V → Hp → Prop) (No : Hp → Prop), xs[i]? = some x → ds[i]? = some d → Same H1 H2 → Ext M M' H1 H2 → Fr M' H2 → (∀ y H4 e, f d = some e → Same H2 H4 → Rp M' H4 y e → Yes y H4) → (∀ H4, f d = none → Same H2 H4 → No H4) → LcItem g tt te vs σ x H2 Yes No)
    (hd : ∀ D H', H1 D = none → Same H1 H' → Rp M H' (.ref D) (.list (ds.filterMap f)) → Qd D H') :
    ∀ D, H1 D = none → ∃ W : Nat → Nat → Hp → Prop, (∃ m, W 0 m (upd H1 D (.lst []))) ∧ ∀ i m H, W i m H →
      ((Itt K a).stop i H ∧ Qd D H) ∨ ((Itt K a).go i H ∧ ∃ Nx : Hp → Prop, (∀ H', Nx H' → ∃ m', m' < m ∧ W (i + 1) m' H') ∧ ∀ x H', (Itt K a).yld i H x H' → g x (wipe σ vs) H' fun σ2 H2 => wipe σ2 vs = wipe σ vs ∧ tt σ2 H2 fun b H3 =>
        if b = true then te σ2 H3 fun y H4 => ∃ acc, H4 D = some (.lst acc) ∧ acc.length < sizeLine ∧ Nx (upd H4 D (.lst (acc ++ [y]))) else Nx H3) := by
  intro D hD
  refine lc_tup (K := K) (a := a) (xs := xs) (fun i H => LcInv M H1 D ((ds.take i).filterMap f) H) (by simpa using LcInv.start hD) (fun i H _ w => SqT.of (w.1 a _ hl)) (fun i x H hx w => ?_) (fun H w => ?_)
  · obtain ⟨d, hdd⟩ : ∃ d, ds[i]? = some d := by
      have := (List.getElem?_eq_some_iff.mp hx).1
      exact ⟨_, List.getElem?_eq_getElem (by omega)⟩
    have hi := (List.getElem?_eq_some_iff.mp hdd).1
    refine hs i x d H _ (fun y H4 => _) (fun H4 => _) hx hdd w.1 (w.ext hD) (w.fr fr) (fun y H4 e he s r => ?_) (fun H4 he s => ?_)
    · obtain ⟨acc, h1, h2, h3⟩ := w.more hD s r (Nat.lt_of_le_of_lt (List.length_filterMap_le f (ds.take i)) (by rw [List.length_take]; omega))
      refine ⟨acc, h1, h2, ?_⟩
      rw [fm_take hdd, he]; exact h3
    · rw [fm_take hdd, he]
      obtain ⟨s1, ys, hy, ra⟩ := w
      exact ⟨Same.trans s1 s, ys, s _ _ hy, by simpa using ra.same s⟩
  · rw [hlen, List.take_length] at w
    obtain ⟨s, r⟩ := w.out fr hD
    exact hd D H hD s r
/-- over a range -/
theorem lcR {lo : Int} (n : Nat) (f : Nat → Option PyData) (M : Addr → Prop) (fr : Fr M H1) (hz : n ≤ sizeLine)
    (hs : ∀ (i : Nat) (H2 : Hp) (M' : Addr → Prop) (Yes : V → Hp → Prop) (No : Hp → Prop), i < n → Same H1 H2 → Ext M M' H1 H2 → Fr M' H2 → (∀ y H4 e, f i = some e → Same H2 H4 → Rp M' H4 y e → Yes y H4) → (∀ H4, f i = none → Same H2 H4 → No H4) → LcItem g tt te vs σ (.int (lo + i)) H2 Yes No)
    (hd : ∀ D H', H1 D = none → Same H1 H' → Rp M H' (.ref D) (.list ((List.range n).filterMap f)) → Qd D H') :
    ∀ D, H1 D = none → ∃ W : Nat → Nat → Hp → Prop, (∃ m, W 0 m (upd H1 D (.lst []))) ∧ ∀ i m H, W i m H →
      ((Itr lo n).stop i H ∧ Qd D H) ∨ ((Itr lo n).go i H ∧ ∃ Nx : Hp → Prop, (∀ H', Nx H' → ∃ m', m' < m ∧ W (i + 1) m' H') ∧ ∀ x H', (Itr lo n).yld i H x H' → g x (wipe σ vs) H' fun σ2 H2 => wipe σ2 vs = wipe σ vs ∧ tt σ2 H2 fun b H3 =>
        if b = true then te σ2 H3 fun y H4 => ∃ acc, H4 D = some (.lst acc) ∧ acc.length < sizeLine ∧ Nx (upd H4 D (.lst (acc ++ [y]))) else Nx H3) := by
  intro D hD
  refine lc_range (fun i H => LcInv M H1 D ((List.range i).filterMap f) H) (by simpa using LcInv.start hD) (fun i H hi w => ?_) (fun H w => ?_)
  · have er : (List.range (i + 1)).filterMap f = (List.range i).filterMap f ++ (f i).toList := by
      rw [List.range_succ, List.filterMap_append]
      cases q : f i <;> simp [q]
    refine hs i H _ (fun y H4 => _) (fun H4 => _) hi w.1 (w.ext hD) (w.fr fr) (fun y H4 e he s r => ?_) (fun H4 he s => ?_)
    · obtain ⟨acc, h1, h2, h3⟩ := w.more hD s r (Nat.lt_of_le_of_lt (List.length_filterMap_le f (List.range i)) (by rw [List.length_range]; omega))
      refine ⟨acc, h1, h2, ?_⟩
      rw [er, he]; exact h3
    · rw [er, he]
      obtain ⟨s1, ys, hy, ra⟩ := w
      exact ⟨Same.trans s1 s, ys, s _ _ hy, by simpa using ra.same s⟩
  · obtain ⟨s, r⟩ := w.out fr hD
    exact hd D H hD s r
end
end Sb

set_option Elab.async false
set_option maxRecDepth 100000
set_option maxHeartbeats 4000000
set_option linter.all false
/-! Marks as data; places; steps that want a fact of the data. -/
namespace Sb
open PySem L2
def markD (m : List Int) : PyData := .tuple (m.map PyData.int)
def joinM (a b : List Int) : List Int := List.zipWith max a b
section
variable {K : Frag} {M : Addr → Prop} {H : Hp} {v x y : V} {d : PyData} {xs : List V} {ds : List PyData} {a : Addr} {Q : VK} {i : Int} {m : List Int}
theorem ixN_nat {n : Nat} {i : Int} {j : Nat} (e : i = (j : Int)) (h : j < n) : ixN n i = some j := by
  unfold ixN
  subst e
  rw [if_pos (by omega), if_pos (by omega)]
  simp
theorem Rp.mark {M' : Addr → Prop} (h : Rp M H v (markD m)) : Rp M' H v (markD m) := by
  obtain ⟨a, xs, rfl, ha, r⟩ := Rp.tup_inv (ds := m.map PyData.int) h
  rw [r.ints_inv] at ha
  exact .tupA ha RpA.ints
/-- what stood already -/
def Old (H : Hp) : Addr → Prop := fun a => H a ≠ none
theorem fr_old (H : Hp) : Fr (Old H) H := fun a h z => z h
theorem Rp.old {M : Addr → Prop} {H H' : Hp} {v : V} {d : PyData} (fr : Fr M H) (h : Rp (Old H) H' v d) : Rp M H' v d := h.ext (Ext.less fun a m z => fr a z m)
theorem Rp.older {H0 H H' : Hp} {v : V} {d : PyData} (s : Same H0 H) (h : Rp (Old H) H' v d) : Rp (Old H0) H' v d := h.ext (Ext.less fun a m z => m (s.free z))
/-- t[i] of data -/
theorem w_ixT (j : Nat) (h : Rp M H x (.tuple ds)) (ei : i = (j : Int)) (e : ds[j]? = some d) (q : ∀ v, Rp M H v d → Q v H) : rIxT K x (.int i) H Q := by
  obtain ⟨a, xs, rfl, ha, r⟩ := h.tup_inv
  obtain ⟨v, hv, rv⟩ := r.at e
  exact ⟨a, xs, i, v, rfl, rfl, SqT.of ha, by rw [ei]; exact atI_nat hv, q v rv⟩
theorem w_ixL (j : Nat) (h : Rp M H x (.list ds)) (ei : i = (j : Int)) (e : ds[j]? = some d) (q : ∀ v, Rp M H v d → Q v H) : rIxL K x (.int i) H Q := by
  obtain ⟨a, xs, rfl, _, ha, r⟩ := h.lst_inv
  obtain ⟨v, hv, rv⟩ := r.at e
  exact ⟨a, xs, i, v, rfl, rfl, SqL.of ha, by rw [ei]; exact atI_nat hv, q v rv⟩
theorem w_ixM (j : Nat) (h : Rp M H x (markD m)) (ei : i = (j : Int)) (hj : j < m.length) (q : Q (.int (m.getD j 0)) H) : rIxT K x (.int i) H Q := by
  refine w_ixT j h ei (d := .int (m.getD j 0)) ?_ fun v r => ?_
  · rw [List.getElem?_map, List.getD_eq_getElem?_getD, List.getElem?_eq_getElem hj]; rfl
  · rw [r.int_inv]; exact q
/-- a display -/
def rNewT (xs : List V) (H : Hp) (Q : VK) : Prop := xs.length ≤ sizeLine ∧ ∀ p, H p = none → Q (.ref p) (upd H p (.tup xs))
def rNewL (xs : List V) (H : Hp) (Q : VK) : Prop := xs.length ≤ sizeLine ∧ ∀ p, H p = none → Q (.ref p) (upd H p (.lst xs))
theorem w_tTup {t : TA} {σ : L2.St} (q : t σ H fun xs H1 => rNewT xs H1 Q) : tTup t σ H Q := q
theorem w_tLst {t : TA} {σ : L2.St} (q : t σ H fun xs H1 => rNewL xs H1 Q) : tLst t σ H Q := q
theorem w_newT (r : RpA M H xs ds) (hl : xs.length ≤ sizeLine) (q : ∀ v H2, Same H H2 → Rp M H2 v (.tuple ds) → Q v H2) : rNewT xs H Q :=
  ⟨hl, fun p hp => q _ _ (Same.new hp) (.tupA upd_same (r.same (Same.new hp)))⟩
theorem w_newL (fr : Fr M H) (r : RpA M H xs ds) (hl : xs.length ≤ sizeLine) (q : ∀ v H2, Same H H2 → Rp M H2 v (.list ds) → Q v H2) : rNewL xs H Q :=
  ⟨hl, fun p hp => q _ _ (Same.new hp) (.lstA (fr p hp) upd_same (r.same (Same.new hp)))⟩
theorem sz_small {n : Nat} (h : n ≤ 100000) : n ≤ sizeLine := Nat.le_trans h (by decide)
theorem sz_smallL {n : Nat} (h : n < 100000) : n < sizeLine := Nat.lt_of_lt_of_le h (by decide)
/-! named readings of calls -/
def rTup (K : Frag) : List V → Hp → VK → Prop := fun xs H Q => ∃ p ys, xs = [.ref p] ∧ ((SqL K H p ys ∧ ∀ l, H l = none → Q (.ref l) (upd H l (.tup ys))) ∨ (SqT K H p ys ∧ Q (.ref p) H))
theorem cl_tup {X : Cx} : CallR X (.type "tuple") (rTup X.K) := call_tuple_of
def rLst (K : Frag) : List V → Hp → VK → Prop := fun xs H Q => ∃ p ys, xs = [.ref p] ∧ (SqL K H p ys ∨ SqT K H p ys) ∧ ∀ l, H l = none → Q (.ref l) (upd H l (.lst ys))
theorem cl_lst {X : Cx} : CallR X (.type "list") (rLst X.K) := call_list_of
def rLen (K : Frag) : List V → Hp → VK → Prop := fun xs H Q => ∃ p ys, xs = [.ref p] ∧ (SqL K H p ys ∨ SqT K H p ys) ∧ Q (.int ys.length) H
theorem cl_len {X : Cx} : CallR X (.builtin "len") (rLen X.K) := call_len_seq
def rMx : List V → Hp → VK → Prop := fun xs H Q => ∃ i j, xs = [.int i, .int j] ∧ Q (.int (if j > i then j else i)) H
theorem cl_max {X : Cx} (hc : X.calm = true) : CallR X (.builtin "max") rMx := call_max2 hc
/-- tuple(x), list(x) of new lists and tuples -/
theorem w_tupleL (h : Rp M H x (.list ds)) (q : ∀ v H2, Same H H2 → Rp M H2 v (.tuple ds) → Q v H2) : rTup K [x] H Q := by
  obtain ⟨a, xs, rfl, m, ha, r⟩ := h.lst_inv
  exact ⟨a, xs, rfl, .inl ⟨SqL.of ha, fun l hl => q _ _ (Same.new hl) (.tupA upd_same (r.same (Same.new hl)))⟩⟩
theorem w_listT (fr : Fr M H) (h : Rp M H x (.tuple ds)) (q : ∀ v H2, Same H H2 → Rp M H2 v (.list ds) → Q v H2) : rLst K [x] H Q := by
  obtain ⟨a, xs, rfl, ha, r⟩ := h.tup_inv
  exact ⟨a, xs, rfl, .inr (SqT.of ha), fun l hl => q _ _ (Same.new hl) (.lstA (fr l hl) upd_same (r.same (Same.new hl)))⟩
theorem w_listL (fr : Fr M H) (h : Rp M H x (.list ds)) (q : ∀ v H2, Same H H2 → Rp M H2 v (.list ds) → Q v H2) : rLst K [x] H Q := by
  obtain ⟨a, xs, rfl, m, ha, r⟩ := h.lst_inv
  exact ⟨a, xs, rfl, .inl (SqL.of ha), fun l hl => q _ _ (Same.new hl) (.lstA (fr l hl) upd_same (r.same (Same.new hl)))⟩
/-- len -/
theorem w_lenT (h : Rp M H x (.tuple ds)) (q : Q (.int ds.length) H) : rLen K [x] H Q := by
  obtain ⟨a, xs, rfl, ha, r⟩ := h.tup_inv
  exact ⟨a, xs, rfl, .inr (SqT.of ha), by rw [r.1]; exact q⟩
theorem w_lenL (h : Rp M H x (.list ds)) (q : Q (.int ds.length) H) : rLen K [x] H Q := by
  obtain ⟨a, xs, rfl, m, ha, r⟩ := h.lst_inv
  exact ⟨a, xs, rfl, .inl (SqL.of ha), by rw [r.1]; exact q⟩
theorem w_lenM (h : Rp M H x (markD m)) (q : Q (.int m.length) H) : rLen K [x] H Q := w_lenT h (by rw [List.length_map]; exact q)
theorem w_lenS (h : SqL K H a xs) (q : Q (.int xs.length) H) : rLen K [.ref a] H Q := ⟨a, xs, rfl, .inl h, q⟩
theorem w_max {i j : Int} (q : Q (.int (max i j)) H) : rMx [.int i, .int j] H Q := by
  refine ⟨i, j, rfl, ?_⟩
  have e : (if j > i then j else i) = max i j := by
    rw [Int.max_def]; split <;> split <;> omega
  rw [e]; exact q
/-- a comprehension's beginning -/
theorem w_lc {wi : TI} {g : TG} {tt : TT} {te : TE} {vs : List Nat} {σ : L2.St} (q : wi σ H fun J H1 => ∀ D, H1 D = none → ∃ W : Nat → Nat → Hp → Prop, (∃ m, W 0 m (upd H1 D (.lst []))) ∧ ∀ i m H, W i m H →
  (J.stop i H ∧ Q (.ref D) H) ∨ (J.go i H ∧ ∃ Nx : Hp → Prop, (∀ H', Nx H' → ∃ m', m' < m ∧ W (i + 1) m' H') ∧ ∀ x H', J.yld i H x H' → g x (wipe σ vs) H' fun σ2 H2 => wipe σ2 vs = wipe σ vs ∧ tt σ2 H2 fun b H3 =>
    if b = true then te σ2 H3 fun y H4 => ∃ acc, H4 D = some (.lst acc) ∧ acc.length < sizeLine ∧ Nx (upd H4 D (.lst (acc ++ [y]))) else Nx H3)) : tLc wi g tt te vs σ H Q := q
/-- a turn without a test, with one -/
theorem w_it0 {te : TE} {vs : List Nat} {σ : L2.St} {i : Nat} {Yes : V → Hp → Prop} {No : Hp → Prop} (hw : wipe ((wipe σ vs).set i (some x)) vs = wipe σ vs) (q : te ((wipe σ vs).set i (some x)) H Yes) : LcItem (gName i) tYes te vs σ x H Yes No :=
  ⟨hw, iteT (B := No H) q⟩
theorem w_it1 {te : TE} {tt : TT} {vs : List Nat} {σ : L2.St} {i : Nat} {Yes : V → Hp → Prop} {No : Hp → Prop} (hw : wipe ((wipe σ vs).set i (some x)) vs = wipe σ vs)
    (q : tt ((wipe σ vs).set i (some x)) H fun b H3 => if b = true then te ((wipe σ vs).set i (some x)) H3 Yes else No H3) : LcItem (gName i) tt te vs σ x H Yes No := ⟨hw, q⟩
section
variable {R : It → Hp → Prop} {ta : TA} {te : TE} {σ : L2.St}
theorem w_iRng1 (q : ta σ H fun vs H1 => ∃ j : Int, vs = [.int j] ∧ -(2 ^ 62) ≤ j ∧ j < 2 ^ 62 ∧ R (Itr 0 j.toNat) H1) : iRng1 ta σ H R := q
theorem w_iRng2 (q : ta σ H fun vs H1 => ∃ i j : Int, vs = [.int i, .int j] ∧ (-(2 ^ 62) ≤ i ∧ i < 2 ^ 62 ∧ -(2 ^ 62) ≤ j ∧ j < 2 ^ 62) ∧ R (Itr i (j - i).toNat) H1) : iRng2 ta σ H R := q
theorem w_iList (q : te σ H fun x H1 => ∃ a, x = .ref a ∧ (∃ xs, SqL K H1 a xs) ∧ R (Itl K a) H1) : iList K te σ H R := q
theorem w_iTup (q : te σ H fun x H1 => ∃ a, x = .ref a ∧ (∃ xs, SqT K H1 a xs) ∧ R (Itt K a) H1) : iTup K te σ H R := q
end
theorem joinM_get {m n : List Int} (e : m.length = n.length) {i : Nat} (hi : i < m.length) : (joinM m n)[i]? = some (max (m.getD i 0) (n.getD i 0)) := by
  unfold joinM
  rw [List.getElem?_zipWith, List.getElem?_eq_getElem hi, List.getElem?_eq_getElem (by omega), List.getD_eq_getElem?_getD, List.getD_eq_getElem?_getD, List.getElem?_eq_getElem hi, List.getElem?_eq_getElem (by omega)]
  rfl
theorem joinM_len {m n : List Int} (e : m.length = n.length) : (joinM m n).length = m.length := by
  unfold joinM
  rw [List.length_zipWith]; omega
theorem fm_some {f : Nat → PyData} (n : Nat) : (List.range n).filterMap (fun i => some (f i)) = (List.range n).map f := by
  rw [List.filterMap_eq_map']
theorem range_map_eq {α : Type} {f : Nat → α} {l : List α} {n : Nat} (hn : l.length = n) (h : ∀ i, i < n → l[i]? = some (f i)) : (List.range n).map f = l := by
  refine List.ext_getElem? fun i => ?_
  by_cases hi : i < n
  · rw [List.getElem?_map, List.getElem?_range hi, h i hi]; rfl
  · rw [List.getElem?_eq_none (by simp; omega), List.getElem?_eq_none (by omega)]
theorem fm_join {m n : List Int} (e : m.length = n.length) : (List.range ((m.length : Int)).toNat).filterMap (fun i => some (PyData.int (max (m.getD i 0) (n.getD i 0)))) = (joinM m n).map PyData.int := by
  rw [fm_some]
  refine range_map_eq (by rw [List.length_map, joinM_len e]; omega) fun i hi => ?_
  rw [List.getElem?_map, joinM_get e (by omega)]; rfl
/-- isinstance -/
theorem isi_of {t c : String} {b : Bool} (h : TyX K H x (.type t)) (k : kitB t c = some b) (q : Q (.bl b) H) : rIsi K [x, .ty c] H Q :=
  ⟨x, .ty c, .type t, .type c, b, rfl, .ty c, h, kit_ty k, q⟩
theorem Rp.tyT (h : Rp M H x (.tuple ds)) : TyX K H x (.type "tuple") := by
  obtain ⟨a, xs, rfl, ha, r⟩ := h.tup_inv
  exact .base (.tup ha)
theorem Rp.tyL (h : Rp M H x (.list ds)) : TyX K H x (.type "list") := by
  obtain ⟨a, xs, rfl, m, ha, r⟩ := h.lst_inv
  exact .base (.lst ha)
theorem w_isiTT (h : Rp M H x (.tuple ds)) (q : Q (.bl true) H) : rIsi K [x, .ty "tuple"] H Q := isi_of h.tyT (by decide +kernel) q
theorem w_isiLL (h : Rp M H x (.list ds)) (q : Q (.bl true) H) : rIsi K [x, .ty "list"] H Q := isi_of h.tyL (by decide +kernel) q
theorem w_isiLT (h : Rp M H x (.list ds)) (q : Q (.bl false) H) : rIsi K [x, .ty "tuple"] H Q := isi_of h.tyL (by decide +kernel) q
theorem w_isiII (q : Q (.bl true) H) : rIsi K [.int i, .ty "int"] H Q := isi_of (.base (.int i)) (by decide +kernel) q
theorem w_isiIB (q : Q (.bl false) H) : rIsi K [.int i, .ty "bool"] H Q := isi_of (.base (.int i)) (by decide +kernel) q
theorem w_isiBB {b : Bool} (q : Q (.bl true) H) : rIsi K [.bl b, .ty "bool"] H Q := isi_of (.base (.bl b)) (by decide +kernel) q
theorem w_isiBI {b : Bool} (q : Q (.bl true) H) : rIsi K [.bl b, .ty "int"] H Q := isi_of (.base (.bl b)) (by decide +kernel) q
theorem w_isiSI {b : Str} (q : Q (.bl false) H) : rIsi K [.str b, .ty "int"] H Q := isi_of (.base (.str b)) (by decide +kernel) q
theorem w_isiNI (q : Q (.bl false) H) : rIsi K [.non, .ty "int"] H Q := isi_of (.base .non) (by decide +kernel) q
theorem w_isiSS {b : Str} (q : Q (.bl true) H) : rIsi K [.str b, .ty "str"] H Q := isi_of (.base (.str b)) (by decide +kernel) q
/-- for -/
theorem w_for {wi : TI} {g : TG} {tb : TS} {D : Ends} {σ : L2.St} (q : wi σ H fun J H1 => ∃ W : Nat → Nat → L2.St → Hp → Prop, (∃ m, W 0 m σ H1) ∧ ∀ i m σ H, W i m σ H →
  (J.stop i H ∧ D.nx σ H) ∨ (J.go i H ∧ ∃ N : L2.St → Hp → Prop, (∀ σ' H', N σ' H' → ∃ m', m' < m ∧ W (i + 1) m' σ' H') ∧ ∀ x H', J.yld i H x H' → g x σ H' fun σ2 H2 => tb { D with nx := N, ct := N, bk := D.nx } σ2 H2)) : tFor wi g tb D σ H := q
/-- s[i] of a list as it stands -/
theorem w_ixS (j : Nat) (h : SqL K H a xs) (ei : i = (j : Int)) (e : xs[j]? = some v) (q : Q v H) : rIxL K (.ref a) (.int i) H Q := ⟨a, xs, i, v, rfl, rfl, h, by rw [ei]; exact atI_nat e, q⟩
end
theorem w_bm {K : Frag} {T : String} {r : V → List V → Hp → VK → Prop} {to : TE} {t : TA} {σ : L2.St} {H : Hp} {Q : VK} (q : to σ H fun x H1 => tyV K T x H1 ∧ t σ H1 fun xs H2 => r x xs H2 Q) : tBM K T r to t σ H Q := q
theorem ty_lst {K : Frag} {H : Hp} {a : Addr} {xs : List V} (h : SqL K H a xs) : tyV K "list" (.ref a) H := .inl ⟨rfl, xs, h⟩
/-- if c: x = e (and no else): both ways meet with a value of which P holds -/
theorem w_ifJoin {c : Prop} [Decidable c] {ts : TS} {D : Ends} {σ : L2.St} {H : Hp} (i : Nat) (old : V) (P : V → Prop) (hold : σ.set i (some old) = σ) (po : ¬ c → P old) (key : ∀ x, P x → D.nx (σ.set i (some x)) H)
    (hA : ∀ N : L2.St → Hp → Prop, (∀ x, P x → N (σ.set i (some x)) H) → c → ts { D with nx := N } σ H) : if c then ts D σ H else tNext D σ H := by
  by_cases h : c
  · rw [if_pos h]; exact hA D.nx key h
  · rw [if_neg h]
    show D.nx σ H
    have := key old (po h)
    rw [hold] at this
    exact this
theorem w_projn {f bk ct : L2.St → Hp → Prop} {rt : VK} {σ : L2.St} {H : Hp} (q : f σ H) : (Ends.mk f rt bk ct).nx σ H := q
theorem w_projr {f bk ct : L2.St → Hp → Prop} {rt : VK} {v : V} {H : Hp} (q : rt v H) : (Ends.mk f rt bk ct).rt v H := q
/-- a cut behind a statement -/
theorem w_cut {ts tu : TS} {D : Ends} {σ : L2.St} {H : Hp} (mid : L2.St → Hp → Prop) (h1 : ∀ N : L2.St → Hp → Prop, (∀ σ' H', mid σ' H' → N σ' H') → ts { D with nx := N } σ H) (h2 : ∀ σ' H', mid σ' H' → tu D σ' H') : tSeq ts tu D σ H := h1 (tu D) h2
theorem iteD {c : Prop} [Decidable c] {A B : Prop} (h : c) (q : A) : if decide c = true then A else B := by rw [if_pos (decide_eq_true h)]; exact q
theorem iteDn {c : Prop} [Decidable c] {A B : Prop} (h : ¬ c) (q : B) : if decide c = true then A else B := by rw [if_neg (fun z => h (of_decide_eq_true z))]; exact q
theorem iteN {b : Bool} {A B : Prop} (h : b = false) (q : B) : if b = true then A else B := by rw [h]; exact iteF q
theorem iteY {b : Bool} {A B : Prop} (h : b = true) (q : A) : if b = true then A else B := by rw [h]; exact iteT q
/-! equal data -/
theorem eqvAll_ints : ∀ m n : List Int, PyData.eqvAll (m.map PyData.int) (n.map PyData.int) = decide (m = n)
  | [], [] => rfl
  | [], _ :: _ => rfl
  | _ :: _, [] => rfl
  | a :: m, b :: n => by
    rw [List.map_cons, List.map_cons]
    unfold PyData.eqvAll
    rw [eqvAll_ints m n]
    unfold PyData.eqv
    by_cases h : a = b <;> by_cases h' : m = n <;> simp [h, h']
theorem eqv_mark (m n : List Int) : PyData.eqv (markD m) (markD n) = decide (m = n) := by
  unfold markD PyData.eqv
  exact eqvAll_ints m n
theorem lay_ints : ∀ m : List Int, PyData.canLayAll0 (m.map PyData.int) = true
  | [] => by simp [PyData.canLayAll0]
  | a :: m => by simp [PyData.canLayAll0, PyData.canLay0, lay_ints m]
theorem depth_ints : ∀ m : List Int, PyData.depthAll (m.map PyData.int) = 0
  | [] => by simp [PyData.depthAll]
  | a :: m => by simp [PyData.depthAll, PyData.depth, depth_ints m]
theorem shaped_mark (m : List Int) : SeqAt.shaped (markD m) = true := by
  unfold SeqAt.shaped markD
  simp [PyData.canLay0, lay_ints, PyData.depth, depth_ints]
section
variable {K : Frag} {M M' : Addr → Prop} {H : Hp} {x y : V} {m n : List Int} {Q : VK}
theorem w_eqM (h : Rp M H x (markD m)) (h' : Rp M' H y (markD n)) (q : Q (.bl (decide (m = n))) H) : rEqD K x y H Q :=
  ⟨_, _, h.dp, h'.dp, shaped_mark m, shaped_mark n, by rw [eqv_mark]; exact q⟩
theorem w_neM (h : Rp M H x (markD m)) (h' : Rp M' H y (markD n)) (q : Q (.bl (!decide (m = n))) H) : rNeD K x y H Q :=
  ⟨_, _, h.dp, h'.dp, shaped_mark m, shaped_mark n, by rw [eqv_mark]; exact q⟩
end
theorem w_chain {r r' : R2} {ta tb tc : TE} {σ : L2.St} {H : Hp} {Q : VK} (q : ta σ H fun x H1 => tb σ H1 fun y H2 => r x y H2 fun z H3 => ∃ k, z = .bl k ∧ (if k = true then tc σ H3 fun w' H4 => r' y w' H4 Q else Q (.bl false) H3)) : tChain r r' ta tb tc σ H Q := q
/-- the law's promise -/
def sp_law (K : Frag) : Sp := fun vs H Q _ => ∃ (b : Addr) (ns : List Int), vs = [.ref b] ∧ SqL K H b (ns.map V.int) ∧ ns.length ≤ 63 ∧ ∀ H', Q (.bl true) H'
section
variable {K : Frag} {σ : L2.St} {H H' : Hp} {Q : VK} {te tv ty td : TE} {tl th : TO} {a d p : Addr} {xs : List V} {lo hi : Option Int} {D : Ends} {M : Addr → Prop}
theorem w_sl {r : V → Option Int → Option Int → Hp → VK → Prop} (q : te σ H fun x H1 => tl σ H1 fun l H2 => th σ H2 fun u H3 => r x l u H3 Q) : tSl r te tl th σ H Q := q
theorem w_part {QO : Option Int → Hp → Prop} (q : te σ H fun x H1 => ∃ i, x = .int i ∧ QO (some i) H1) : tPart te σ H QO := q
theorem w_nopart {QO : Option Int → Hp → Prop} (q : QO none H) : tNoPart σ H QO := q
theorem w_exint {R : Int → Prop} {i : Int} (q : R i) : ∃ j, V.int i = V.int j ∧ R j := ⟨i, rfl, q⟩
theorem w_slL (h : SqL K H a xs) (q : ∀ ys p, cutV xs lo hi = ys → H p = none → Q (.ref p) (upd H p (.lst ys))) : rSlL K (.ref a) lo hi H Q := ⟨a, xs, rfl, h, fun p => q _ p rfl⟩
theorem w_dput (q : tv σ H fun v H1 => td σ H1 fun x H2 => ty σ H2 fun y H3 => ∃ a H4, x = .ref a ∧ DPut H3 a y v H4 ∧ D.nx σ H4) : sDPut td ty tv D σ H := q
theorem w_sFld {K : Frag} {ta tv : TE} {f : Str} (q : tv σ H fun y H1 => ta σ H1 fun x H2 => ∃ a C dx fs, x = .ref a ∧ H2 a = some (.ins C dx fs) ∧ Cls K C ∧ NoAttr K C f ∧ fs.length < 1000 ∧ D.nx σ (upd H2 a (.ins C dx (putF f y fs)))) : sFld K ta tv f D σ H := q
theorem w_dget2 {tx : TE} (q : td σ H fun x H1 => ∃ a, x = .ref a ∧ IsD H1 a ∧ ty σ H1 fun y H2 => tx σ H2 fun z H3 => ∃ o, DGet H3 a y o ∧ Q (o.getD z) H3) : tDGet2 td ty tx σ H Q := q
theorem w_dget (q : td σ H fun x H1 => ty σ H1 fun y H2 => ∃ a v, x = .ref a ∧ DGet H2 a y (some v) ∧ Q v H2) : tDGet td ty σ H Q := q
theorem w_gSub {to ti : TE} {ts : TSet} {v : V} {Qs : L2.St → Hp → Prop} (q : to σ H fun o H1 => ti σ H1 fun i H2 => ts o i v H2 fun H3 => Qs σ H3) : gSub to ti ts v σ H Qs := q
/-- all but d stands as before -/
def But (d : Addr) (H H' : Hp) : Prop := ∀ a o, a ≠ d → H a = some o → H' a = some o
theorem But.ext (b : But d H H') (hd : ∀ xs, H d ≠ some (.tup xs) ∧ (¬ M d → H d ≠ some (.lst xs))) : Ext M M H H' :=
  ⟨fun a xs e => b a _ (fun z => by subst z; exact (hd xs).1 e) e, fun a xs m e => ⟨m, b a _ (fun z => by subst z; exact (hd xs).2 m e) e⟩⟩
theorem But.trans {H'' : Hp} (b : But d H H') (b' : But d H' H'') : But d H H'' := fun a o n e => b' a o n (b a o n e)
theorem But.same (s : Same H H') : But d H H' := fun a o _ e => s a o e
theorem But.upd (o : HO) : But d H (upd H d o) := fun a u n e => by rw [upd_ne n]; exact e
theorem But.new (h : H d = none) (b : But d H H') : Same H H' := fun a o e => b a o (ne_of_none e h) e
end
section
variable {X : Cx} {o e : Expr} {es : List Expr} {to : TE} {t : TA} {name : Str} {apos cpos pos : Pos} {T id : String} {r : V → List V → Hp → VK → Prop}
theorem pe_bm0K (K : Frag) (hK : X.K = K) (pa : PlainAttrs T) (slot : Slot T name id) (hty : typeOf (.builtin id) = pure (.type "method_descriptor")) (hm : MtR X id r) (ho : PE X o to)
    (hbase : attributeBase o name X.env (eval o X.env) = eval o X.env := by rfl) (hline : (apos.endLine == cpos.line) = true := by rfl) : PE X (.Call (.Attribute o name apos) [] [] cpos) (tBM0 K T r to) :=
  hK ▸ pe_bm0 pa slot hty hm ho hbase hline
theorem pe_bmK (K : Frag) (hK : X.K = K) (pa : PlainAttrs T) (slot : Slot T name id) (hty : typeOf (.builtin id) = pure (.type "method_descriptor")) (hm : MtR X id r) (ho : PE X o to) (ha : PA X (e :: es) t)
    (hbase : attributeBase o name X.env (eval o X.env) = eval o X.env := by rfl)
    (hfew : ((backTo cpos (starEach (e :: es) X.env)).all (fun x => !x.1) && (backToKw cpos (keywordEach [] X.env)).all (fun x => x.1.isSome)
      && decide ((e :: es).length + ([] : List Keyword).length + (if ([] : List Keyword).isEmpty then 0 else 1) < 30)) = true := by rfl)
    (hline : (apos.endLine == cpos.line) = true := by rfl) (hs : starEach (e :: es) X.env = (false, eval e X.env) :: starEach es X.env := by rfl) (hplain : (backTo cpos (starEach es X.env)).any (·.1) = false := by rfl) :
    PE X (.Call (.Attribute o name apos) (e :: es) [] cpos) (tBM K T r to t) := hK ▸ pe_bm pa slot hty hm ho ha hbase hfew hline hs hplain
theorem pe_fldK (K : Frag) (hK : X.K = K) {ta : TE} {f : Str} (he : PE X e ta) (hb : attributeBase e f X.env (eval e X.env) = eval e X.env) : PE X (.Attribute e f pos) (tFld K ta f) := hK ▸ pe_fld he hb
end
end Sb

set_option Elab.async false
set_option maxRecDepth 100000
set_option maxHeartbeats 4000000
set_option linter.all false
/-! sorted of tuples of ints, any number of them, by the tuples' order. -/
namespace Sb
open PySem L2 PyProof.Rows
/-! ### the order -/
theorem lex_irr : ∀ x : List Int, HT.lexLt x x = false
  | [] => rfl
  | a :: x => by rw [HT.lexLt_cons, if_pos rfl, lex_irr x]
theorem lex_asym : ∀ x y : List Int, HT.lexLt x y = true → HT.lexLt y x = false
  | [], [], h => by cases h
  | [], b :: y, _ => HT.lexLt_cons_nil _ _
  | a :: x, [], h => by cases h
  | a :: x, b :: y, h => by
    rw [HT.lexLt_cons] at h ⊢
    by_cases e : a = b
    · subst e
      rw [if_pos rfl] at h ⊢
      exact lex_asym x y h
    · rw [if_neg e] at h
      rw [if_neg (fun z => e z.symm)]
      have := of_decide_eq_true h
      exact decide_eq_false (by omega)
theorem lex_ntr : ∀ x y z : List Int, HT.lexLt y x = false → HT.lexLt z y = false → HT.lexLt z x = false
  | [], y, z, _, _ => by cases z <;> rfl
  | a :: x, [], z, h, _ => by rw [HT.lexLt_nil_cons] at h; cases h
  | a :: x, b :: y, [], _, h => by rw [HT.lexLt_nil_cons] at h; cases h
  | a :: x, b :: y, c :: z, h1, h2 => by
    rw [HT.lexLt_cons] at h1 h2 ⊢
    by_cases e1 : b = a
    · subst e1
      rw [if_pos rfl] at h1
      by_cases e2 : c = b
      · subst e2
        rw [if_pos rfl] at h2 ⊢
        exact lex_ntr x y z h1 h2
      · rw [if_neg e2] at h2 ⊢
        exact h2
    · rw [if_neg e1] at h1
      have := of_decide_eq_false h1
      by_cases e2 : c = b
      · subst e2
        rw [if_neg e1]
        exact h1
      · rw [if_neg e2] at h2
        have := of_decide_eq_false h2
        rw [if_neg (by omega)]
        exact decide_eq_false (by omega)
theorem lex_anti : ∀ x y : List Int, HT.lexLt x y = false → HT.lexLt y x = false → x = y
  | [], [], _, _ => rfl
  | [], b :: y, h, _ => by rw [HT.lexLt_nil_cons] at h; cases h
  | a :: x, [], _, h => by rw [HT.lexLt_nil_cons] at h; cases h
  | a :: x, b :: y, h1, h2 => by
    rw [HT.lexLt_cons] at h1 h2
    by_cases e : a = b
    · subst e
      rw [if_pos rfl] at h1 h2
      rw [lex_anti x y h1 h2]
    · rw [if_neg e] at h1
      rw [if_neg (fun z => e z.symm)] at h2
      have := of_decide_eq_false h1
      have := of_decide_eq_false h2
      omega
theorem swo_lexL {α : Type} (k : α → List Int) : SrtO.Swo fun v u => HT.lexLt (k v) (k u) := ⟨fun _ _ h => lex_asym _ _ h, fun _ _ _ h1 h2 => lex_ntr _ _ _ h1 h2⟩
/-! ### the machine's comparisons -/
def TupI (h : Heap) (v : Value) (ns : List Int) : Prop := ∃ a o xs n, v = .ref a ∧ h.get? a = some o ∧ o.cls = .type "tuple" ∧ o.data = .seq xs n ∧ IntsAre xs.toList ns
theorem TupI.keeps {h h' : Heap} {v : Value} {ns : List Int} (p : TupI h v ns) (k : ∀ b o, h.get? b = some o → o.cls = .type "tuple" → h'.get? b = some o) : TupI h' v ns := by
  obtain ⟨a, o, xs, n, e, ho, hc, hd, hi⟩ := p
  exact ⟨a, o, xs, n, e, k _ _ ho hc, hc, hd, hi⟩
section
variable {prog : Program} {w : World} {A : Around} {E : Value → Shared → Prop} {s : Shared}
theorem lex_walk {fin : Bool} {Q : Bool → Shared → Prop} : ∀ {xs ys : List Value} {ns ms : List Int} (i : Nat), IntsAre xs ns → IntsAre ys ms → fin = decide (ns.length < ms.length) → Q (HT.lexLt ns ms) s →
    PySem.W.KatLex prog w A true fin Q (xs.zip ys) i s
  | _, _, _, _, i, .nil, .nil, hf, q => by subst hf; exact q
  | _, _, _, _, i, .nil, .cons b u r, hf, q => by subst hf; exact q
  | _, _, _, _, i, .cons a t r, .nil, hf, q => by subst hf; exact q
  | _, _, _, _, i, .cons a t rx, .cons b u ry, hf, q => by
    rw [HT.lexLt_cons] at q
    show PySem.W.KatLex prog w A true fin Q ((_, _) :: _) i s
    refine PySem.W.kat_cons (SeqAt.EqAt.int_int a t b u prog w _ _ ?_)
    refine PySem.W.kat_go (fun e1 => ?_) (fun e1 => ?_)
    · have ex : a = b := by simpa using e1
      rw [if_pos ex] at q
      refine PySem.W.kat_yes (lex_walk (i + 1) rx ry ?_ q)
      rw [hf]
      simp
    · have ex : ¬ a = b := by simpa using e1
      rw [if_neg ex] at q
      exact PySem.W.kat_no (TS.oneLt_ints _ q)
theorem tupI_cmp {vs : List Value} {k : Value → List Int} (hp : ∀ v ∈ vs, TupI s.heap v (k v)) : SrtO.Cmp prog w A s (tuples' true) (fun p => p.1 ∈ vs) (SrtO.lt2 fun v u => HT.lexLt (k v) (k u)) := by
  intro p q hm hm'
  have h1 := hp _ hm
  have h2 := hp _ hm'
  show wpAny (model prog w) A (PyProof.Rows.keyLt' (PyProof.Rows.tuples' true) p.1 q.1) (fun r s' => s' = s ∧ r = HT.lexLt (k p.1) (k q.1)) (fun _ _ => False) s
  generalize k p.1 = x at h1 ⊢
  generalize k q.1 = y at h2 ⊢
  obtain ⟨a, o, xs, n, e, ho, hc, hd, hi⟩ := h1
  obtain ⟨a', o', ys, n', e', ho', hc', hd', hi'⟩ := h2
  rw [e, e']
  refine PySem.W.kat_lt ho hd ho' hd' ?_
  refine lex_walk 0 hi hi' ?_ ⟨rfl, rfl⟩
  have l1 := hi.length
  have l2 := hi'.length
  rw [← l1, ← l2, Array.length_toList, Array.length_toList]
theorem tupI_firsts {h : Heap} {k : Value → List Int} : ∀ {vs : List Value}, (∀ v ∈ vs, TupI h v (k v) ∧ k v ≠ []) → ∃ fs : List Value, PySem.W.KatTups h vs fs ∧ fs.length = vs.length ∧ ∀ f ∈ fs, ∃ x t, f = Value.int x t
  | [], _ => ⟨[], PySem.W.KatTups.nil, rfl, fun _ hm => by simp at hm⟩
  | v :: vs, hp => by
    obtain ⟨fs, h1, h2, h3⟩ := tupI_firsts (vs := vs) fun v' hm => hp v' (List.mem_cons_of_mem _ hm)
    obtain ⟨⟨a, o, xs, n, e, ho, hc, hd, hi⟩, hne⟩ := hp v (List.mem_cons_self ..)
    subst e
    obtain ⟨x, t, r, ex⟩ : ∃ x t r, xs.toList = Value.int x t :: r := by
      generalize k (Value.ref a) = ns at hi hne
      cases q : xs.toList with
      | nil => rw [q] at hi; cases hi; exact absurd rfl hne
      | cons y ys => rw [q] at hi; cases hi; exact ⟨_, _, _, rfl⟩
    refine ⟨.int x t :: fs, PySem.W.KatTups.cons ho hc hd ?_ h1, by rw [List.length_cons, List.length_cons, h2], fun f hm => ?_⟩
    · rw [← Array.getElem?_toList, ex]; rfl
    · rcases List.mem_cons.mp hm with rfl | hm
      · exact ⟨x, t, rfl⟩
      · exact h3 f hm
theorem tupI_sortable {a : Addr} {vs : List Value} {k : Value → List Int} (h0 : 0 < vs.length) (hp : ∀ v ∈ vs, TupI s.heap v (k v) ∧ k v ≠ []) (ha : ∀ o, s.heap.get? a = some o → o.cls ≠ .type "tuple") :
    SrtO.SortableO prog w A s a vs fun v u => HT.lexLt (k v) (k u) := by
  intro h' keep
  have hp' : ∀ v ∈ vs, TupI h' v (k v) ∧ k v ≠ [] := fun v hm => ⟨(hp v hm).1.keeps fun b o e c => keep b o (fun z => by subst z; exact ha o e c) e, (hp v hm).2⟩
  obtain ⟨fs, h1, h2, h3⟩ := tupI_firsts hp'
  refine ⟨PyProof.Rows.tuples' true, fun Q E hq => ?_, tupI_cmp fun v hm => (hp' v hm).1⟩
  refine PySem.W.kat_kind (T := .type "int") h1 (by omega) (fun f hm => ?_) (by rfl) ?_
  · obtain ⟨x, t, rfl⟩ := h3 f hm
    exact PySem.W.Looks.now
  · have e : (Value.type "int" != Value.type "tuple") = true := by first | decide +kernel | rfl | decide
    rw [e]
    exact hq
end
end Sb

set_option Elab.async false
set_option maxRecDepth 100000
set_option maxHeartbeats 4000000
set_option linter.all false
/-! sorted(..) as rules: a list of tuples of ints, a dict whose keys are such. -/
namespace Sb
open PySem L2 PyProof.Rows
def tupD (l : List Int) : PyData := .tuple (l.map PyData.int)
def intOf : V → Int
  | .int i => i
  | _ => 0
/-- the ints of the tuple that stands at a value -/
def ktup (H : Hp) : V → List Int
  | .ref t => match H t with
    | some (.tup xs) => xs.map intOf
    | _ => []
  | _ => []
theorem ktup_at {H : Hp} {t : Addr} {ns : List Int} (h : H t = some (.tup (ns.map V.int))) : ktup H (.ref t) = ns := by
  show (match H t with
    | some (.tup xs) => xs.map intOf
    | _ => []) = ns
  rw [h]
  show (ns.map V.int).map intOf = ns
  rw [List.map_map]
  have e : (intOf ∘ V.int) = id := funext fun i => rfl
  rw [e, List.map_id]
def sortL (ls : List (List Int)) : List (List Int) := ls.mergeSort fun a b => !HT.lexLt b a
theorem le_trans_lex (a b c : List Int) (h1 : (!HT.lexLt b a) = true) (h2 : (!HT.lexLt c b) = true) : (!HT.lexLt c a) = true := by
  simp only [Bool.not_eq_true'] at h1 h2 ⊢
  exact lex_ntr a b c h1 h2
theorem le_total_lex (a b : List Int) : ((!HT.lexLt b a) || (!HT.lexLt a b)) = true := by
  cases h : HT.lexLt b a with
  | false => rfl
  | true => rw [lex_asym _ _ h]; rfl
theorem sortL_perm (ls : List (List Int)) : (sortL ls).Perm ls := List.mergeSort_perm _ _
theorem sortL_srt (ls : List (List Int)) : (sortL ls).Pairwise fun a b => HT.lexLt b a = false :=
  (List.pairwise_mergeSort le_trans_lex le_total_lex ls).imp fun h => by simpa using h
theorem sortL_uniq {ls ys : List (List Int)} (p : ys.Perm ls) (h : ys.Pairwise fun a b => HT.lexLt b a = false) : ys = sortL ls :=
  List.Perm.eq_of_pairwise (le := fun a b => HT.lexLt b a = false) (fun a b _ _ h1 h2 => (lex_anti b a h1 h2).symm) h (sortL_srt ls) (p.trans (sortL_perm ls).symm)
section
variable {M : Addr → Prop} {H : Hp} {x : V} {xs ys zs : List V} {ls : List (List Int)}
theorem Rp.ktup {l : List Int} (h : Rp M H x (tupD l)) : ∃ t, x = .ref t ∧ H t = some (.tup (l.map V.int)) ∧ ktup H x = l := by
  obtain ⟨a, xs, rfl, ha, r⟩ := Rp.tup_inv (ds := l.map PyData.int) h
  rw [r.ints_inv] at ha
  exact ⟨a, rfl, ha, ktup_at ha⟩
theorem RpA.ktups (h : RpA M H zs (ls.map tupD)) : zs.map (Sb.ktup H) = ls := by
  refine List.ext_getElem? fun i => ?_
  rw [List.getElem?_map]
  cases e : ls[i]? with
  | none =>
    have := List.getElem?_eq_none_iff.mp e
    have := h.1
    rw [List.getElem?_eq_none (by rw [List.length_map] at this; omega)]
    rfl
  | some l =>
    obtain ⟨x, hx, r⟩ := h.at (i := i) (d := tupD l) (by rw [List.getElem?_map, e]; rfl)
    obtain ⟨t, _, _, ek⟩ := r.ktup
    rw [hx, Option.map_some, ek]
/-- sorted, as data -/
theorem RpA.sorted (h : RpA M H zs (ls.map tupD)) (p : ys.Perm zs) (s : ys.Pairwise fun a b => HT.lexLt (Sb.ktup H b) (Sb.ktup H a) = false) : RpA M H ys ((sortL ls).map tupD) := by
  have e1 := h.ktups
  have e2 : ys.map (Sb.ktup H) = sortL ls := sortL_uniq (by rw [← e1]; exact p.map _) (List.pairwise_map.mpr s)
  rw [← e2]
  refine ⟨by rw [List.length_map, List.length_map], fun i x d hx hd => ?_⟩
  rw [List.map_map, List.getElem?_map, hx] at hd
  have hd : tupD (Sb.ktup H x) = d := Option.some.inj hd
  subst hd
  have hm : x ∈ zs := p.mem_iff.mp (List.mem_of_getElem? hx)
  obtain ⟨j, hj⟩ := List.mem_iff_getElem?.mp hm
  obtain ⟨d, hd, r⟩ := h.atx hj
  rw [List.getElem?_map] at hd
  cases e : ls[j]? with
  | none => rw [e] at hd; cases hd
  | some l =>
    rw [e] at hd
    have hd : tupD l = d := Option.some.inj hd
    subst hd
    obtain ⟨t, _, _, ek⟩ := r.ktup
    rw [ek]
    exact r
end
theorem RpA.tups {M M' : Addr → Prop} {H : Hp} {xs : List V} {ls : List (List Int)} (h : RpA M H xs (ls.map tupD)) : RpA M' H xs (ls.map tupD) := by
  refine ⟨h.1, fun i x d hx hd => ?_⟩
  have r := h.2 i x d hx hd
  rw [List.getElem?_map] at hd
  cases e : ls[i]? with
  | none => rw [e] at hd; cases hd
  | some l =>
    rw [e] at hd
    have hd : tupD l = d := Option.some.inj hd
    subst hd
    exact Rp.mark r
theorem paired_get {α β : Type} {F : α → β → Prop} : ∀ {l₁ : List α} {l₂ : List β} {i : Nat} {b : β}, Paired F l₁ l₂ → l₂[i]? = some b → ∃ a, l₁[i]? = some a ∧ F a b
  | _, _, _, _, .nil, e => by simp at e
  | _, _, 0, _, .cons r _, e => by simp at e; subst e; exact ⟨_, rfl, r⟩
  | _, _, i + 1, b, .cons _ t, e => by
    obtain ⟨a, h1, h2⟩ := paired_get (i := i) (b := b) t (by simpa using e)
    exact ⟨a, by simpa using h1, h2⟩
def rSortedT (K : Frag) : List V → Hp → VK → Prop := fun vs H Q => ∃ (a : Addr) (xs : List V), vs = [V.ref a] ∧ SqL K H a xs ∧ (∀ x ∈ xs, ∃ t ns, x = V.ref t ∧ H t = some (.tup (ns.map V.int)) ∧ ns ≠ []) ∧
  ∀ ys p, (ys.Pairwise fun a b => HT.lexLt (ktup H b) (ktup H a) = false) → ys.Perm xs → H p = none → Q (.ref p) (upd H p (.lst ys))
/-- sorted(d), d a dict whose keys are tuples of ints -/
def rSortedDT : List V → Hp → VK → Prop := fun vs H Q => ∃ (a : Addr) (kvs : List (List Key × V)) (ks : List (List Int)), vs = [V.ref a] ∧ H a = some (.dT kvs) ∧ kvs.map (·.1) = ks.map (fun l => l.map Sum.inl) ∧ (∀ l ∈ ks, l ≠ []) ∧
  ∀ ys p, H p = none → (∀ M, RpA M H ys ((sortL ks).map tupD)) → Q (.ref p) (upd H p (.lst ys))
section
variable {X : Cx}
theorem tupI_of {P : Program} {w : World} {H : Hp} {h : Heap} {t : Addr} {ns : List Int} (hok : HOk P w H h) (e : H t = some (.tup (ns.map V.int))) : TupI h (.ref t) ns := by
  obtain ⟨_, its, r, o, ho, hc, n, hd⟩ := hok _ _ e
  exact ⟨t, o, its.toArray, n, rfl, ho, hc, hd, r.ints⟩
theorem cr_sortedT {X : Cx} : CallR X (.builtin "sorted") (rSortedT X.K) := by
  intro pins s σ H vs us Q I r h
  obtain ⟨a, xs, rfl, hs, hx, q⟩ := h
  obtain ⟨its, rv, hl, hz⟩ := I.list hs
  obtain ⟨u, rfl, ru⟩ := vals1 r
  obtain rfl : u = Value.ref a := ru
  obtain ⟨e1, e2⟩ := refs_back rv fun x m => by
    obtain ⟨t, ns, e, _⟩ := hx x m
    exact ⟨t, e⟩
  have hp : ∀ v ∈ its, TupI s.heap v (ktup H (backV v)) ∧ ktup H (backV v) ≠ [] := fun v hv => by
    obtain ⟨t, rfl⟩ := e2 v hv
    have hm : V.ref t ∈ xs := by rw [e1]; exact List.mem_map.mpr ⟨_, hv, rfl⟩
    obtain ⟨t', ns, e, ht, hne⟩ := hx _ hm
    cases e
    have ek : ktup H (backV (Value.ref t)) = ns := ktup_at ht
    rw [ek]
    exact ⟨tupI_of I.hok ht, hne⟩
  refine SrtO.sorted_ord (swo_lexL fun u => ktup H (backV u)) hl.isList (by rw [← rv.length]; exact hz) (fun h2 h₁ a' ha' kk => tupI_sortable (s := { s with heap := h₁ }) (by omega) (fun v hv => ⟨(hp v hv).1.keeps fun b o e _ => (kk b o e).2, (hp v hv).2⟩) fun o e => ?_) fun out h1 h2 => ?_
  · have e' : some o = some (PyProof.Rows.seqObj "list" its.toArray 0) := e.symm.trans ha'
    cases e'
    intro c
    exact absurd (Value.type.inj c) (by decide)
  · obtain ⟨ep, he'⟩ := PyProof.Rows.sortedAll_at s.heap its out.toArray
    have h3 : ∀ u ∈ out, ∃ a, u = Value.ref a := fun u hu => e2 u (h2.perm.mem_iff.mp hu)
    have hperm : (out.map backV).Perm xs := by rw [e1]; exact h2.perm.map _
    have hlen : (out.map backV).length ≤ sizeLine := by rw [hperm.length_eq]; exact hz
    exact ⟨.ref _, upd H (s.heap.objs.size + 1) (.lst (out.map backV)), I.laid (t' := s.toks) (fun _ _ => PyProof.Rows.sortedAll_old) (Nat.le_succ _) ⟨hlen, out, ep, vals_back h3, he'⟩, rfl,
      q _ _ (List.pairwise_map.mpr h1) hperm (I.hok.fresh (Nat.le_succ _))⟩
theorem cr_sortedDT {X : Cx} (hcalm : X.calm = true) : CallR X (.builtin "sorted") rSortedDT := by
  intro pins s σ H vs us Q I r h
  obtain ⟨a, kvs, ks, rfl, hd, hks, hne, q⟩ := h
  obtain ⟨u, rfl, ru⟩ := vals1 r
  obtain rfl : u = Value.ref a := ru
  obtain ⟨hz, lo, xs, rel, o, es, ep, ho, hex, hdat, hes, hnd⟩ := I.hok a _ hd
  have raw : s.heap.DictRaw a es ep := ⟨o, ho, hex, hdat⟩
  have hlen : es.size = kvs.length := by
    have := congrArg List.length hes
    rw [Array.length_toList, List.length_map] at this
    rw [this, ← Paired.length rel]
  have hkl : kvs.length = ks.length := by
    have := congrArg List.length hks
    rwa [List.length_map, List.length_map] at this
  refine Calls.call_function_entry PyProof.Rows.kind_sorted PyProof.Rows.plain_sorted PyProof.Rows.entry_sorted (PyProof.Rows.args_sorted1 _) ?_
  unfold Builtin.«sorted»
  refine wpAny_bind (m := checkCount "sorted" 1 1 _) (wpAny_pure ?_)
  refine wpAny_bind (PySem.W.kdu_collect (A := X.A.in1) (KdlSrc.rawDict lo) (I.ok.hd hcalm) raw (by rw [hlen]; exact hz) fun h' tk acc hk hacc => ?_)
  have hal : acc.toList = (xs.map fun y => Value.ref y.2.1) := by
    refine List.ext_getElem? fun i => ?_
    cases e : acc.toList[i]? with
    | none =>
      have := List.getElem?_eq_none_iff.mp e
      rw [Array.length_toList, hacc.1, hlen, Paired.length rel] at this
      rw [List.getElem?_eq_none (by rw [List.length_map]; exact this)]
    | some v =>
      obtain ⟨hi, ev⟩ := hacc.2 i v (by rw [← Array.getElem?_toList]; exact e)
      have h1 : es.toList[i]? = some es[i] := by rw [Array.getElem?_toList]; exact Array.getElem?_eq_getElem hi
      rw [hes, List.getElem?_map] at h1
      cases h2 : xs[i]? with
      | none => rw [h2] at h1; cases h1
      | some y =>
        rw [h2] at h1
        have h1 := Option.some.inj h1
        rw [List.getElem?_map, h2, ev, ← h1]
        rfl
  have hxk : RpA (fun _ => False) H (xs.map fun y => V.ref y.2.1) (ks.map tupD) := by
    refine ⟨by rw [List.length_map, List.length_map, ← hkl, Paired.length rel], fun i x d hx hd' => ?_⟩
    rw [List.getElem?_map] at hx hd'
    cases e1 : xs[i]? with
    | none => rw [e1] at hx; cases hx
    | some y =>
      cases e2 : ks[i]? with
      | none => rw [e2] at hd'; cases hd'
      | some l =>
        rw [e1] at hx
        rw [e2] at hd'
        have hx : V.ref y.2.1 = x := Option.some.inj hx
        have hd' : tupD l = d := Option.some.inj hd'
        subst hx hd'
        obtain ⟨kv, hkv, rk⟩ := paired_get rel e1
        have e3 : (kvs.map (·.1))[i]? = some (l.map Sum.inl) := by rw [hks, List.getElem?_map, e2]; rfl
        rw [List.getElem?_map, hkv] at e3
        have e3 : kv.1 = l.map Sum.inl := Option.some.inj e3
        have ht := rk.2.1
        rw [e3, List.map_map] at ht
        have e4 : (kV ∘ Sum.inl : Int → V) = V.int := funext fun i => rfl
        rw [e4] at ht
        exact .tupA ht RpA.ints
  have hitem : ∀ v ∈ acc.toList, TupI s.heap v (ktup H (backV v)) ∧ ktup H (backV v) ≠ [] := fun v hv => by
    rw [hal] at hv
    obtain ⟨y, hy, rfl⟩ := List.mem_map.mp hv
    obtain ⟨i, hi⟩ := List.mem_iff_getElem?.mp hy
    obtain ⟨d, hdd, r⟩ := hxk.atx (i := i) (x := V.ref y.2.1) (by rw [List.getElem?_map, hi]; rfl)
    rw [List.getElem?_map] at hdd
    cases e2 : ks[i]? with
    | none => rw [e2] at hdd; cases hdd
    | some l =>
      rw [e2] at hdd
      have hdd : tupD l = d := Option.some.inj hdd
      subst hdd
      obtain ⟨t, et, ht, ek⟩ := r.ktup
      have ek' : ktup H (backV (Value.ref y.2.1)) = l := ek
      rw [ek']
      cases et
      exact ⟨tupI_of I.hok ht, hne l (List.mem_of_getElem? e2)⟩
  have I1 : Inv X pins σ H { s with heap := h', toks := tk } := I.kept hk
  have hsz : acc.toList.length ≤ sizeLine := by rw [Array.length_toList, hacc.1, hlen]; exact hz
  refine wpAny_bind (wpAny_newList ?_ hsz)
  have hoL : (h'.push (PyProof.Rows.seqObj "list" acc.toList.toArray 0)).get? h'.objs.size = some (PyProof.Rows.seqObj "list" acc.toList.toArray 0) := Heap.get?_push_size _ rfl
  show wpAny _ _ _ _ _ { s with heap := h'.push (PyProof.Rows.seqObj "list" acc.toList.toArray 0), toks := tk }
  refine wpAny_bind (wpAny_holding (wpAny_call_entry PyProof.Rows.slot_list_sort ⟨_, hoL, rfl⟩ PyProof.Rows.entry_list_sort
    (SrtO.list_sort_ord (s := { s with heap := h'.push (PyProof.Rows.seqObj "list" acc.toList.toArray 0), toks := tk }) (swo_lexL fun u => ktup H (backV u)) hoL hsz
      (fun h2 => tupI_sortable (by omega) (fun v hv => ⟨(hitem v hv).1.keeps fun b o e _ => Heap.get?_push_of_some _ (hk b o e), (hitem v hv).2⟩) fun o e => ?_) fun out h1 h2 => ⟨_, rfl, ?_⟩)
    (PyProof.Rows.args_list_sort _)))
  · have e' : some o = some (PyProof.Rows.seqObj "list" acc.toList.toArray 0) := e.symm.trans hoL
    cases e'
    intro c
    exact absurd (Value.type.inj c) (by decide)
  · obtain ⟨e', he'⟩ := PyProof.Rows.sortedHeap_at (vs := acc.toList) (out := out.toArray) hoL
    have h3 : ∀ u ∈ out, ∃ a, u = Value.ref a := fun u hu => by
      have := h2.perm.mem_iff.mp hu
      rw [hal] at this
      obtain ⟨y, _, rfl⟩ := List.mem_map.mp this
      exact ⟨_, rfl⟩
    have hperm : (out.map backV).Perm (xs.map fun y => V.ref y.2.1) := by
      have := h2.perm.map backV
      rw [hal, List.map_map] at this
      exact this
    have hlen' : (out.map backV).length ≤ sizeLine := by rw [hperm.length_eq, List.length_map, ← Paired.length rel]; exact hz
    have hsrt := hxk.sorted hperm (List.pairwise_map.mpr h1)
    refine wpAny_pure ⟨_, rfl, .ref h'.objs.size, upd H h'.objs.size (.lst (out.map backV)), I1.laid (t' := tk) (fun b u e => ?_) (Nat.le_refl _) ⟨hlen', out, e', vals_back h3, he'⟩, rfl,
      q _ _ (I1.hok.fresh (Nat.le_refl _)) fun M => hsrt.tups⟩
    have hb : b < h'.objs.size := Heap.lt_size e
    rw [PyProof.Rows.sortedHeap_old (Nat.ne_of_lt hb) (by rw [PyProof.Rows.size_push']; exact Nat.lt_succ_of_lt hb)]
    exact Heap.get?_push_of_some _ e
end
section
variable {M : Addr → Prop} {H : Hp} {x : V} {Q : VK} {ls : List (List Int)} {K : Frag} {ds : List PyData} {rs : List (Int × Int × Int)}
theorem w_sortT (fr : Fr M H) (h : Rp M H x (.list (ls.map tupD))) (hne : ∀ l ∈ ls, l ≠ []) (q : ∀ p H2, H p = none → Same H H2 → Rp M H2 (.ref p) (.list ((sortL ls).map tupD)) → Q (.ref p) H2) : rSortedT K [x] H Q := by
  obtain ⟨a, xs, rfl, m, ha, r⟩ := h.lst_inv
  refine ⟨a, xs, rfl, SqL.of ha, fun x hx => ?_, fun ys p hs hp hn => ?_⟩
  · obtain ⟨i, hi⟩ := List.mem_iff_getElem?.mp hx
    obtain ⟨d, hd, rd⟩ := r.atx hi
    rw [List.getElem?_map] at hd
    cases e : ls[i]? with
    | none => rw [e] at hd; cases hd
    | some l =>
      rw [e] at hd
      have hd : tupD l = d := Option.some.inj hd
      subst hd
      obtain ⟨t, et, ht, _⟩ := rd.ktup
      exact ⟨t, l, et, ht, hne l (List.mem_of_getElem? e)⟩
  · exact q _ _ hn (Same.new hn) (.lstA (fr p hn) upd_same ((r.sorted hp hs).same (Same.new hn)))
end
end Sb

set_option Elab.async false
set_option maxRecDepth 100000
set_option maxHeartbeats 4000000
set_option linter.all false
/-! Rows and shelves as data; what their defs reckon. -/
namespace Sb
open PySem L2 PyProof.Rows
abbrev Row := Int × Int × Int
abbrev Shelf := List Int × List Row
def rowL (r : Row) : List Int := [r.1, r.2.1, r.2.2]
def rowD (r : Row) : PyData := tupD (rowL r)
def rowsD (rs : List Row) : PyData := .list (rs.map rowD)
def shelfD (s : Shelf) : PyData := .tuple [markD s.1, rowsD s.2]
theorem rowL_inj {a b : Row} (h : rowL a = rowL b) : a = b := by
  obtain ⟨a1, a2, a3⟩ := a
  obtain ⟨b1, b2, b3⟩ := b
  simp only [rowL, List.cons.injEq] at h
  obtain ⟨rfl, rfl, rfl, _⟩ := h
  rfl
def rowLe (a b : Row) : Prop := HT.lexLt (rowL b) (rowL a) = false
def sortR (rs : List Row) : List Row := rs.mergeSort fun a b => !HT.lexLt (rowL b) (rowL a)
theorem sortR_perm (rs : List Row) : (sortR rs).Perm rs := List.mergeSort_perm _ _
theorem sortR_srt (rs : List Row) : (sortR rs).Pairwise rowLe :=
  (List.pairwise_mergeSort (le := fun a b => !HT.lexLt (rowL b) (rowL a)) (fun a b c h1 h2 => le_trans_lex (rowL a) (rowL b) (rowL c) h1 h2) (fun a b => le_total_lex (rowL a) (rowL b)) rs).imp fun h => by simpa [rowLe] using h
theorem rowLe_anti {a b : Row} (h1 : rowLe a b) (h2 : rowLe b a) : a = b := rowL_inj (lex_anti _ _ h2 h1)
theorem sortR_uniq {rs ys : List Row} (p : ys.Perm rs) (h : ys.Pairwise rowLe) : ys = sortR rs :=
  List.Perm.eq_of_pairwise (le := rowLe) (fun a b _ _ h1 h2 => rowLe_anti h1 h2) h (sortR_srt rs) (p.trans (sortR_perm rs).symm)
theorem sortL_rows (rs : List Row) : sortL (rs.map rowL) = (sortR rs).map rowL :=
  (sortL_uniq ((sortR_perm rs).map _) (List.pairwise_map.mpr (sortR_srt rs))).symm
theorem sortR_len (rs : List Row) : (sortR rs).length = rs.length := (sortR_perm rs).length_eq
theorem mem_sortR {r : Row} {rs : List Row} : r ∈ sortR rs ↔ r ∈ rs := (sortR_perm rs).mem_iff
def seen (m : List Int) (r : Row) : Bool := decide (r.2.1 ≤ m.getD r.1.toNat 0)
def unseen (rs : List Row) (m : List Int) : List Row := rs.filter fun r => !seen m r
def putOn (s : Shelf) (k : Nat) (v : Int) (m : List Int) : Shelf :=
  ((joinM s.1 m).set k (s.1.getD k 0 + 1), sortR (unseen s.2 m ++ [((k : Int), s.1.getD k 0 + 1, v)]))
def droppedS (s : Shelf) (m : List Int) : Shelf := (joinM s.1 m, unseen s.2 m)
def metRows (s t : Shelf) : List Row := s.2.filter (fun r => decide (r ∈ t.2)) ++ unseen s.2 t.1 ++ unseen t.2 s.1
def metS (s t : Shelf) : Shelf := (joinM s.1 t.1, sortR (metRows s t))
/-- every row's keeper is there -/
def Rin (n : Nat) (rs : List Row) : Prop := ∀ r ∈ rs, 0 ≤ r.1 ∧ r.1 < n
theorem Rin.unseen {n : Nat} {rs : List Row} {m : List Int} (h : Rin n rs) : Rin n (unseen rs m) := fun r hr => h r (List.mem_filter.mp hr).1
theorem Rin.sort {n : Nat} {rs : List Row} (h : Rin n rs) : Rin n (sortR rs) := fun r hr => h r (mem_sortR.mp hr)
theorem Rin.app {n : Nat} {rs qs : List Row} (h : Rin n rs) (h' : Rin n qs) : Rin n (rs ++ qs) := fun r hr => (List.mem_append.mp hr).elim (h r) (h' r)
/-! equal rows -/
theorem eqv_row (a b : Row) : PyData.eqv (rowD a) (rowD b) = decide (a = b) := by
  have e : PyData.eqv (rowD a) (rowD b) = decide (rowL a = rowL b) := eqv_mark (rowL a) (rowL b)
  rw [e]
  by_cases h : a = b
  · subst h; simp
  · rw [decide_eq_false h, decide_eq_false fun z => h (rowL_inj z)]
theorem eqvAll_rows : ∀ a b : List Row, PyData.eqvAll (a.map rowD) (b.map rowD) = decide (a = b)
  | [], [] => rfl
  | [], _ :: _ => rfl
  | _ :: _, [] => rfl
  | r :: a, q :: b => by
    rw [List.map_cons, List.map_cons]
    unfold PyData.eqvAll
    rw [eqvAll_rows a b, eqv_row]
    by_cases h : r = q <;> by_cases h' : a = b <;> simp [h, h']
theorem eqv_rows (a b : List Row) : PyData.eqv (rowsD a) (rowsD b) = decide (a = b) := by
  unfold rowsD PyData.eqv
  exact eqvAll_rows a b
theorem lay_row (r : Row) : PyData.canLay0 (rowD r) = true := by
  show PyData.canLayAll0 ((rowL r).map PyData.int) = true
  exact lay_ints _
theorem lay_rows : ∀ rs : List Row, PyData.canLayAll0 (rs.map rowD) = true
  | [] => by simp [PyData.canLayAll0]
  | r :: rs => by
    rw [List.map_cons]
    unfold PyData.canLayAll0
    rw [lay_row, lay_rows rs]; rfl
theorem depth_row (r : Row) : (rowD r).depth = 1 := by
  unfold rowD tupD PyData.depth
  rw [depth_ints]
theorem depth_rows : ∀ rs : List Row, PyData.depthAll (rs.map rowD) ≤ 1
  | [] => by simp [PyData.depthAll]
  | r :: rs => by
    have h := depth_rows rs
    rw [List.map_cons]
    unfold PyData.depthAll
    rw [depth_row]; omega
theorem shaped_row (r : Row) : SeqAt.shaped (rowD r) = true := shaped_mark (rowL r)
theorem shaped_rows (rs : List Row) : SeqAt.shaped (rowsD rs) = true := by
  unfold SeqAt.shaped rowsD
  have h := depth_rows rs
  rw [Bool.and_eq_true]
  refine ⟨?_, decide_eq_true ?_⟩
  · unfold PyData.canLay0; exact lay_rows rs
  · unfold PyData.depth; omega
section
variable {M M' : Addr → Prop} {H : Hp} {x y : V} {p : Addr} {Q : VK} {K : Frag} {rs qs : List Row} {r : Row} {s : Shelf} {i : Int}
theorem rows_map (rs : List Row) : rs.map rowD = (rs.map rowL).map tupD := by rw [List.map_map]; rfl
theorem w_sortR (fr : Fr M H) (h : Rp M H x (rowsD rs)) (q : ∀ p H2, H p = none → Same H H2 → Rp M H2 (.ref p) (rowsD (sortR rs)) → Q (.ref p) H2) : rSortedT K [x] H Q := by
  unfold rowsD at h
  rw [rows_map] at h
  refine w_sortT fr h (fun l hl => ?_) fun p H2 n s r => q p H2 n s ?_
  · obtain ⟨r, _, rfl⟩ := List.mem_map.mp hl
    intro z; cases z
  · unfold rowsD
    rw [rows_map, ← sortL_rows]
    exact r
theorem any_row (r : Row) : ∀ rs : List Row, ((rs.map rowD).any fun z => PyData.eqv z (rowD r)) = decide (r ∈ rs)
  | [] => rfl
  | q :: rs => by
    rw [List.map_cons, List.any_cons, any_row r rs, eqv_row]
    by_cases h : q = r <;> by_cases h' : r ∈ rs
    · subst h; simp
    · subst h; simp
    · simp [h, h']
    · have h2 : ¬ r = q := fun z => h z.symm
      simp [h, h', h2]
theorem w_inR (h : Rp M H x (rowD r)) (h' : Rp M' H y (rowsD rs)) (q : Q (.bl (decide (r ∈ rs))) H) : rInD K x y H Q :=
  ⟨_, _, h.dp, h'.dp, shaped_row r, shaped_rows rs, by rw [any_row]; exact q⟩
theorem w_ninR (h : Rp M H x (rowD r)) (h' : Rp M' H y (rowsD rs)) (q : Q (.bl (!decide (r ∈ rs))) H) : rNotInD K x y H Q :=
  ⟨_, _, h.dp, h'.dp, shaped_row r, shaped_rows rs, by rw [any_row]; exact q⟩
theorem w_eqR (h : Rp M H x (rowsD rs)) (h' : Rp M' H y (rowsD qs)) (q : Q (.bl (decide (rs = qs))) H) : rEqD K x y H Q :=
  ⟨_, _, h.dp, h'.dp, shaped_rows rs, shaped_rows qs, by rw [eqv_rows]; exact q⟩
theorem w_neR (h : Rp M H x (rowsD rs)) (h' : Rp M' H y (rowsD qs)) (q : Q (.bl (!decide (rs = qs))) H) : rNeD K x y H Q :=
  ⟨_, _, h.dp, h'.dp, shaped_rows rs, shaped_rows qs, by rw [eqv_rows]; exact q⟩
/-- the parts of a row, of a shelf -/
theorem w_row0 (h : Rp M H x (rowD r)) (q : Q (.int r.1) H) : rIxT K x (.int 0) H Q := w_ixT 0 h rfl (d := .int r.1) rfl fun v e => by rw [e.int_inv]; exact q
theorem w_row1 (h : Rp M H x (rowD r)) (q : Q (.int r.2.1) H) : rIxT K x (.int 1) H Q := w_ixT 1 h rfl (d := .int r.2.1) rfl fun v e => by rw [e.int_inv]; exact q
theorem w_row2 (h : Rp M H x (rowD r)) (q : Q (.int r.2.2) H) : rIxT K x (.int 2) H Q := w_ixT 2 h rfl (d := .int r.2.2) rfl fun v e => by rw [e.int_inv]; exact q
theorem w_shelf0 (h : Rp M H x (shelfD s)) (q : ∀ v, Rp M H v (markD s.1) → Q v H) : rIxT K x (.int 0) H Q := w_ixT 0 h rfl (d := markD s.1) rfl q
theorem w_shelf1 (h : Rp M H x (shelfD s)) (q : ∀ v, Rp M H v (rowsD s.2) → Q v H) : rIxT K x (.int 1) H Q := w_ixT 1 h rfl (d := rowsD s.2) rfl q
theorem Rp.shelf {a b : V} (h1 : Rp M H a (markD s.1)) (h2 : Rp M H b (rowsD s.2)) : RpA M H [a, b] [markD s.1, rowsD s.2] := RpA.nil.cons h2 |>.cons h1
theorem fm_filter {rs : List Row} (p : Row → Bool) : rs.filterMap (fun r => if p r = true then some (rowD r) else none) = (rs.filter p).map rowD := by
  induction rs with
  | nil => rfl
  | cons r rs ih =>
    rw [List.filterMap_cons, List.filter_cons]
    by_cases h : p r = true
    · simp only [h, if_true, List.map_cons, ih]
    · simp only [h, if_false, ih]; simp
/-- a list of rows, by its address -/
theorem Rp.rows_at (h : Rp M H (.ref p) (rowsD rs)) (m : ¬ M' p) : Rp M' H (.ref p) (rowsD rs) := by
  obtain ⟨a, xs, e, _, ha, r⟩ := Rp.lst_inv (ds := rs.map rowD) h
  cases e
  rw [rows_map] at r
  have r' : RpA M' H xs ((rs.map rowL).map tupD) := r.tups
  rw [← rows_map] at r'
  exact .lstA m ha r'
end
end Sb

set_option Elab.async false
set_option maxRecDepth 100000
set_option maxHeartbeats 4000000
set_option linter.all false
/-! Shelves: what meets, in plain Lean. -/
namespace Sb
open PySem L2 PyProof.Rows
theorem joinM_getD {a b : List Int} (e : a.length = b.length) {i : Nat} (hi : i < a.length) : (joinM a b).getD i 0 = max (a.getD i 0) (b.getD i 0) := by
  rw [List.getD_eq_getElem?_getD, joinM_get e hi]; rfl
theorem joinM_comm (a b : List Int) : joinM a b = joinM b a := by
  unfold joinM
  rw [List.zipWith_comm]
  congr 1
  funext x y
  exact Int.max_comm y x
theorem joinM_self : ∀ a : List Int, joinM a a = a
  | [] => rfl
  | x :: a => by
    show max x x :: joinM a a = x :: a
    rw [joinM_self a, Int.max_self]
theorem ext_getD {a b : List Int} (e : a.length = b.length) (h : ∀ i, i < a.length → a.getD i 0 = b.getD i 0) : a = b := by
  refine List.ext_getElem e fun i h1 h2 => ?_
  have := h i h1
  rwa [List.getD_eq_getElem?_getD, List.getD_eq_getElem?_getD, List.getElem?_eq_getElem h1, List.getElem?_eq_getElem h2] at this
theorem joinM_abs {a b : List Int} (e : a.length = b.length) : joinM (joinM a b) a = joinM a b := by
  have l := joinM_len e
  refine ext_getD (by rw [joinM_len (by omega)]) fun i hi => ?_
  rw [joinM_len (by omega)] at hi
  rw [joinM_getD (by omega) hi, joinM_getD e (by omega)]
  omega
theorem seen_join {a b : List Int} (e : a.length = b.length) {r : Row} (h0 : 0 ≤ r.1) (h : r.1 < a.length) : seen (joinM a b) r = (seen a r || seen b r) := by
  unfold seen
  rw [joinM_getD e (by omega)]
  generalize a.getD r.1.toNat 0 = x
  generalize b.getD r.1.toNat 0 = y
  rw [← Bool.decide_or]
  exact decide_eq_decide.mpr (by omega)
theorem mem_unseen {r : Row} {rs : List Row} {m : List Int} : r ∈ unseen rs m ↔ r ∈ rs ∧ seen m r = false := by
  unfold unseen
  rw [List.mem_filter]
  simp
/-- a shelf as it may be: of n keepers; its rows in order, none twice, all seen by its mark -/
structure WF (n : Nat) (s : Shelf) : Prop where
  len : s.1.length = n
  rin : Rin n s.2
  saw : ∀ r ∈ s.2, seen s.1 r = true
  srt : s.2.Pairwise rowLe
  nod : s.2.Nodup
theorem sort_same {rs : List Row} (h : rs.Pairwise rowLe) : sortR rs = rs := (sortR_uniq (List.Perm.refl _) h).symm
theorem sort_ext {rs qs : List Row} (h1 : rs.Nodup) (h2 : qs.Nodup) (h : ∀ r, r ∈ rs ↔ r ∈ qs) : sortR rs = sortR qs :=
  sortR_uniq ((sortR_perm rs).trans ((List.perm_ext_iff_of_nodup h1 h2).mpr h)) (sortR_srt rs)
theorem rows_ext {rs qs : List Row} (h1 : rs.Nodup) (h2 : qs.Nodup) (s1 : rs.Pairwise rowLe) (s2 : qs.Pairwise rowLe) (h : ∀ r, r ∈ rs ↔ r ∈ qs) : rs = qs := by
  rw [← sort_same s1, ← sort_same s2]
  exact sort_ext h1 h2 h
theorem sortR_nod {rs : List Row} (h : rs.Nodup) : (sortR rs).Nodup := (sortR_perm rs).nodup_iff.mpr h
theorem mem_metRows {s t : Shelf} {r : Row} : r ∈ metRows s t ↔ (r ∈ s.2 ∧ r ∈ t.2) ∨ (r ∈ s.2 ∧ seen t.1 r = false) ∨ (r ∈ t.2 ∧ seen s.1 r = false) := by
  unfold metRows
  rw [List.mem_append, List.mem_append, mem_unseen, mem_unseen, List.mem_filter, decide_eq_true_eq, or_assoc]
theorem metRows_nod {n : Nat} {s t : Shelf} (hs : WF n s) (ht : WF n t) : (metRows s t).Nodup := by
  unfold metRows
  refine List.nodup_append.mpr ⟨List.nodup_append.mpr ⟨hs.nod.filter _, hs.nod.filter _, fun a ha b hb e => ?_⟩, ht.nod.filter _, fun a ha b hb e => ?_⟩
  · subst e
    have h1 := (List.mem_filter.mp ha).2
    have h2 := (mem_unseen.mp hb).2
    have := ht.saw a (of_decide_eq_true h1)
    rw [h2] at this; cases this
  · subst e
    have h2 := mem_unseen.mp hb
    have h1 : a ∈ s.2 := by
      rcases List.mem_append.mp ha with h | h
      · exact (List.mem_filter.mp h).1
      · exact (mem_unseen.mp h).1
    have := hs.saw a h1
    rw [h2.2] at this; cases this
theorem WF.met {n : Nat} {s t : Shelf} (hs : WF n s) (ht : WF n t) : WF n (metS s t) := by
  have e : s.1.length = t.1.length := by rw [hs.len, ht.len]
  have hin : Rin n (metRows s t) := fun r hr => by
    rcases mem_metRows.mp hr with h | h | h
    · exact hs.rin r h.1
    · exact hs.rin r h.1
    · exact ht.rin r h.1
  refine ⟨by show (joinM s.1 t.1).length = n; rw [joinM_len e, hs.len], hin.sort, fun r hr => ?_, sortR_srt _, sortR_nod (metRows_nod hs ht)⟩
  have hr := mem_sortR.mp hr
  obtain ⟨h0, h1⟩ := hin r hr
  show seen (joinM s.1 t.1) r = true
  rw [seen_join e h0 (by rw [hs.len]; exact h1)]
  rcases mem_metRows.mp hr with h | h | h
  · rw [hs.saw r h.1]; rfl
  · rw [hs.saw r h.1]; rfl
  · rw [ht.saw r h.1, Bool.or_true]
theorem mem_met {s t : Shelf} {r : Row} : r ∈ (metS s t).2 ↔ (r ∈ s.2 ∧ r ∈ t.2) ∨ (r ∈ s.2 ∧ seen t.1 r = false) ∨ (r ∈ t.2 ∧ seen s.1 r = false) := mem_sortR.trans mem_metRows
theorem met_comm {n : Nat} {s t : Shelf} (hs : WF n s) (ht : WF n t) : metS s t = metS t s := by
  refine Prod.ext (joinM_comm _ _) ?_
  refine sort_ext (metRows_nod hs ht) (metRows_nod ht hs) fun r => ?_
  rw [mem_metRows, mem_metRows]
  constructor
  · rintro (⟨a, b⟩ | h | h)
    · exact .inl ⟨b, a⟩
    · exact .inr (.inr h)
    · exact .inr (.inl h)
  · rintro (⟨a, b⟩ | h | h)
    · exact .inl ⟨b, a⟩
    · exact .inr (.inr h)
    · exact .inr (.inl h)
/-- s lies in t: what t knows is what s knew, and more -/
structure Lies (s t : Shelf) : Prop where
  mark : joinM t.1 s.1 = t.1
  row : ∀ r ∈ t.2, seen s.1 r = true → r ∈ s.2
  saw : ∀ r ∈ s.2, seen t.1 r = true
theorem met_lies {n : Nat} {s t : Shelf} (hs : WF n s) (ht : WF n t) (h : Lies s t) : metS t s = t := by
  refine Prod.ext h.mark ?_
  refine rows_ext (sortR_nod (metRows_nod ht hs)) ht.nod (sortR_srt _) ht.srt fun r => ?_
  rw [mem_met]
  constructor
  · rintro (⟨a, _⟩ | ⟨a, _⟩ | ⟨a, b⟩)
    · exact a
    · exact a
    · rw [h.saw r a] at b; cases b
  · intro hr
    by_cases q : seen s.1 r = true
    · exact .inl ⟨hr, h.row r hr q⟩
    · exact .inr (.inl ⟨hr, by simpa using q⟩)
theorem lies_self {n : Nat} {s : Shelf} (hs : WF n s) : Lies s s := ⟨joinM_self _, fun _ h _ => h, hs.saw⟩
theorem lies_met {n : Nat} {s t : Shelf} (hs : WF n s) (ht : WF n t) : Lies s (metS s t) := by
  have e : s.1.length = t.1.length := by rw [hs.len, ht.len]
  refine ⟨joinM_abs e, fun r hr q => ?_, fun r hr => ?_⟩
  · rcases mem_met.mp hr with h | h | h
    · exact h.1
    · exact h.1
    · rw [h.2] at q; cases q
  · obtain ⟨h0, h1⟩ := hs.rin r hr
    show seen (joinM s.1 t.1) r = true
    rw [seen_join e h0 (by rw [hs.len]; exact h1), hs.saw r hr]; rfl
theorem met_self {n : Nat} {s : Shelf} (hs : WF n s) : metS s s = s := met_lies hs hs (lies_self hs)
theorem met_abs {n : Nat} {s t : Shelf} (hs : WF n s) (ht : WF n t) : metS (metS s t) s = metS s t := met_lies hs (hs.met ht) (lies_met hs ht)
theorem metRows_len {s t : Shelf} : (metRows s t).length ≤ s.2.length + s.2.length + t.2.length := by
  unfold metRows
  rw [List.length_append, List.length_append]
  have h1 := List.length_filter_le (fun r => decide (r ∈ t.2)) s.2
  have h2 := List.length_filter_le (fun r => !seen t.1 r) s.2
  have h3 := List.length_filter_le (fun r => !seen s.1 r) t.2
  unfold unseen
  omega
end Sb

set_option Elab.async false
set_option maxRecDepth 100000
set_option maxHeartbeats 4000000
set_option linter.all false
/-! A store as it stands: its instance, its list of dicts, the shelves in them. -/
namespace Sb
open PySem L2 PyProof.Rows
abbrev KV1 := List (Str × Shelf)
abbrev Kept := List KV1
def aGet (kv : KV1) (s : Str) : Option Shelf := (kv.find? fun p => decide (p.1 = s)).map (·.2)
def aPut (kv : KV1) (s : Str) (sh : Shelf) : KV1 :=
  if (kv.any fun p => decide (p.1 = s)) = true then kv.map (fun p => if p.1 = s then (p.1, sh) else p) else kv ++ [(s, sh)]
theorem aGet_nil {s : Str} : aGet [] s = none := rfl
theorem aGet_cons {p : Str × Shelf} {kv : KV1} {s : Str} : aGet (p :: kv) s = if p.1 = s then some p.2 else aGet kv s := by
  unfold aGet
  by_cases h : p.1 = s
  · rw [List.find?_cons_of_pos (by simpa using h), if_pos h]; rfl
  · rw [List.find?_cons_of_neg (by simpa using h), if_neg h]
theorem aGet_any (s : Str) : ∀ kv : KV1, (kv.any fun p => decide (p.1 = s)) = (aGet kv s).isSome
  | [] => rfl
  | p :: kv => by
    rw [List.any_cons, aGet_cons, aGet_any s kv]
    by_cases h : p.1 = s <;> simp [h]
theorem aGet_map (s s' : Str) (sh : Shelf) : ∀ kv : KV1, aGet (kv.map fun p => if p.1 = s then (p.1, sh) else p) s' = (aGet kv s').map fun x => if s' = s then sh else x
  | [] => rfl
  | p :: kv => by
    rw [List.map_cons, aGet_cons, aGet_cons, aGet_map s s' sh kv]
    by_cases h : p.1 = s
    · rw [if_pos h]
      by_cases h' : p.1 = s'
      · have h2 : s' = s := h'.symm.trans h
        rw [if_pos h', if_pos h', Option.map_some, if_pos h2]
      · rw [if_neg h', if_neg h']
    · rw [if_neg h]
      by_cases h' : p.1 = s'
      · have h2 : ¬ s' = s := fun z => h (h'.trans z)
        rw [if_pos h', if_pos h', Option.map_some, if_neg h2]
      · rw [if_neg h', if_neg h']
theorem aGet_app (s s' : Str) (sh : Shelf) : ∀ kv : KV1, aGet kv s = none → aGet (kv ++ [(s, sh)]) s' = if s' = s then some sh else aGet kv s'
  | [], _ => by
    show aGet [(s, sh)] s' = _
    rw [aGet_cons]
    by_cases h : s = s'
    · rw [if_pos h, if_pos h.symm]
    · rw [if_neg h, if_neg fun z => h z.symm]
  | p :: kv, h => by
    rw [aGet_cons] at h
    by_cases e : p.1 = s
    · rw [if_pos e] at h; cases h
    · rw [if_neg e] at h
      rw [List.cons_append, aGet_cons, aGet_cons, aGet_app s s' sh kv h]
      by_cases e' : p.1 = s'
      · rw [if_pos e', if_pos e', if_neg fun z => e (e'.trans z)]
      · rw [if_neg e', if_neg e']
theorem aGet_put (kv : KV1) (s s' : Str) (sh : Shelf) : aGet (aPut kv s sh) s' = if s' = s then some sh else aGet kv s' := by
  unfold aPut
  rw [aGet_any]
  cases h : aGet kv s with
  | none => exact aGet_app s s' sh kv h
  | some x =>
    show aGet (kv.map fun p => if p.1 = s then (p.1, sh) else p) s' = _
    rw [aGet_map]
    by_cases e : s' = s
    · subst e; rw [h, if_pos rfl, Option.map_some, if_pos rfl]
    · rw [if_neg e]
      cases aGet kv s' with
      | none => rfl
      | some y => rw [Option.map_some, if_neg e]
theorem aPut_keys (kv : KV1) (s : Str) (sh : Shelf) : (aPut kv s sh).map (·.1) = kv.map (·.1) ∨ (s ∉ kv.map (·.1) ∧ (aPut kv s sh).map (·.1) = kv.map (·.1) ++ [s]) := by
  unfold aPut
  by_cases h : (kv.any fun p => decide (p.1 = s)) = true
  · rw [if_pos h]
    refine .inl ?_
    rw [List.map_map]
    refine List.map_congr_left fun p _ => ?_
    show (if p.1 = s then (p.1, sh) else p).1 = p.1
    split <;> rfl
  · rw [if_neg h]
    refine .inr ⟨fun z => h ?_, by rw [List.map_append]; rfl⟩
    obtain ⟨p, hp, e⟩ := List.mem_map.mp z
    exact List.any_eq_true.mpr ⟨p, hp, decide_eq_true e⟩
theorem aPut_nod {kv : KV1} {s : Str} {sh : Shelf} (h : (kv.map (·.1)).Nodup) : ((aPut kv s sh).map (·.1)).Nodup := by
  rcases aPut_keys kv s sh with e | ⟨n, e⟩
  · rw [e]; exact h
  · rw [e]; exact nd_snoc h n
theorem aPut_len (kv : KV1) (s : Str) (sh : Shelf) : (aPut kv s sh).length ≤ kv.length + 1 := by
  unfold aPut
  split
  · rw [List.length_map]; omega
  · rw [List.length_append]; exact Nat.le_refl _
theorem aGet_mem {kv : KV1} {s : Str} {sh : Shelf} (h : aGet kv s = some sh) : (s, sh) ∈ kv := by
  unfold aGet at h
  cases e : kv.find? (fun p => decide (p.1 = s)) with
  | none => rw [e] at h; cases h
  | some p =>
    rw [e] at h
    have h1 := List.find?_some e
    have h2 := List.mem_of_find?_eq_some e
    have h3 : p.2 = sh := Option.some.inj h
    have h4 : p.1 = s := of_decide_eq_true h1
    rw [← h3, ← h4]; exact h2
/-- the shelf of a key at a keeper -/
def shelfOf (n : Nat) (kv : KV1) (s : Str) : Shelf := (aGet kv s).getD (List.replicate n 0, [])
theorem shelfOf_put (n : Nat) (kv : KV1) (s s' : Str) (sh : Shelf) : shelfOf n (aPut kv s sh) s' = if s' = s then sh else shelfOf n kv s' := by
  unfold shelfOf
  rw [aGet_put]
  split <;> rfl
/-- a dict's pairs and their shelves -/
def DRel (M : Addr → Prop) (H : Hp) (kvs : List (Key × V)) (kv : KV1) : Prop := Paired (fun (p : Key × V) (q : Str × Shelf) => p.1 = Sum.inr q.1 ∧ Rp M H p.2 (shelfD q.2)) kvs kv
section
variable {M M' : Addr → Prop} {H H' : Hp} {kvs : List (Key × V)} {kv : KV1} {s : Str} {x : V} {sh : Shelf}
theorem DRel.ext (h : DRel M H kvs kv) (e : Ext M M' H H') : DRel M' H' kvs kv := Paired.mapP h fun p q r => ⟨r.1, r.2.ext e⟩
theorem DRel.get : ∀ {kvs : List (Key × V)} {kv : KV1}, DRel M H kvs kv → (valV kvs (Sum.inr s : Key) = none ∧ aGet kv s = none) ∨ ∃ x sh, valV kvs (Sum.inr s : Key) = some x ∧ aGet kv s = some sh ∧ Rp M H x (shelfD sh)
  | _, _, .nil => .inl ⟨rfl, rfl⟩
  | p :: kvs, q :: kv, .cons r t => by
    by_cases e : q.1 = s
    · have e' : p.1 = Sum.inr s := by rw [r.1, e]
      exact .inr ⟨p.2, q.2, valV_pos e', by rw [aGet_cons, if_pos e], r.2⟩
    · have e' : ¬ p.1 = Sum.inr s := fun z => e (Sum.inr.inj (r.1.symm.trans z))
      rcases DRel.get t with ⟨h1, h2⟩ | ⟨x, sh, h1, h2, h3⟩
      · exact .inl ⟨by rw [valV_neg e']; exact h1, by rw [aGet_cons, if_neg e]; exact h2⟩
      · exact .inr ⟨x, sh, by rw [valV_neg e']; exact h1, by rw [aGet_cons, if_neg e]; exact h2, h3⟩
theorem DRel.map (rx : Rp M H x (shelfD sh)) : ∀ {kvs : List (Key × V)} {kv : KV1}, DRel M H kvs kv → DRel M H (kvs.map fun p => if p.1 = (Sum.inr s : Key) then (p.1, x) else p) (kv.map fun q => if q.1 = s then (q.1, sh) else q)
  | _, _, .nil => .nil
  | p :: kvs, q :: kv, .cons r t => by
    refine .cons ?_ (DRel.map rx t)
    by_cases e : q.1 = s
    · have e' : p.1 = Sum.inr s := by rw [r.1, e]
      dsimp only
      rw [if_pos e, if_pos e']
      exact ⟨r.1, rx⟩
    · have e' : ¬ p.1 = Sum.inr s := fun z => e (Sum.inr.inj (r.1.symm.trans z))
      dsimp only
      rw [if_neg e, if_neg e']
      exact r
theorem paired_app {α β : Type} {F : α → β → Prop} : ∀ {l₁ : List α} {l₂ : List β} {a : α} {b : β}, Paired F l₁ l₂ → F a b → Paired F (l₁ ++ [a]) (l₂ ++ [b])
  | _, _, _, _, .nil, h => .cons h .nil
  | _, _, _, _, .cons r t, h => .cons r (paired_app t h)
theorem DRel.put (h : DRel M H kvs kv) (rx : Rp M H x (shelfD sh)) : DRel M H (putK kvs (Sum.inr s : Key) x) (aPut kv s sh) := by
  unfold putK aPut
  rw [valV_any, aGet_any]
  rcases h.get (s := s) with ⟨h1, h2⟩ | ⟨y, sh', h1, h2, _⟩
  · rw [h1, h2]
    exact paired_app h ⟨rfl, rx⟩
  · rw [h1, h2]
    exact h.map rx
theorem DRel.len (h : DRel M H kvs kv) : kvs.length = kv.length := Paired.length h
theorem DRel.at : ∀ {kvs : List (Key × V)} {kv : KV1} {i : Nat} {q : Str × Shelf}, DRel M H kvs kv → kv[i]? = some q → ∃ x, kvs[i]? = some (Sum.inr q.1, x) ∧ Rp M H x (shelfD q.2)
  | _, _, _, _, .nil, e => by simp at e
  | p :: kvs, _, 0, q, .cons r _, e => by
    simp at e; subst e
    refine ⟨p.2, ?_, r.2⟩
    show some p = _
    rw [← r.1]
  | _, _, i + 1, q, .cons _ t, e => by
    obtain ⟨x, h1, h2⟩ := DRel.at (i := i) (q := q) t (by simpa using e)
    exact ⟨x, by simpa using h1, h2⟩
end
/-! ### the instance -/
theorem kfs : ¬ (("first" : Str) = "kept") := by decide +kernel
def sflds (vf : V) (l : Addr) : List (Str × V) := putF "kept" (.ref l) (putF "first" vf [])
theorem sflds_first (vf : V) (l : Addr) : (sflds vf l).lookup ("first" : Str) = some vf := by
  unfold sflds
  rw [lookup_putF, if_neg kfs, lookup_putF, if_pos rfl]
theorem sflds_kept (vf : V) (l : Addr) : (sflds vf l).lookup ("kept" : Str) = some (.ref l) := by
  unfold sflds
  rw [lookup_putF, if_pos rfl]
theorem sflds_no (vf : V) (l : Addr) {m : Str} (h1 : ¬ m = "first") (h2 : ¬ m = "kept") : (sflds vf l).lookup m = none := by
  unfold sflds
  rw [lookup_putF, if_neg h2, lookup_putF, if_neg h1]
  rfl
/-- a store of n keepers stands at v: its dicts at ds hold the shelves st -/
structure StoreAt (M : Addr → Prop) (H : Hp) (C : Addr) (v : V) (ds : List Addr) (n : Nat) (st : Kept) : Prop where
  obj : ∃ p dx l vf, v = .ref p ∧ H p = some (.ins C dx (sflds vf l)) ∧ Rp M H vf (markD (List.replicate n 0)) ∧ ¬ M l ∧ H l = some (.lst (ds.map V.ref))
  dl : ds.length = n
  sl : st.length = n
  nd : ds.Nodup
  dic : ∀ (k : Nat) (d : Addr) (kv : KV1), ds[k]? = some d → st[k]? = some kv → ∃ kvs, H d = some (.dK kvs) ∧ DRel M H kvs kv
section
variable {M M' : Addr → Prop} {H H' : Hp} {C : Addr} {v : V} {ds : List Addr} {n : Nat} {st : Kept} {K : Frag} {Q : VK}
theorem StoreAt.occ (S : StoreAt M H C v ds n st) {d : Addr} (h : d ∈ ds) : ∃ kvs, H d = some (.dK kvs) := by
  obtain ⟨k, hk⟩ := List.mem_iff_getElem?.mp h
  have h1 := (List.getElem?_eq_some_iff.mp hk).1
  have h2 : k < st.length := by rw [S.sl, ← S.dl]; exact h1
  obtain ⟨kvs, h3, _⟩ := S.dic k d st[k] hk (List.getElem?_eq_getElem h2)
  exact ⟨kvs, h3⟩
theorem StoreAt.same (S : StoreAt M H C v ds n st) (s : Same H H') : StoreAt M H' C v ds n st := by
  obtain ⟨p, dx, l, vf, e, h1, h2, h3, h4⟩ := S.obj
  refine ⟨⟨p, dx, l, vf, e, s _ _ h1, h2.same s, h3, s _ _ h4⟩, S.dl, S.sl, S.nd, fun k d kv hd hk => ?_⟩
  obtain ⟨kvs, a, b⟩ := S.dic k d kv hd hk
  exact ⟨kvs, s _ _ a, b.ext (.same s)⟩
/-- a thing of the law's own is written: a list among the changing ones, or a dict that is none of the store's -/
theorem StoreAt.but {q : Addr} (S : StoreAt M H C v ds n st) (b : But q H H') (hl : ∀ xs, H q ≠ some (.tup xs) ∧ (¬ M q → H q ≠ some (.lst xs))) (hi : ∀ D dx fs, H q ≠ some (.ins D dx fs)) (hq : q ∉ ds) : StoreAt M H' C v ds n st := by
  obtain ⟨p, dx, l, vf, e, h1, h2, h3, h4⟩ := S.obj
  have ex : Ext M M H H' := b.ext hl
  refine ⟨⟨p, dx, l, vf, e, b _ _ (fun z => by subst z; exact hi _ _ _ h1) h1, h2.ext ex, h3, (ex.lst _ _ h3 h4).2⟩, S.dl, S.sl, S.nd, fun k d kv hd hk => ?_⟩
  obtain ⟨kvs, a, r⟩ := S.dic k d kv hd hk
  exact ⟨kvs, b _ _ (fun z => hq (by rw [← z]; exact List.mem_of_getElem? hd)) a, r.ext ex⟩
/-- one more address changes: it was new -/
theorem StoreAt.fresh {q : Addr} (S : StoreAt M H C v ds n st) (s : Same H H') (hq : H q = none) : StoreAt (fun a => M a ∨ a = q) H' C v ds n st := by
  obtain ⟨p, dx, l, vf, e, h1, h2, h3, h4⟩ := S.obj
  have ex : Ext M (fun a => M a ∨ a = q) H H' := Ext.fresh s hq
  refine ⟨⟨p, dx, l, vf, e, s _ _ h1, h2.ext ex, (ex.lst _ _ h3 h4).1, s _ _ h4⟩, S.dl, S.sl, S.nd, fun k d kv hd hk => ?_⟩
  obtain ⟨kvs, a, r⟩ := S.dic k d kv hd hk
  exact ⟨kvs, s _ _ a, r.ext ex⟩
theorem StoreAt.less (S : StoreAt M H C v ds n st) (k : ∀ a, M' a → M a) : StoreAt M' H C v ds n st := by
  obtain ⟨p, dx, l, vf, e, h1, h2, h3, h4⟩ := S.obj
  have ex : Ext M M' H H := Ext.less k
  refine ⟨⟨p, dx, l, vf, e, h1, h2.ext ex, fun z => h3 (k _ z), h4⟩, S.dl, S.sl, S.nd, fun i d kv hd hk => ?_⟩
  obtain ⟨kvs, a, r⟩ := S.dic i d kv hd hk
  exact ⟨kvs, a, r.ext ex⟩
/-- a shelf is laid in the dict of keeper k -/
theorem StoreAt.put {k : Nat} {d : Addr} {kv : KV1} {kvs : List (Key × V)} {key : Str} {x : V} {sh : Shelf} (S : StoreAt M H C v ds n st) (hd : ds[k]? = some d) (hk : st[k]? = some kv) (hx : Rp M H x (shelfD sh))
    (hkv : H d = some (.dK kvs)) (hr : DRel M H kvs kv) : StoreAt M (upd H d (.dK (putK kvs (Sum.inr key : Key) x))) C v ds n (st.set k (aPut kv key sh)) := by
  obtain ⟨p, dx, l, vf, e, h1, h2, h3, h4⟩ := S.obj
  have bt : But d H (upd H d (.dK (putK kvs (Sum.inr key : Key) x))) := But.upd _
  have ex : Ext M M H (upd H d (.dK (putK kvs (Sum.inr key : Key) x))) := bt.ext fun xs => ⟨fun z => (by rw [hkv] at z; cases z), fun _ z => (by rw [hkv] at z; cases z)⟩
  refine ⟨⟨p, dx, l, vf, e, bt _ _ (fun z => by subst z; rw [hkv] at h1; cases h1) h1, h2.ext ex, h3, (ex.lst _ _ h3 h4).2⟩, S.dl, by rw [List.length_set]; exact S.sl, S.nd, fun i d' kv' hd' hk' => ?_⟩
  by_cases ei : i = k
  · subst ei
    rw [hd] at hd'
    cases hd'
    have hl : i < st.length := (List.getElem?_eq_some_iff.mp hk).1
    rw [List.getElem?_set_self hl] at hk'
    cases hk'
    exact ⟨_, upd_same, (hr.put hx).ext ex⟩
  · rw [List.getElem?_set_ne (fun z => ei z.symm)] at hk'
    obtain ⟨kvs', a, r⟩ := S.dic i d' kv' hd' hk'
    have hne : d' ≠ d := fun z => ei (nd_ix S.nd (by rw [← z]; exact hd') hd)
    exact ⟨kvs', by rw [upd_ne hne]; exact a, r.ext ex⟩
end
/-! ### fields and methods, named -/
def rFld (K : Frag) (f : Str) (x : V) (H : Hp) (Q : VK) : Prop := ∃ a C dx fs v, x = .ref a ∧ H a = some (.ins C dx fs) ∧ Cls K C ∧ NoAttr K C f ∧ fs.lookup f = some v ∧ Q v H
def rMth (C : Addr) (m : Str) (x : V) (H : Hp) (R : Prop) : Prop := ∃ a dx fs, x = .ref a ∧ H a = some (.ins C dx fs) ∧ fs.lookup m = none ∧ R
section
variable {M : Addr → Prop} {H : Hp} {C : Addr} {v x : V} {ds : List Addr} {n : Nat} {st : Kept} {K : Frag} {Q : VK} {ta : TE} {f m : Str} {σ : L2.St} {sp : Sp} {dvs : List V} {E : XK} {t : TA} {R : Prop}
theorem w_tFld (q : ta σ H fun x H1 => rFld K f x H1 Q) : tFld K ta f σ H Q := q
theorem w_tMeth (q : ta σ H fun x H1 => rMth C m x H1 (t σ H1 fun vs H2 => sp (x :: (vs ++ dvs)) H2 Q E)) : tMeth C m sp dvs E ta t σ H Q := q
theorem w_kept (S : StoreAt M H C v ds n st) (c : Cls K C) (na : NoAttr K C "kept") (q : ∀ l, ¬ M l → H l = some (.lst (ds.map V.ref)) → Q (.ref l) H) : rFld K "kept" v H Q := by
  obtain ⟨p, dx, l, vf, e, h1, h2, h3, h4⟩ := S.obj
  exact ⟨p, C, dx, _, _, e, h1, c, na, sflds_kept _ _, q l h3 h4⟩
theorem w_first (S : StoreAt M H C v ds n st) (c : Cls K C) (na : NoAttr K C "first") (q : ∀ vf, Rp M H vf (markD (List.replicate n 0)) → Q vf H) : rFld K "first" v H Q := by
  obtain ⟨p, dx, l, vf, e, h1, h2, h3, h4⟩ := S.obj
  exact ⟨p, C, dx, _, _, e, h1, c, na, sflds_first _ _, q vf h2⟩
theorem w_mth (S : StoreAt M H C v ds n st) (h1 : ¬ m = "first") (h2 : ¬ m = "kept") (q : R) : rMth C m v H R := by
  obtain ⟨p, dx, l, vf, e, h3, _⟩ := S.obj
  exact ⟨p, dx, _, e, h3, sflds_no _ _ h1 h2, q⟩
/-- kept[k] -/
theorem w_dictAt {l : Addr} {k : Nat} (S : StoreAt M H C v ds n st) (hl : H l = some (.lst (ds.map V.ref))) (hk : k < n) (q : ∀ d kv kvs, ds[k]? = some d → st[k]? = some kv → H d = some (.dK kvs) → DRel M H kvs kv → Q (.ref d) H) : rIxL K (.ref l) (.int k) H Q := by
  have h1 : k < ds.length := by rw [S.dl]; exact hk
  have h2 : k < st.length := by rw [S.sl]; exact hk
  obtain ⟨kvs, a, r⟩ := S.dic k ds[k] st[k] (List.getElem?_eq_getElem h1) (List.getElem?_eq_getElem h2)
  exact w_ixS k (SqL.of hl) rfl (by rw [List.getElem?_map, List.getElem?_eq_getElem h1]; rfl) (q _ _ kvs (List.getElem?_eq_getElem h1) (List.getElem?_eq_getElem h2) a r)
end
end Sb

set_option Elab.async false
set_option maxRecDepth 100000
set_option maxHeartbeats 4000000
set_option linter.all false
/-! What is a mark, told by data; looks and letters as data; texts in order. -/
namespace Sb
open PySem L2 PyProof.Rows
def goodI : PyData → Bool
  | .int i => decide (0 ≤ i)
  | _ => false
def isMk (n : Nat) : PyData → Bool
  | .tuple ds => decide (ds.length = n) && ds.all goodI
  | _ => false
def flatD : PyData → Bool
  | .none => true
  | .bool _ => true
  | .int _ => true
  | .str _ => true
  | _ => false
def okMk : PyData → Bool
  | .tuple ds => ds.all flatD
  | .dict _ => false
  | _ => true
theorem isMk_mark {n : Nat} {m : List Int} (h : m.length = n) (p : ∀ i ∈ m, 0 ≤ i) : isMk n (markD m) = true := by
  show (decide ((m.map PyData.int).length = n) && (m.map PyData.int).all goodI) = true
  rw [List.length_map, decide_eq_true h, Bool.true_and, List.all_map, List.all_eq_true]
  exact fun i hi => decide_eq_true (p i hi)
theorem okMk_mark (m : List Int) : okMk (markD m) = true := by
  show (m.map PyData.int).all flatD = true
  rw [List.all_map, List.all_eq_true]
  exact fun _ _ => rfl
theorem goods_ints : ∀ {ds : List PyData}, ds.all goodI = true → ∃ m : List Int, ds = m.map PyData.int ∧ ∀ i ∈ m, 0 ≤ i
  | [], _ => ⟨[], rfl, fun _ z => nomatch z⟩
  | d :: ds, h => by
    rw [List.all_cons, Bool.and_eq_true] at h
    obtain ⟨m, e, p⟩ := goods_ints h.2
    cases d with
    | int i =>
      refine ⟨i :: m, by rw [e]; rfl, fun j hj => ?_⟩
      rcases List.mem_cons.mp hj with rfl | hj
      · exact of_decide_eq_true h.1
      · exact p j hj
    | _ => cases h.1
theorem mark_of_isMk {n : Nat} {d : PyData} (h : isMk n d = true) : ∃ m, d = markD m ∧ m.length = n ∧ ∀ i ∈ m, 0 ≤ i := by
  cases d with
  | tuple ds =>
    have h : (decide (ds.length = n) && ds.all goodI) = true := h
    rw [Bool.and_eq_true] at h
    obtain ⟨m, e, p⟩ := goods_ints h.2
    have h1 := of_decide_eq_true h.1
    exact ⟨m, by rw [e]; rfl, by rw [← h1, e, List.length_map], p⟩
  | _ => cases h
def isTupD : PyData → Bool
  | .tuple _ => true
  | _ => false
def isIntD : PyData → Bool
  | .int _ => true
  | .bool _ => true
  | _ => false
def isBoolD : PyData → Bool
  | .bool _ => true
  | _ => false
section
variable {K : Frag} {M : Addr → Prop} {H : Hp} {x : V} {d : PyData} {Q : VK}
theorem w_isiTany (h : Rp M H x d) (q : Q (.bl (isTupD d)) H) : rIsi K [x, .ty "tuple"] H Q := by
  cases h with
  | non => exact isi_of (b := false) (.base .non) (by decide +kernel) q
  | bl b => exact isi_of (b := false) (.base (.bl b)) (by decide +kernel) q
  | int i => exact isi_of (b := false) (.base (.int i)) (by decide +kernel) q
  | str s => exact isi_of (b := false) (.base (.str s)) (by decide +kernel) q
  | lst m ha _ _ => exact isi_of (b := false) (.base (.lst ha)) (by decide +kernel) q
  | tup ha _ _ => exact isi_of (b := true) (.base (.tup ha)) (by decide +kernel) q
theorem w_isiIany (h : Rp M H x d) (q : Q (.bl (isIntD d)) H) : rIsi K [x, .ty "int"] H Q := by
  cases h with
  | non => exact isi_of (b := false) (.base .non) (by decide +kernel) q
  | bl b => exact isi_of (b := true) (.base (.bl b)) (by decide +kernel) q
  | int i => exact isi_of (b := true) (.base (.int i)) (by decide +kernel) q
  | str s => exact isi_of (b := false) (.base (.str s)) (by decide +kernel) q
  | lst m ha _ _ => exact isi_of (b := false) (.base (.lst ha)) (by decide +kernel) q
  | tup ha _ _ => exact isi_of (b := false) (.base (.tup ha)) (by decide +kernel) q
theorem w_isiBany (h : Rp M H x d) (q : Q (.bl (isBoolD d)) H) : rIsi K [x, .ty "bool"] H Q := by
  cases h with
  | non => exact isi_of (b := false) (.base .non) (by decide +kernel) q
  | bl b => exact isi_of (b := true) (.base (.bl b)) (by decide +kernel) q
  | int i => exact isi_of (b := false) (.base (.int i)) (by decide +kernel) q
  | str s => exact isi_of (b := false) (.base (.str s)) (by decide +kernel) q
  | lst m ha _ _ => exact isi_of (b := false) (.base (.lst ha)) (by decide +kernel) q
  | tup ha _ _ => exact isi_of (b := false) (.base (.tup ha)) (by decide +kernel) q
end
/-- what a shelf must be that its defs may work at it -/
structure ShOk (n : Nat) (s : Shelf) : Prop where
  len : s.1.length = n
  rin : Rin n s.2
  few : s.2.length ≤ 3000
theorem ShOk.start (n : Nat) : ShOk n (List.replicate n 0, []) := ⟨List.length_replicate, fun _ z => (nomatch z), Nat.zero_le _⟩
def valsD (rs : List Row) : PyData := .list ((rs.map fun r => r.2.2).map PyData.int)
def lookD (s : Shelf) : PyData := .tuple [valsD s.2, markD s.1]
def letterD (key : Str) (s : Shelf) : PyData := .tuple [.str key, markD s.1, .tuple (s.2.map rowD)]
theorem fm_vals (rs : List Row) : rs.filterMap (fun r => some (PyData.int r.2.2)) = (rs.map fun r => r.2.2).map PyData.int := by
  rw [List.filterMap_eq_map', List.map_map]; rfl
section
variable {M M' : Addr → Prop} {H : Hp} {x : V} {p : Addr} {ns : List Int}
theorem Rp.ints_at (h : Rp M H (.ref p) (.list (ns.map PyData.int))) (m : ¬ M' p) : Rp M' H (.ref p) (.list (ns.map PyData.int)) := by
  obtain ⟨a, xs, e, _, ha, r⟩ := h.lst_inv
  cases e
  rw [r.ints_inv] at ha
  exact .lstA m ha RpA.ints
end
/-! ### texts in order, any number of them -/
theorem lexS_irr (x : List Nat) : ¬ x < x := List.lt_irrefl x
def ltSB (a b : Str) : Bool := decide (a.cps.toList < b.cps.toList)
def ltSv (v u : Value) : Bool := match v, u with
  | .str a _, .str b _ => ltSB a b
  | _, _ => false
def strOf : Value → Str
  | .str a _ => a
  | _ => ⟨#[]⟩
theorem swo_ltSB {α : Type} (k : α → Str) : SrtO.Swo fun v u => ltSB (k v) (k u) := by
  refine ⟨fun x y h => ?_, fun x y z h1 h2 => ?_⟩
  · have h := of_decide_eq_true h
    exact decide_eq_false fun q => List.lt_irrefl _ (List.lt_trans h q)
  · have h1 := of_decide_eq_false h1
    have h2 := of_decide_eq_false h2
    refine decide_eq_false fun q => ?_
    exact List.not_lt.mpr (List.le_trans (List.not_lt.mp h1) (List.not_lt.mp h2)) q
def sortX (xs : List Str) : List Str := xs.mergeSort fun a b => !ltSB b a
theorem sortX_perm (xs : List Str) : (sortX xs).Perm xs := List.mergeSort_perm _ _
theorem ltSB_tr (a b c : Str) (h1 : (!ltSB b a) = true) (h2 : (!ltSB c b) = true) : (!ltSB c a) = true := by
  simp only [Bool.not_eq_true'] at h1 h2 ⊢
  exact (swo_ltSB (id : Str → Str)).tr a b c h1 h2
theorem ltSB_tot (a b : Str) : ((!ltSB b a) || (!ltSB a b)) = true := by
  cases h : ltSB b a with
  | false => rfl
  | true =>
    have h2 : ltSB a b = false := (swo_ltSB (id : Str → Str)).asym b a h
    rw [h2]; rfl
theorem sortX_srt (xs : List Str) : (sortX xs).Pairwise fun a b => ltSB b a = false :=
  (List.pairwise_mergeSort (le := fun a b => !ltSB b a) ltSB_tr ltSB_tot xs).imp fun h => by simpa using h
theorem ltSB_anti {a b : Str} (h1 : ltSB b a = false) (h2 : ltSB a b = false) : a = b := by
  have h1 := List.not_lt.mp (of_decide_eq_false h1)
  have h2 := List.not_lt.mp (of_decide_eq_false h2)
  have h3 := List.le_antisymm h1 h2
  obtain ⟨⟨a⟩⟩ := a
  obtain ⟨⟨b⟩⟩ := b
  have h3 : a = b := h3
  rw [h3]
theorem sortX_uniq {xs ys : List Str} (p : ys.Perm xs) (h : ys.Pairwise fun a b => ltSB b a = false) : ys = sortX xs :=
  List.Perm.eq_of_pairwise (le := fun a b => ltSB b a = false) (fun a b _ _ h1 h2 => ltSB_anti h1 h2) h (sortX_srt xs) (p.trans (sortX_perm xs).symm)
section
variable {prog : Program} {w : World} {A : Around} {E : Value → Shared → Prop} {s : Shared}
theorem strs_mem : ∀ {vs : List Value} {ns : List Str}, StrsAre vs ns → ∀ v ∈ vs, ∃ i t, v = Value.str i t
  | _, _, .nil, v, h => absurd h (by simp)
  | _, _, .cons n t r, v, h => by
    rcases List.mem_cons.mp h with e | h
    · exact ⟨n, t, e⟩
    · exact strs_mem r v h
theorem strs_of : ∀ {vs : List Value}, (∀ v ∈ vs, ∃ i t, v = Value.str i t) → StrsAre vs (vs.map strOf)
  | [], _ => .nil
  | v :: vs, h => by
    obtain ⟨i, t, e⟩ := h v List.mem_cons_self
    subst e
    exact .cons i t (strs_of fun u hu => h u (List.mem_cons_of_mem _ hu))
theorem of_strs : ∀ {vs : List Value} {ns : List Str}, StrsAre vs ns → vs.map strOf = ns
  | _, _, .nil => rfl
  | _, _, .cons n t r => congrArg (n :: ·) (of_strs r)
theorem str_cmp {vs : List Value} {ns : List Str} (hI : StrsAre vs ns) : SrtO.Cmp prog w A s oneType' (fun p => p.1 ∈ vs) (SrtO.lt2 fun v u => ltSB (strOf v) (strOf u)) := by
  intro p q hm hm'
  obtain ⟨a, t, e⟩ := strs_mem hI _ hm
  obtain ⟨b, u, e'⟩ := strs_mem hI _ hm'
  show wpAny (model prog w) A (keyLt' oneType' p.1 q.1) (fun r s' => s' = s ∧ r = ltSB (strOf p.1) (strOf q.1)) (fun _ _ => False) s
  rw [e, e', keyLt'_oneType]
  exact oneLt_str ⟨rfl, rfl⟩
theorem strs_sortable {a : Addr} {vs : List Value} {ns : List Str} (hI : StrsAre vs ns) (h2 : 2 ≤ vs.length) : SrtO.SortableO prog w A s a vs fun v u => ltSB (strOf v) (strOf u) := by
  intro h' _
  refine ⟨oneType', fun Q E hq => ?_, str_cmp hI⟩
  match vs, hI, h2 with
  | v1 :: v2 :: rest, hI, _ =>
    rw [keyKind_strs hI]
    exact wpAny_pure hq
  | [], _, h => exact absurd h (by decide)
  | [v], _, h => exact absurd h (by simp)
end
def rSortedX (K : Frag) : List V → Hp → VK → Prop := fun vs H Q => ∃ (a : Addr) (xs : List Str), vs = [V.ref a] ∧ SqL K H a (xs.map V.str) ∧ ∀ p, H p = none → Q (.ref p) (upd H p (.lst ((sortX xs).map V.str)))
theorem cr_sortedX {X : Cx} : CallR X (.builtin "sorted") (rSortedX X.K) := by
  intro pins s σ H vs us Q I r h
  obtain ⟨a, ns, rfl, hs, q⟩ := h
  obtain ⟨its, rv, hl, hz⟩ := I.list hs
  rw [Vals.ref1 r]
  have hi := rv.strs
  refine SrtO.sorted_ord (swo_ltSB strOf) hl.isList (by rw [← rv.length]; exact hz) (fun h2 h₁ a' _ _ => strs_sortable hi h2) fun out h1 h2 => ?_
  have h3 : ∀ v ∈ out, ∃ i t, v = Value.str i t := fun v hv => strs_mem hi v (h2.perm.mem_iff.mp hv)
  have k1 := strs_of h3
  have k2 : (out.map strOf).Perm ns := by
    have q := h2.perm.map strOf
    rw [of_strs hi] at q
    exact q
  have k3 : out.map strOf = sortX ns := sortX_uniq k2 (List.pairwise_map.mpr h1)
  obtain ⟨ep, he'⟩ := PyProof.Rows.sortedAll_at s.heap its out.toArray
  have hlen : ((sortX ns).map V.str).length ≤ sizeLine := by
    rw [List.length_map, (sortX_perm ns).length_eq]
    rw [List.length_map] at hz
    exact hz
  rw [k3] at k1
  exact ⟨.ref _, upd H (s.heap.objs.size + 1) (.lst ((sortX ns).map V.str)), I.laid (t' := s.toks) (fun _ _ => PyProof.Rows.sortedAll_old) (Nat.le_succ _) ⟨hlen, out, ep, vals_of_strs k1, he'⟩, rfl, q _ (I.hok.fresh (Nat.le_succ _))⟩
end Sb

set_option Elab.async false
set_option maxRecDepth 100000
set_option maxHeartbeats 4000000
set_option linter.all false
/-! Shelves of a whole run: what each keeps; a store of one key; what a store's deed leaves. -/
namespace Sb
open PySem L2 PyProof.Rows
/-- a shelf in a run: its rows are some of those put -/
structure Good (G : List Row) (n : Nat) (s : Shelf) : Prop where
  wf : WF n s
  pos : ∀ i, 0 ≤ s.1.getD i 0
  sub : ∀ r ∈ s.2, r ∈ G ∧ 1 ≤ r.2.1
theorem getD_rep (n : Nat) (i : Nat) : (List.replicate n (0 : Int)).getD i 0 = 0 := by
  rw [List.getD_eq_getElem?_getD, List.getElem?_replicate]
  split <;> rfl
theorem Good.start (G : List Row) (n : Nat) : Good G n (List.replicate n 0, []) :=
  ⟨⟨List.length_replicate, fun _ z => (nomatch z), fun _ z => (nomatch z), List.Pairwise.nil, List.nodup_nil⟩, fun i => by rw [getD_rep]; exact Int.le_refl 0, fun _ z => (nomatch z)⟩
section
variable {G G' : List Row} {n : Nat} {s t : Shelf} {m : List Int} {k : Nat} {v : Int}
theorem Good.mono (h : Good G n s) (sub : ∀ r ∈ G, r ∈ G') : Good G' n s := ⟨h.wf, h.pos, fun r hr => ⟨sub r (h.sub r hr).1, (h.sub r hr).2⟩⟩
theorem Good.few (h : Good G n s) : s.2.length ≤ G.length := List.Nodup.length_le_of_subset h.wf.nod fun r hr => (h.sub r hr).1
theorem Good.ok (h : Good G n s) (hG : G.length ≤ 3000) : ShOk n s := ⟨h.wf.len, h.wf.rin, by have := h.few; omega⟩
theorem getD_mem {m : List Int} (p : ∀ i, 0 ≤ m.getD i 0) : ∀ i ∈ m, 0 ≤ i := fun i hi => by
  obtain ⟨j, hj⟩ := List.mem_iff_getElem?.mp hi
  have := p j
  rw [List.getD_eq_getElem?_getD, hj] at this
  exact this
theorem mem_getD {m : List Int} (p : ∀ i ∈ m, 0 ≤ i) : ∀ i, 0 ≤ m.getD i 0 := fun i => by
  rw [List.getD_eq_getElem?_getD]
  cases h : m[i]? with
  | none => exact Int.le_refl 0
  | some x => exact p x (List.mem_of_getElem? h)
theorem Good.isMk (h : Good G n s) : isMk n (markD s.1) = true := isMk_mark h.wf.len (getD_mem h.pos)
theorem joinM_pos {a b : List Int} (e : a.length = b.length) (ha : ∀ i, 0 ≤ a.getD i 0) : ∀ i, 0 ≤ (joinM a b).getD i 0 := fun i => by
  by_cases hi : i < a.length
  · rw [joinM_getD e hi]
    have := ha i
    omega
  · rw [List.getD_eq_getElem?_getD, List.getElem?_eq_none (by rw [joinM_len e]; omega)]
    exact Int.le_refl 0
theorem Good.met (hs : Good G n s) (ht : Good G n t) : Good G n (metS s t) := by
  refine ⟨hs.wf.met ht.wf, joinM_pos (by rw [hs.wf.len, ht.wf.len]) hs.pos, fun r hr => ?_⟩
  rcases mem_met.mp hr with h | h | h
  · exact hs.sub r h.1
  · exact hs.sub r h.1
  · exact ht.sub r h.1
theorem Good.dropped (hs : Good G n s) (hm : m.length = n) : Good G n (droppedS s m) := by
  have e : s.1.length = m.length := by rw [hs.wf.len, hm]
  refine ⟨⟨by show (joinM s.1 m).length = n; rw [joinM_len e, hs.wf.len], hs.wf.rin.unseen, fun r hr => ?_, ?_, ?_⟩, joinM_pos e hs.pos, fun r hr => hs.sub r (mem_unseen.mp hr).1⟩
  · have hr := (mem_unseen.mp hr).1
    obtain ⟨h0, h1⟩ := hs.wf.rin r hr
    show seen (joinM s.1 m) r = true
    rw [seen_join e h0 (by rw [hs.wf.len]; exact h1), hs.wf.saw r hr]; rfl
  · exact hs.wf.srt.filter _
  · exact hs.wf.nod.filter _
/-- the row of a put -/
def newRow (s : Shelf) (k : Nat) (v : Int) : Row := ((k : Int), s.1.getD k 0 + 1, v)
theorem mem_putOn {r : Row} : r ∈ (putOn s k v m).2 ↔ (r ∈ s.2 ∧ seen m r = false) ∨ r = newRow s k v := by
  unfold putOn
  rw [mem_sortR, List.mem_append, mem_unseen, List.mem_singleton]; rfl
theorem new_unseen (k : Nat) (v : Int) (s : Shelf) : seen s.1 (newRow s k v) = false := by
  unfold seen newRow
  exact decide_eq_false (by simp; omega)
theorem putRows_nod (h : WF n s) : (unseen s.2 m ++ [newRow s k v]).Nodup := by
  refine nd_snoc (h.nod.filter _) fun z => ?_
  have h1 := h.saw _ (mem_unseen.mp z).1
  rw [new_unseen] at h1; cases h1
theorem putMark_getD (e : s.1.length = m.length) {i : Nat} (hi : i < s.1.length) : (putOn s k v m).1.getD i 0 = if i = k then s.1.getD k 0 + 1 else max (s.1.getD i 0) (m.getD i 0) := by
  show ((joinM s.1 m).set k (s.1.getD k 0 + 1)).getD i 0 = _
  have hi' : i < (joinM s.1 m).length := by rw [joinM_len e]; exact hi
  rw [List.getD_eq_getElem?_getD]
  by_cases h : i = k
  · subst h
    rw [List.getElem?_set_self hi', if_pos rfl]; rfl
  · rw [List.getElem?_set_ne (fun z => h z.symm), if_neg h, ← List.getD_eq_getElem?_getD, joinM_getD e hi]
theorem putMark_len (e : s.1.length = m.length) : (putOn s k v m).1.length = s.1.length := by
  show ((joinM s.1 m).set k (s.1.getD k 0 + 1)).length = _
  rw [List.length_set, joinM_len e]
theorem Good.put (hs : Good G n s) (hm : m.length = n) (hk : k < n) (hG : ∀ r ∈ G, r ∈ G') (hn : newRow s k v ∈ G') : Good G' n (putOn s k v m) := by
  have e : s.1.length = m.length := by rw [hs.wf.len, hm]
  have rin : Rin n (unseen s.2 m ++ [newRow s k v]) := hs.wf.rin.unseen.app fun r hr => by
    rw [List.mem_singleton] at hr
    subst hr
    exact ⟨Int.natCast_nonneg k, by show (k : Int) < n; omega⟩
  refine ⟨⟨by rw [putMark_len e, hs.wf.len], rin.sort, fun r hr => ?_, sortR_srt _, sortR_nod (putRows_nod hs.wf)⟩, fun i => ?_, fun r hr => ?_⟩
  · rcases mem_putOn.mp hr with h | h
    · obtain ⟨h0, h1⟩ := hs.wf.rin r h.1
      have hsaw := hs.wf.saw r h.1
      unfold seen at hsaw ⊢
      rw [putMark_getD e (by rw [hs.wf.len]; omega)]
      have := of_decide_eq_true hsaw
      refine decide_eq_true ?_
      split
      · rename_i q; rw [q] at this; omega
      · omega
    · subst h
      unfold seen newRow
      have hk' : ((k : Int)).toNat = k := by omega
      dsimp only
      rw [hk', putMark_getD e (by rw [hs.wf.len]; exact hk), if_pos rfl]
      exact decide_eq_true (Int.le_refl _)
  · by_cases hi : i < s.1.length
    · rw [putMark_getD e hi]
      have h1 := hs.pos k
      have h2 := hs.pos i
      split <;> omega
    · rw [List.getD_eq_getElem?_getD, List.getElem?_eq_none (by rw [putMark_len e]; omega)]
      exact Int.le_refl 0
  · rcases mem_putOn.mp hr with h | h
    · exact ⟨hG r (hs.sub r h.1).1, (hs.sub r h.1).2⟩
    · subst h
      refine ⟨hn, ?_⟩
      have := hs.pos k
      show 1 ≤ s.1.getD k 0 + 1
      omega
end
/-! ### a store of one key -/
def One (key : Str) (kv : KV1) : Prop := kv = [] ∨ ∃ sh, kv = [(key, sh)]
theorem One.put {key : Str} {kv : KV1} (h : One key kv) (sh : Shelf) : One key (aPut kv key sh) := by
  rcases h with rfl | ⟨s, rfl⟩
  · exact .inr ⟨sh, rfl⟩
  · refine .inr ⟨sh, ?_⟩
    unfold aPut
    rw [if_pos (by simp)]
    simp
theorem One.len {key : Str} {kv : KV1} (h : One key kv) : kv.length ≤ 1 := by
  rcases h with rfl | ⟨s, rfl⟩
  · exact Nat.zero_le _
  · exact Nat.le_refl _
theorem One.other {key s : Str} {kv : KV1} {n : Nat} (h : One key kv) (e : ¬ s = key) : shelfOf n kv s = (List.replicate n 0, []) := by
  unfold shelfOf
  rcases h with rfl | ⟨sh, rfl⟩
  · rfl
  · rw [aGet_cons, if_neg fun z => e z.symm]; rfl
def setF (f : Nat → Shelf) (k : Nat) (s : Shelf) : Nat → Shelf := fun i => if i = k then s else f i
theorem setF_eq {f : Nat → Shelf} {k : Nat} {s : Shelf} : setF f k s k = s := if_pos rfl
theorem setF_ne {f : Nat → Shelf} {k i : Nat} {s : Shelf} (h : i ≠ k) : setF f k s i = f i := if_neg h
/-- a store of n keepers at v that knows the key alone: f tells the shelves -/
def OneAt (M : Addr → Prop) (H : Hp) (C : Addr) (v : V) (ds : List Addr) (n : Nat) (key : Str) (f : Nat → Shelf) : Prop :=
  ∃ st, StoreAt M H C v ds n st ∧ ∀ (k : Nat) (kv : KV1), st[k]? = some kv → One key kv ∧ shelfOf n kv key = f k
/-- all but the dicts stands as before -/
structure Keep (H H' : Hp) : Prop where
  keep : ∀ b o, (∀ kvs, o ≠ .dK kvs) → H b = some o → H' b = some o
  occ : ∀ b, H' b = none → H b = none
section
variable {M M' : Addr → Prop} {H H' H'' : Hp} {C : Addr} {v x : V} {ds : List Addr} {n : Nat} {key : Str} {f : Nat → Shelf} {K : Frag} {d : PyData}
theorem Keep.same (s : Same H H') : Keep H H' := ⟨fun b o _ e => s b o e, fun b e => s.free e⟩
theorem Keep.refl (H : Hp) : Keep H H := .same (Same.refl H)
theorem Keep.trans (a : Keep H H') (b : Keep H' H'') : Keep H H'' := ⟨fun x o n e => b.keep x o n (a.keep x o n e), fun x e => a.occ x (b.occ x e)⟩
theorem Keep.ext (k : Keep H H') : Ext M M H H' := ⟨fun a xs e => k.keep a _ (fun _ z => nomatch z) e, fun a xs m e => ⟨m, k.keep a _ (fun _ z => nomatch z) e⟩⟩
theorem Keep.rp (k : Keep H H') (h : Rp M H x d) : Rp M H' x d := h.ext k.ext
theorem Keep.fr (k : Keep H H') (f : Fr M H) : Fr M H' := fun a e => f a (k.occ a e)
theorem Keep.lst (k : Keep H H') {a : Addr} {xs : List V} (h : H a = some (.lst xs)) : H' a = some (.lst xs) := k.keep a _ (fun _ z => nomatch z) h
theorem Keep.seq (k : Keep H H') {a : Addr} {xs : List V} (h : SqL K H a xs) : SqL K H' a xs := by
  rcases h with (h | ⟨o, h⟩) | h
  · exact .inl (.inl (k.lst h))
  · exact .inl (.inr ⟨o, k.keep a _ (fun _ z => nomatch z) h⟩)
  · exact .inr h
theorem Keep.old (k : Keep H H') (h : Rp (Old H') H'' x d) : Rp (Old H) H'' x d := h.ext (Ext.less fun a m z => m (k.occ a z))
theorem StoreAt.keep {st st' : Kept} {dk : Addr} (S : StoreAt M H C v ds n st) (S' : StoreAt M' H' C v ds n st') (hd : dk ∈ ds) (b : But dk H H') : Keep H H' := by
  refine ⟨fun a o no e => b a o (fun z => ?_) e, fun a e => ?_⟩
  · obtain ⟨kvs, hk⟩ := S.occ hd
    rw [z, hk] at e
    exact no kvs (Option.some.inj e).symm
  · cases q : H a with
    | none => rfl
    | some o =>
      by_cases z : a = dk
      · obtain ⟨kvs, hk⟩ := S'.occ hd
        rw [z, hk] at e; cases e
      · rw [b a o z q] at e; cases e
theorem StoreAt.write {st : Kept} {L : Addr} {xs ys : List V} (S : StoreAt M H C v ds n st) (m : M L) (h : H L = some (.lst xs)) : StoreAt M (upd H L (.lst ys)) C v ds n st :=
  S.but (But.upd _) (fun zs => ⟨fun z => (by rw [h] at z; cases z), fun z => absurd m z⟩) (fun D dx fs z => by rw [h] at z; cases z) fun z => by
    obtain ⟨kvs, hk⟩ := S.occ z
    rw [hk] at h; cases h
theorem OneAt.same (S : OneAt M H C v ds n key f) (s : Same H H') : OneAt M H' C v ds n key f := let ⟨st, a, b⟩ := S; ⟨st, a.same s, b⟩
theorem OneAt.fresh {q : Addr} (S : OneAt M H C v ds n key f) (s : Same H H') (hq : H q = none) : OneAt (fun a => M a ∨ a = q) H' C v ds n key f := let ⟨st, a, b⟩ := S; ⟨st, a.fresh s hq, b⟩
theorem OneAt.less (S : OneAt M H C v ds n key f) (k : ∀ a, M' a → M a) : OneAt M' H C v ds n key f := let ⟨st, a, b⟩ := S; ⟨st, a.less k, b⟩
theorem OneAt.write {L : Addr} {xs ys : List V} (S : OneAt M H C v ds n key f) (m : M L) (h : H L = some (.lst xs)) : OneAt M (upd H L (.lst ys)) C v ds n key f := let ⟨st, a, b⟩ := S; ⟨st, a.write m h, b⟩
theorem OneAt.start (S : StoreAt M H C v ds n (List.replicate n [])) : OneAt M H C v ds n key fun _ => (List.replicate n 0, []) :=
  ⟨_, S, fun k kv h => by
    rw [List.getElem?_replicate] at h
    split at h
    · cases h; exact ⟨.inl rfl, rfl⟩
    · cases h⟩
theorem OneAt.at {k : Nat} (S : OneAt M H C v ds n key f) (hk : k < n) : ∃ st kv dk, StoreAt M H C v ds n st ∧ st[k]? = some kv ∧ ds[k]? = some dk ∧ One key kv ∧ shelfOf n kv key = f k ∧ ∀ (k : Nat) (kv : KV1), st[k]? = some kv → One key kv ∧ shelfOf n kv key = f k := by
  obtain ⟨st, a, b⟩ := S
  have h1 : st[k]? = some (st[k]'(by rw [a.sl]; exact hk)) := List.getElem?_eq_getElem _
  exact ⟨st, _, _, a, h1, List.getElem?_eq_getElem (by rw [a.dl]; exact hk), (b k _ h1).1, (b k _ h1).2, b⟩
theorem OneAt.put {st : Kept} {k : Nat} {kv : KV1} {sh : Shelf} (b : ∀ (k : Nat) (kv : KV1), st[k]? = some kv → One key kv ∧ shelfOf n kv key = f k) (h : st[k]? = some kv) (S : StoreAt M H C v ds n (st.set k (aPut kv key sh))) : OneAt M H C v ds n key (setF f k sh) := by
  refine ⟨_, S, fun i kv' h' => ?_⟩
  by_cases e : i = k
  · subst e
    rw [List.getElem?_set_self (List.getElem?_eq_some_iff.mp h).1] at h'
    cases h'
    exact ⟨(b i kv h).1.put sh, by rw [shelfOf_put, if_pos rfl, setF_eq]⟩
  · rw [List.getElem?_set_ne (fun z => e z.symm)] at h'
    rw [setF_ne e]
    exact b i kv' h'
end
end Sb

set_option Elab.async false
set_option maxRecDepth 100000
set_option maxHeartbeats 4000000
set_option linter.all false
/-! Equal data of looks, of lists of ints and of texts. -/
namespace Sb
open PySem L2 PyProof.Rows
mutual
theorem eqv_refl : ∀ d : PyData, d.canLay0 = true → PyData.eqv d d = true
  | .none, _ => by unfold PyData.eqv; rfl
  | .bool b, _ => by unfold PyData.eqv; simp
  | .int i, _ => by unfold PyData.eqv; simp
  | .str x, _ => by unfold PyData.eqv; simp
  | .list xs, h => by
    unfold PyData.eqv
    unfold PyData.canLay0 at h
    exact eqvAll_refl xs h
  | .tuple xs, h => by
    unfold PyData.eqv
    unfold PyData.canLay0 at h
    exact eqvAll_refl xs h
  | .dict xs, h => by unfold PyData.canLay0 at h; cases h
theorem eqvAll_refl : ∀ ds : List PyData, PyData.canLayAll0 ds = true → PyData.eqvAll ds ds = true
  | [], _ => by unfold PyData.eqvAll; rfl
  | d :: ds, h => by
    unfold PyData.canLayAll0 at h
    rw [Bool.and_eq_true] at h
    unfold PyData.eqvAll
    rw [eqv_refl d h.1, eqvAll_refl ds h.2]; rfl
end
theorem lay_list {ds : List PyData} : (PyData.list ds).canLay0 = PyData.canLayAll0 ds := by unfold PyData.canLay0; rfl
theorem lay_tuple {ds : List PyData} : (PyData.tuple ds).canLay0 = PyData.canLayAll0 ds := by
  conv => lhs; unfold PyData.canLay0
theorem depth_list {ds : List PyData} : (PyData.list ds).depth = PyData.depthAll ds + 1 := by
  conv => lhs; unfold PyData.depth
theorem depth_tuple {ds : List PyData} : (PyData.tuple ds).depth = PyData.depthAll ds + 1 := by
  conv => lhs; unfold PyData.depth
theorem layAll_cons {d : PyData} {ds : List PyData} : PyData.canLayAll0 (d :: ds) = (d.canLay0 && PyData.canLayAll0 ds) := by
  conv => lhs; unfold PyData.canLayAll0
theorem layAll_nil : PyData.canLayAll0 [] = true := by unfold PyData.canLayAll0; rfl
theorem depthAll_nil : PyData.depthAll [] = 0 := by unfold PyData.depthAll; rfl
theorem depthAll_cons {d : PyData} {ds : List PyData} : PyData.depthAll (d :: ds) = max d.depth (PyData.depthAll ds) := by
  conv => lhs; unfold PyData.depthAll
theorem shaped_of {d : PyData} (h : d.canLay0 = true) (k : d.depth ≤ 64) : SeqAt.shaped d = true := by
  unfold SeqAt.shaped
  rw [h, decide_eq_true k]; rfl
/-- no deeper than n -/
structure Sh (n : Nat) (d : PyData) : Prop where
  lay : d.canLay0 = true
  deep : d.depth ≤ n
theorem Sh.shaped {n : Nat} {d : PyData} (h : Sh n d) (hn : n ≤ 64) : SeqAt.shaped d = true := shaped_of h.lay (Nat.le_trans h.deep hn)
theorem sh_all {n : Nat} : ∀ {ds : List PyData}, (∀ d ∈ ds, Sh n d) → PyData.canLayAll0 ds = true ∧ PyData.depthAll ds ≤ n
  | [], _ => ⟨layAll_nil, by rw [depthAll_nil]; exact Nat.zero_le _⟩
  | d :: ds, h => by
    have h1 := h d List.mem_cons_self
    have h2 := sh_all fun e he => h e (List.mem_cons_of_mem _ he)
    refine ⟨by rw [layAll_cons, h1.lay, h2.1]; rfl, ?_⟩
    rw [depthAll_cons]
    have := h1.deep
    omega
theorem Sh.list {n : Nat} {ds : List PyData} (h : ∀ d ∈ ds, Sh n d) : Sh (n + 1) (.list ds) := ⟨by rw [lay_list]; exact (sh_all h).1, by rw [depth_list]; have := (sh_all h).2; omega⟩
theorem Sh.tuple {n : Nat} {ds : List PyData} (h : ∀ d ∈ ds, Sh n d) : Sh (n + 1) (.tuple ds) := ⟨by rw [lay_tuple]; exact (sh_all h).1, by rw [depth_tuple]; have := (sh_all h).2; omega⟩
theorem sh_int (i : Int) : Sh 0 (.int i) := ⟨by unfold PyData.canLay0; rfl, by unfold PyData.depth; exact Nat.le_refl _⟩
theorem sh_str {x : Str} (h : PyData.strOk x = true) : Sh 0 (.str x) := ⟨by unfold PyData.canLay0; exact h, by unfold PyData.depth; exact Nat.le_refl _⟩
theorem Sh.mono {n m : Nat} {d : PyData} (h : Sh n d) (k : n ≤ m) : Sh m d := ⟨h.lay, Nat.le_trans h.deep k⟩
theorem sh_ints (ns : List Int) : ∀ d ∈ ns.map PyData.int, Sh 0 d := fun d h => by
  obtain ⟨i, _, rfl⟩ := List.mem_map.mp h
  exact sh_int i
theorem sh_mark (m : List Int) : Sh 1 (markD m) := .tuple (sh_ints m)
theorem sh_intl (ns : List Int) : Sh 1 (.list (ns.map PyData.int)) := .list (sh_ints ns)
theorem sh_look (s : Shelf) : Sh 2 (lookD s) := .tuple fun d h => by
  rcases List.mem_cons.mp h with rfl | h
  · exact sh_intl _
  · rw [List.mem_singleton] at h
    subst h; exact sh_mark _
theorem sh_strs {ns : List Str} (h : ∀ x ∈ ns, PyData.strOk x = true) : Sh 1 (.list (ns.map PyData.str)) := .list fun d k => by
  obtain ⟨i, hi, rfl⟩ := List.mem_map.mp k
  exact sh_str (h i hi)
theorem eqv_intl (m n : List Int) : PyData.eqv (.list (m.map PyData.int)) (.list (n.map PyData.int)) = decide (m = n) := by
  unfold PyData.eqv
  exact eqvAll_ints m n
theorem eqvAll_strs : ∀ m n : List Str, PyData.eqvAll (m.map PyData.str) (n.map PyData.str) = decide (m = n)
  | [], [] => rfl
  | [], _ :: _ => rfl
  | _ :: _, [] => rfl
  | a :: m, b :: n => by
    rw [List.map_cons, List.map_cons]
    unfold PyData.eqvAll
    rw [eqvAll_strs m n]
    unfold PyData.eqv
    by_cases h : a = b <;> by_cases h' : m = n <;> simp [h, h']
theorem eqv_strs (m n : List Str) : PyData.eqv (.list (m.map PyData.str)) (.list (n.map PyData.str)) = decide (m = n) := by
  unfold PyData.eqv
  exact eqvAll_strs m n
section
variable {K : Frag} {M M' : Addr → Prop} {H : Hp} {x y : V} {d e : PyData} {Q : VK} {m n : List Int} {ks ls : List Str}
/-- the same data -/
theorem w_eqS {k : Nat} (h : Rp M H x d) (h' : Rp M' H y d) (s : Sh k d) (hk : k ≤ 64) (q : Q (.bl true) H) : rEqD K x y H Q := ⟨_, _, h.dp, h'.dp, s.shaped hk, s.shaped hk, by rw [eqv_refl d s.lay]; exact q⟩
theorem w_neS {k : Nat} (h : Rp M H x d) (h' : Rp M' H y d) (s : Sh k d) (hk : k ≤ 64) (q : Q (.bl false) H) : rNeD K x y H Q := ⟨_, _, h.dp, h'.dp, s.shaped hk, s.shaped hk, by rw [eqv_refl d s.lay]; exact q⟩
theorem w_eqI (h : Rp M H x (.list (m.map PyData.int))) (h' : Rp M' H y (.list (n.map PyData.int))) (q : Q (.bl (decide (m = n))) H) : rEqD K x y H Q := ⟨_, _, h.dp, h'.dp, (sh_intl m).shaped (by decide), (sh_intl n).shaped (by decide), by rw [eqv_intl]; exact q⟩
theorem w_neI (h : Rp M H x (.list (m.map PyData.int))) (h' : Rp M' H y (.list (n.map PyData.int))) (q : Q (.bl (!decide (m = n))) H) : rNeD K x y H Q := ⟨_, _, h.dp, h'.dp, (sh_intl m).shaped (by decide), (sh_intl n).shaped (by decide), by rw [eqv_intl]; exact q⟩
theorem w_eqK (h : Rp M H x (.list (ks.map PyData.str))) (h' : Rp M' H y (.list (ls.map PyData.str))) (s : ∀ x ∈ ks, PyData.strOk x = true) (s' : ∀ x ∈ ls, PyData.strOk x = true) (q : Q (.bl (decide (ks = ls))) H) : rEqD K x y H Q := ⟨_, _, h.dp, h'.dp, (sh_strs s).shaped (by decide), (sh_strs s').shaped (by decide), by rw [eqv_strs]; exact q⟩
theorem w_neK (h : Rp M H x (.list (ks.map PyData.str))) (h' : Rp M' H y (.list (ls.map PyData.str))) (s : ∀ x ∈ ks, PyData.strOk x = true) (s' : ∀ x ∈ ls, PyData.strOk x = true) (q : Q (.bl (!decide (ks = ls))) H) : rNeD K x y H Q := ⟨_, _, h.dp, h'.dp, (sh_strs s).shaped (by decide), (sh_strs s').shaped (by decide), by rw [eqv_strs]; exact q⟩
/-- the parts of a look -/
theorem w_look0 {s : Shelf} {i : Int} (h : Rp M H x (lookD s)) (ei : i = 0) (q : ∀ v, Rp M H v (valsD s.2) → Q v H) : rIxT K x (.int i) H Q := by subst ei; exact w_ixT 0 h rfl rfl q
theorem w_look1 {s : Shelf} {i : Int} (h : Rp M H x (lookD s)) (ei : i = 1) (q : ∀ v, Rp M H v (markD s.1) → Q v H) : rIxT K x (.int i) H Q := by subst ei; exact w_ixT 1 h rfl rfl q
/-- x in a list of ints -/
theorem inV_ints (i : Int) : ∀ ns : List Int, inV (.int i) (ns.map V.int) = decide (i ∈ ns)
  | [] => rfl
  | n :: ns => by
    unfold inV
    rw [List.map_cons, List.any_cons]
    have := inV_ints i ns
    unfold inV at this
    rw [this]
    show (eqV (.int n) (.int i) || _) = _
    unfold eqV
    by_cases h : n = i
    · subst h; simp
    · have h2 : ¬ i = n := fun z => h z.symm
      simp [h, h2]
theorem flat_ints (ns : List Int) : (ns.map V.int).all flatV = true := List.all_eq_true.mpr fun v hv => by
  obtain ⟨i, _, rfl⟩ := List.mem_map.mp hv
  rfl
theorem w_inI {i : Int} (h : Rp M H y (.list (m.map PyData.int))) (q : Q (.bl (decide (i ∈ m))) H) : rIn K false (.int i) y H Q := by
  obtain ⟨a, xs, rfl, _, ha, r⟩ := h.lst_inv
  rw [r.ints_inv] at ha
  exact ⟨a, _, rfl, .inl (SqL.of ha), rfl, flat_ints m, by rw [inV_ints]; exact q⟩
theorem w_ninI {i : Int} (h : Rp M H y (.list (m.map PyData.int))) (q : Q (.bl (!decide (i ∈ m))) H) : rIn K true (.int i) y H Q := by
  obtain ⟨a, xs, rfl, _, ha, r⟩ := h.lst_inv
  rw [r.ints_inv] at ha
  exact ⟨a, _, rfl, .inl (SqL.of ha), rfl, flat_ints m, by rw [inV_ints]; exact q⟩
end
end Sb

set_option Elab.async false
set_option maxRecDepth 100000
set_option maxHeartbeats 4000000
set_option linter.all false
/-! Steps of the laws over a whole run: lists by their address, pairs of enumerate, cut lists. -/
namespace Sb
open PySem L2 PyProof.Rows
section
variable {M M' : Addr → Prop} {H H' : Hp} {x : V}
theorem RpA.strs : ∀ {ns : List Str}, RpA M H (ns.map V.str) (ns.map PyData.str)
  | [] => RpA.nil
  | n :: ns => RpA.cons (.str n) RpA.strs
theorem RpA.strs_inv : ∀ {ns : List Str} {xs : List V}, RpA M H xs (ns.map PyData.str) → xs = ns.map V.str
  | [], [], _ => rfl
  | [], x :: xs, h => by have := h.1; simp at this
  | n :: ns, [], h => by have := h.1; simp at this
  | n :: ns, x :: xs, h => by
    have h1 := h.head.str_inv
    have h2 := RpA.strs_inv h.tail
    rw [h1, h2, List.map_cons]
end
theorem w_iEnum {K : Frag} {ta : TA} {σ : L2.St} {H : Hp} {R : It → Hp → Prop} (q : ta σ H fun vs H1 => ∃ a xs, vs = [.ref a] ∧ SqL K H1 a xs ∧ R (Ite K a) H1) : iEnum K ta σ H R := q
theorem w_tCB' {K : Frag} {r : List V → Hp → VK → Prop} {t : TA} {σ : L2.St} {H : Hp} {Q : VK} (q : t σ H fun vs H1 => r vs H1 Q) : tCB r t σ H Q := q
section
variable {K : Frag} {M M' : Addr → Prop} {H H' : Hp} {x y v : V} {d e : PyData} {Q : VK} {m n : List Int} {ks ls : List Str} {p : Addr}
/-- a new list of ints, by its address -/
theorem w_listI (h : Rp M H x (.list (m.map PyData.int))) (q : ∀ l H2, H l = none → Same H H2 → (∀ M', ¬ M' l → Rp M' H2 (.ref l) (.list (m.map PyData.int))) → Q (.ref l) H2) : rLst K [x] H Q := by
  obtain ⟨a, xs, rfl, _, ha, r⟩ := h.lst_inv
  rw [r.ints_inv] at ha
  exact ⟨a, _, rfl, .inl (SqL.of ha), fun l hl => q l _ hl (Same.new hl) fun M' n => .lstA n upd_same RpA.ints⟩
/-- more is appended to a list of one's own -/
theorem w_app {xs : List V} (h : H p = some (.lst xs)) (hl : xs.length < 100000) (q : Q .non (upd H p (.lst (xs ++ [v])))) : rAppend (.ref p) [v] H Q := ⟨p, xs, v, rfl, rfl, h, sz_smallL hl, q⟩
theorem Rp.intl_at (h : Rp M H (.ref p) (.list (m.map PyData.int))) : H p = some (.lst (m.map V.int)) := by
  obtain ⟨a, xs, e, _, ha, r⟩ := h.lst_inv
  cases e
  rw [r.ints_inv] at ha
  exact ha
theorem Rp.strl_inv (h : Rp M H v (.list (ks.map PyData.str))) : ∃ a, v = .ref a ∧ ¬ M a ∧ H a = some (.lst (ks.map V.str)) := by
  obtain ⟨a, xs, e, n, ha, r⟩ := h.lst_inv
  rw [r.strs_inv] at ha
  exact ⟨a, e, n, ha⟩
theorem Rp.intl_inv (h : Rp M H v (.list (m.map PyData.int))) : ∃ a, v = .ref a ∧ ¬ M a ∧ H a = some (.lst (m.map V.int)) := by
  obtain ⟨a, xs, e, n, ha, r⟩ := h.lst_inv
  rw [r.ints_inv] at ha
  exact ⟨a, e, n, ha⟩
/-- what has no list of one's own among its lists stays when that is written -/
theorem Rp.wr {o : HO} (h : Rp M H v d) (m : M p) (hp : ∀ xs, H p ≠ some (.tup xs)) : Rp M (upd H p o) v d := h.ext (Ext.write m hp)
theorem lst_notup {xs : List V} (h : H p = some (.lst xs)) : ∀ ys, H p ≠ some (.tup ys) := fun ys z => by rw [h] at z; cases z
theorem look_ref {s : Shelf} (h : Rp M H v (lookD s)) : ∃ p, v = .ref p := by
  obtain ⟨p, xs, e, _⟩ := h.tup_inv
  exact ⟨p, e⟩
end
/-- a look, taken apart -/
theorem look_at {M : Addr → Prop} {H : Hp} {v : V} {s : Shelf} (h : Rp M H v (lookD s)) : ∃ t p mv, v = .ref t ∧ H t = some (.tup [.ref p, mv]) ∧ ¬ M p ∧ H p = some (.lst ((s.2.map fun r => r.2.2).map V.int)) ∧ ∀ M', Rp M' H mv (markD s.1) := by
  obtain ⟨t, xs, rfl, ht, r⟩ := Rp.tup_inv (ds := [valsD s.2, markD s.1]) h
  match xs, r with
  | [x, y], r =>
    obtain ⟨p, rfl, np, hp⟩ := Rp.intl_inv r.head
    exact ⟨t, p, y, rfl, ht, np, hp, fun M' => Rp.mark r.tail.head⟩
  | [], r => exact absurd r.1 (by simp)
  | [_], r => exact absurd r.1 (by simp)
  | _ :: _ :: _ :: _, r => exact absurd r.1 (by simp)
theorem look_of {M : Addr → Prop} {H : Hp} {t p : Addr} {mv : V} {s : Shelf} (ht : H t = some (.tup [.ref p, mv])) (np : ¬ M p) (hp : H p = some (.lst ((s.2.map fun r => r.2.2).map V.int))) (hm : Rp M H mv (markD s.1)) : Rp M H (.ref t) (lookD s) :=
  .tupA ht (RpA.nil.cons hm |>.cons (.lstA np hp RpA.ints))
theorem w_t0 {K : Frag} {H : Hp} {t : Addr} {x : V} {xs : List V} {Q : VK} (h : H t = some (.tup (x :: xs))) (q : Q x H) : rIxT K (.ref t) (.int 0) H Q := ⟨t, _, 0, x, rfl, rfl, SqT.of h, atI_nat (j := 0) rfl, q⟩
theorem w_t1 {K : Frag} {H : Hp} {t : Addr} {x y : V} {xs : List V} {Q : VK} (h : H t = some (.tup (x :: y :: xs))) (q : Q y H) : rIxT K (.ref t) (.int 1) H Q := ⟨t, _, 1, y, rfl, rfl, SqT.of h, atI_nat (j := 1) rfl, q⟩
theorem w_t2 {K : Frag} {H : Hp} {t : Addr} {x y z : V} {xs : List V} {Q : VK} (h : H t = some (.tup (x :: y :: z :: xs))) (q : Q z H) : rIxT K (.ref t) (.int 2) H Q := ⟨t, _, 2, z, rfl, rfl, SqT.of h, atI_nat (j := 2) rfl, q⟩
theorem w_lenTt {K : Frag} {H : Hp} {t : Addr} {xs : List V} {Q : VK} (h : H t = some (.tup xs)) (q : Q (.int xs.length) H) : rLen K [.ref t] H Q := ⟨t, xs, rfl, .inr (SqT.of h), q⟩
theorem not_old {H : Hp} {p : Addr} (h : ¬ Old H p) : H p = none := by
  cases z : H p with
  | none => rfl
  | some o => exact absurd (fun e => by rw [z] at e; cases e) h
theorem w_mth1 {M : Addr → Prop} {H : Hp} {C : Addr} {v : V} {ds : List Addr} {n : Nat} {key : Str} {f : Nat → Shelf} {m : Str} {R : Prop} (S : OneAt M H C v ds n key f) (h1 : ¬ m = "first") (h2 : ¬ m = "kept") (q : R) : rMth C m v H R := let ⟨_, S, _⟩ := S; w_mth S h1 h2 q
theorem cutV_from {xs : List V} {lo hi : Int} (h0 : 0 ≤ lo) (h1 : lo ≤ hi) : (cutV xs (some lo) (some hi)).length ≤ (hi - lo).toNat := by
  unfold cutV
  rw [List.length_take]
  unfold HT.sIx
  simp only
  split <;> split <;> omega
end Sb

set_option Elab.async false
set_option maxRecDepth 100000
set_option maxHeartbeats 4000000
set_option linter.all false
/-! list(reversed(a list)). -/
namespace Sb
open PySem L2 PyProof.Rows RT
section
variable {prog : Program} {w : World} {A : Around} {E : Value → Shared → Prop} {s : Shared}
theorem ext_rev {R : Result → Shared → Prop} {it l S : Addr} {items : Array Value} {res : Value} {c₀ : Nat} (hh : A.handled = none) (hit : s.heap.IsRevIter it l ((items.size : Int) - 1)) (hl : s.heap.IsList l items) (hne : l ≠ it) (hn : items.size ≤ sizeLine) (hSi : S ≠ it) (hSl : S ≠ l)
    (hS : s.heap.get? S = some { cls := .type "list", data := .seq #[] c₀ })
    (hR : ∀ h' tk acc' c', (∀ b o, b ≠ S → b ≠ it → s.heap.get? b = some o → h'.get? b = some o) → h'.get? S = some { cls := .type "list", dict := none, data := .seq acc' c', slots := #[] } → ItemsOf (fun i v => items[items.size - 1 - i]? = some v) acc' items.size → R (.ok (.ret res)) { s with heap := h', toks := tk }) :
    wpAny (model prog w) A.in1 (Builtin.List.listExtendWith (.ref S) (.ref it) res)
      (fun fin s' => match fin with | .done f => R (.ok f) s' | .again c' => c'.quiet = true ∧ codeAny (model prog w) A c' R s') (fun e s' => R (.error e) s') s := by
  have W := (Walks.listRev (prog := prog) (w := w) (A := A.in1) hh it l hne items).toS
  have hSf : S ∉ [it, l] := by simp only [List.mem_cons, List.not_mem_nil, or_false, not_or]; exact ⟨hSi, hSl⟩
  have hT : s.TypeIs (.ref it) "list_reverseiterator" := Heap.IsRevIter.typeIs hit
  have h1 : Builtin.List.listSameRef (.ref S) (.ref it) = false := by simp [Builtin.List.listSameRef, hSi]
  unfold Builtin.List.listExtendWith
  refine wpAny_bind (wpAny_typeOf hT ?_)
  rw [if_neg (by rw [h1]; decide)]
  refine wpAny_bind (wpAny_pyIter_revIter hit ?_)
  refine wpAny_bind (wpAny_holding ?_)
  unfold Builtin.List.listLengthHint
  refine wpAny_bind (wpAny_specialOf hT nolen_lri ?_)
  show wpAny _ A.in1 (specialOf (Value.ref it) (Str.ofString "__length_hint__") >>= _) _ _ _
  refine wpAny_bind (wpAny_specialOf hT hint_lri ?_)
  generalize hid : ("list_reverseiterator.__length_hint__" : String) = id0
  wp_delta
  rw [show splitId id0 = some ("list_reverseiterator", "__length_hint__") from by subst hid; decide +kernel]
  subst hid
  refine wpAny_bind (wpAny_isInstance (b := true) hT (by rw [isSubtype_type]; kernel_rfl) ?_)
  refine wpAny_pure ?_
  rw [if_neg (by decide)]
  have e0 : ((items.size : Nat) : Int) - 1 - ((0 : Nat) : Int) = (items.size : Int) - 1 := by omega
  refine wpAny_pure ⟨plainId_quiet F.plain_extend_loop _, codeAny_extend_loopS W hn _ hSf _ items.size 0 _ _ _ rfl (Nat.zero_le _) ⟨Nat.zero_le _, by rw [e0]; exact hit, hl⟩ hS (ItemsOf.nil _) fun s' acc' c' hm hS' hacc => ?_⟩
  rw [Moved.eq_with hm]
  refine hR s'.heap s'.toks acc' c' (fun b o hb hi e => hm.heap b o (fun hmem => ?_) e) hS' hacc
  rcases List.mem_cons.mp hmem with e' | hmem
  · exact hb e'
  · exact hi (List.mem_singleton.mp hmem)
theorem init_rev {R : Result → Shared → Prop} {it l S : Addr} {items : Array Value} (hh : A.handled = none) (hit : s.heap.IsRevIter it l ((items.size : Int) - 1)) (hl : s.heap.IsList l items) (hne : l ≠ it) (hn : items.size ≤ sizeLine) (hSi : S ≠ it) (hSl : S ≠ l)
    (hS : s.heap.get? S = some { cls := .type "list", data := .seq #[] })
    (hR : ∀ h' tk acc' c', (∀ b o, b ≠ S → b ≠ it → s.heap.get? b = some o → h'.get? b = some o) → h'.get? S = some { cls := .type "list", dict := none, data := .seq acc' c', slots := #[] } → ItemsOf (fun i v => items[items.size - 1 - i]? = some v) acc' items.size → R (.ok (.ret .none)) { s with heap := h', toks := tk }) :
    wpAny (model prog w) A.in1 (Builtin.«list.__init__» ⟨[.ref S, .ref it], []⟩)
      (fun fin s' => match fin with | .done f => R (.ok f) s' | .again c' => c'.quiet = true ∧ codeAny (model prog w) A c' R s') (fun e s' => R (.error e) s') s := by
  show wpAny _ _ (do let old ← Builtin.List.listItems (.ref S); Builtin.List.listUpdate (.ref S) (fun _ => #[]); letGo old.toList.reverse; Builtin.List.listExtendWith (.ref S) (.ref it) .none) _ _ s
  refine wpAny_bind ?_
  unfold Builtin.List.listItems
  refine wpAny_bind (wpAny_seqItems hS rfl (wpAny_pure ?_))
  show wpAny _ _ (updateSeq S (fun _ => #[]) >>= fun _ => letGo (#[] : Array Value).toList.reverse >>= fun _ => Builtin.List.listExtendWith (.ref S) (.ref it) .none) _ _ s
  refine wpAny_bind (wpAny_updateSeq hS rfl ?_)
  have hS₂ := Heap.get?_update_self (Obj.mapSeq (fun _ => (#[] : Array Value))) hS rfl
  have oth : ∀ b o, b ≠ S → s.heap.get? b = some o → (s.heap.update S (Obj.mapSeq (fun _ => (#[] : Array Value)))).get? b = some o :=
    fun b o hb e => (Heap.get?_update_other _ _ (Ne.symm hb)).trans e
  refine wpAny_bind (wpAny_letGo ?_)
  obtain ⟨ol, hol, rl⟩ := hl
  refine ext_rev (s := { s with heap := s.heap.update S (Obj.mapSeq (fun _ => (#[] : Array Value))) }) hh (hit.at fun o e => oth it o hSi.symm e) ⟨ol, oth l ol hSl.symm hol, rl⟩ hne hn hSi hSl hS₂ fun h' tk acc' c' hk hS' hacc => ?_
  exact hR h' tk acc' c' (fun b o hb hi e => hk b o hb hi (oth b o hb e)) hS' hacc
theorem call_list_rev {it l : Addr} {items : Array Value} {Q : Value → Shared → Prop} (hh : A.handled = none) (hit : s.heap.IsRevIter it l ((items.size : Int) - 1)) (hl : s.heap.IsList l items) (hne : l ≠ it) (hn : items.size ≤ sizeLine)
    (hQ : ∀ h' tk acc' c', (∀ b o, b ≠ it → s.heap.get? b = some o → h'.get? b = some o) → h'.get? s.heap.objs.size = some { cls := .type "list", dict := none, data := .seq acc' c', slots := #[] } → ItemsOf (fun i v => items[items.size - 1 - i]? = some v) acc' items.size → Q (.ref s.heap.objs.size) { s with heap := h', toks := tk }) :
    wpAny (model prog w) A (call (.type "list") [.ref it]) Q E s := by
  refine callType_codes (Q₁ := fun obj s₁ => obj = .ref s.heap.objs.size ∧ s₁ = { s with heap := s.heap.push { cls := .type "list", data := .seq #[] } }) PySem.F.called_list (PySem.F.typeCall_list_1 _) PySem.F.entry_list_init
    (code_list_new _ ⟨rfl, rfl⟩) fun obj s₁ h₁ => ?_
  obtain ⟨rfl, rfl⟩ := h₁
  have hS : (s.heap.push { cls := .type "list", data := .seq #[] }).get? s.heap.objs.size = some { cls := .type "list", data := .seq #[] } := Heap.get?_push_size _ rfl
  obtain ⟨oi, hoi, _⟩ := id hit
  obtain ⟨ol, hol, _⟩ := id hl
  refine ⟨⟨_, hS, rfl⟩, PySem.F.args_list_init_2 _ _, init_rev (A := A.in1) hh (hit.at fun o e => Heap.get?_push_of_some _ e) (hl.push _) hne hn (Nat.ne_of_gt (Heap.lt_size hoi)) (Nat.ne_of_gt (Heap.lt_size hol)) hS (fun h' tk acc' c' hk hS' hacc => ?_)⟩
  exact ⟨rfl, hQ h' tk acc' c' (fun b o hi e => hk b o (Nat.ne_of_lt (Heap.lt_size e)) hi (Heap.get?_push_of_some _ e)) hS' hacc⟩
end
def tLstRev (K : PySem.W.Frag) (te : TE) : TE := fun σ H Q => te σ H fun v H1 => ∃ (a : Addr) (xs : List V), v = .ref a ∧ SqL K H1 a xs ∧ ∀ q, H1 q = none → Q (.ref q) (upd H1 q (.lst xs.reverse))
theorem pe_lstRev {X : Cx} {e : Expr} {te : TE} {p p2 pos pos2 : Pos} (hc : X.calm = true) (hg : Gl X "list") (hm : X.mg "list" = none) (hg2 : Gl X "reversed") (hm2 : X.mg "reversed" = none) (he : PE X e te)
    (hs : starEach [e] X.env = (false, eval e X.env) :: starEach [] X.env := by rfl)
    (hs2 : starEach [.Call (.Name "reversed" p2) [e] [] pos2] X.env = (false, eval (.Call (.Name "reversed" p2) [e] [] pos2) X.env) :: starEach [] X.env := by rfl) :
    PE X (.Call (.Name "list" p) [.Call (.Name "reversed" p2) [e] [] pos2] [] pos) (tLstRev X.K te) := by
  refine ⟨fun pins s σ H Q I h => ?_⟩
  refine Call_ (ld_blt I hg hm boot_list (PyProof.Rows.callWith_type1 (args_cons (Call_ (ld_blt I hg2 hm2 PyProof.Rows.boot_reversed (PyProof.Rows.callWith_type1 (args_cons (thn (he.run pins s σ H _ I h) fun u s1 ⟨v, H1, I1, r1, q1⟩ => args_nil ?_) hs) hs rfl))) hs2) hs2 rfl))
  obtain ⟨a, xs, ev, hq, q⟩ := q1
  subst ev
  obtain rfl : u = Value.ref a := r1
  obtain ⟨its, rv, p', hz⟩ := I1.list hq
  refine call_reversed_list p'.isList (args_nil ?_)
  have k0 : ∀ b o, s1.heap.get? b = some o → (s1.heap.push (revObj a ((its.toArray.size : Int) - 1))).get? b = some o := fun b o e => Heap.get?_push_of_some _ e
  have I2 : Inv X pins σ H1 { s1 with heap := s1.heap.push (revObj a ((its.toArray.size : Int) - 1)) } := I1.kept (t' := s1.toks) k0
  obtain ⟨f0, f1, f2, f3, f4, f5⟩ := I1.fpOk (H' := H1) (b := s1.heap.objs.size) (Nat.le_refl _) (I1.hok.fresh (Nat.le_refl _))
  have hl := p'.isList
  obtain ⟨ol, hol, _⟩ := id hl
  have hne : a ≠ s1.heap.objs.size := Nat.ne_of_lt (Heap.lt_size hol)
  have hn : its.toArray.size ≤ sizeLine := by rw [List.size_toArray, ← rv.length]; exact hz
  refine call_list_rev (s := { s1 with heap := s1.heap.push (revObj a ((its.toArray.size : Int) - 1)) }) (I1.ok.hd hc) ⟨_, Heap.get?_push_size _ rfl, rfl, rfl⟩ (hl.push _) hne hn fun h' tk acc c' hk hS hi => ?_
  generalize hS0 : (s1.heap.push (revObj a ((its.toArray.size : Int) - 1))).objs.size = S at hS
  have hit : S ≠ s1.heap.objs.size := by
    rw [← hS0]
    exact Nat.ne_of_gt (Heap.lt_size (Heap.get?_push_size _ rfl : (s1.heap.push (revObj a ((its.toArray.size : Int) - 1))).get? s1.heap.objs.size = some _))
  have hn1 : H1 S = none := by rw [← hS0]; exact I2.hok.fresh (Nat.le_refl _)
  have I4 : Inv X pins σ (upd H1 S (.lst xs.reverse)) { s1 with heap := (s1.heap.push (revObj a ((its.toArray.size : Int) - 1))).push { cls := .type "list", dict := none, data := .seq acc c', slots := #[] } } := by
    rw [← hS0]
    exact I2.laid (t' := s1.toks) (fun b o e => Heap.get?_push_of_some _ e) (Nat.le_refl _) (show ObjOk X.prog X.w _ _ _ (.lst xs.reverse) from ⟨by rw [List.length_reverse]; exact hz, acc.toList, c', vals_rev rv hi, by rw [Array.toArray_toList]; exact Heap.get?_push_size _ rfl⟩)
  obtain ⟨g0, g1, g2, g3, g4, g5⟩ := I1.fpOk (H' := upd H1 S (.lst xs.reverse)) (b := s1.heap.objs.size) (Nat.le_refl _) (by rw [upd_ne hit.symm]; exact I1.hok.fresh (Nat.le_refl _))
  have I3 : Inv X pins σ (upd H1 S (.lst xs.reverse)) { s1 with heap := h', toks := tk } := I4.turned (t' := tk) (fun b o hb e => by
    by_cases z : b = S
    · subst z
      rw [← hS0] at e
      rw [Heap.get?_push_size _ rfl] at e
      rw [hS]; exact e
    · refine hk b o hb ?_
      rw [← Heap.get?_push_ne _ b _ (by rw [hS0]; exact z)]
      exact e) g0 g1 g3 g4 g5
  exact ⟨.ref S, _, I3, rfl, q S hn1⟩
end Sb

set_option Elab.async false
set_option maxRecDepth 100000
set_option maxHeartbeats 4000000
set_option linter.all false
/-! A store of several keys. -/
namespace Sb
open PySem L2 PyProof.Rows
/-- a store of n keepers at v, its keys among Ks: f tells the shelves -/
def KeyAt (M : Addr → Prop) (H : Hp) (C : Addr) (v : V) (ds : List Addr) (n : Nat) (Ks : List Str) (f : Nat → Str → Shelf) : Prop :=
  ∃ st, StoreAt M H C v ds n st ∧ ∀ (k : Nat) (kv : KV1), st[k]? = some kv → (kv.map (·.1)).Nodup ∧ (∀ s ∈ kv.map (·.1), s ∈ Ks) ∧ ∀ s, shelfOf n kv s = f k s
def setK (f : Nat → Str → Shelf) (k : Nat) (s : Str) (sh : Shelf) : Nat → Str → Shelf := fun i t => if i = k ∧ t = s then sh else f i t
theorem setK_eq {f : Nat → Str → Shelf} {k : Nat} {s : Str} {sh : Shelf} : setK f k s sh k s = sh := if_pos ⟨rfl, rfl⟩
theorem setK_ne {f : Nat → Str → Shelf} {k i : Nat} {s t : Str} {sh : Shelf} (h : ¬ (i = k ∧ t = s)) : setK f k s sh i t = f i t := if_neg h
section
variable {M M' : Addr → Prop} {H H' H'' : Hp} {C : Addr} {v x : V} {ds : List Addr} {n : Nat} {Ks Ls : List Str} {f : Nat → Str → Shelf} {K : Frag} {d : PyData}
theorem KeyAt.same (S : KeyAt M H C v ds n Ks f) (s : Same H H') : KeyAt M H' C v ds n Ks f := let ⟨st, a, b⟩ := S; ⟨st, a.same s, b⟩
theorem KeyAt.fresh {q : Addr} (S : KeyAt M H C v ds n Ks f) (s : Same H H') (hq : H q = none) : KeyAt (fun a => M a ∨ a = q) H' C v ds n Ks f := let ⟨st, a, b⟩ := S; ⟨st, a.fresh s hq, b⟩
theorem KeyAt.less (S : KeyAt M H C v ds n Ks f) (k : ∀ a, M' a → M a) : KeyAt M' H C v ds n Ks f := let ⟨st, a, b⟩ := S; ⟨st, a.less k, b⟩
theorem KeyAt.write {L : Addr} {xs ys : List V} (S : KeyAt M H C v ds n Ks f) (m : M L) (h : H L = some (.lst xs)) : KeyAt M (upd H L (.lst ys)) C v ds n Ks f := let ⟨st, a, b⟩ := S; ⟨st, a.write m h, b⟩
/-- another dict changes -/
theorem KeyAt.but {q : Addr} {kvs : List (Key × V)} (S : KeyAt M H C v ds n Ks f) (b : But q H H') (hd : H q = some (.dK kvs)) (hq : q ∉ ds) : KeyAt M H' C v ds n Ks f :=
  let ⟨st, a, c⟩ := S
  ⟨st, a.but b (fun xs => ⟨fun z => (by rw [hd] at z; cases z), fun _ z => (by rw [hd] at z; cases z)⟩) (fun D dx fs z => by rw [hd] at z; cases z) hq, c⟩
theorem KeyAt.mono (S : KeyAt M H C v ds n Ks f) (h : ∀ s ∈ Ks, s ∈ Ls) : KeyAt M H C v ds n Ls f := let ⟨st, a, b⟩ := S; ⟨st, a, fun k kv e => ⟨(b k kv e).1, fun s hs => h s ((b k kv e).2.1 s hs), (b k kv e).2.2⟩⟩
theorem KeyAt.dicts (S : KeyAt M H C v ds n Ks f) {d : Addr} (h : d ∈ ds) : ∃ kvs, H d = some (.dK kvs) := let ⟨_, a, _⟩ := S; a.occ h
theorem KeyAt.start (S : StoreAt M H C v ds n (List.replicate n [])) : KeyAt M H C v ds n [] fun _ _ => (List.replicate n 0, []) :=
  ⟨_, S, fun k kv h => by
    rw [List.getElem?_replicate] at h
    split at h
    · cases h; exact ⟨List.nodup_nil, fun _ z => (nomatch z), fun _ => rfl⟩
    · cases h⟩
theorem KeyAt.at {k : Nat} (S : KeyAt M H C v ds n Ks f) (hk : k < n) : ∃ st kv dk, StoreAt M H C v ds n st ∧ st[k]? = some kv ∧ ds[k]? = some dk ∧ (kv.map (·.1)).Nodup ∧ (∀ s ∈ kv.map (·.1), s ∈ Ks) ∧ (∀ s, shelfOf n kv s = f k s) ∧
    ∀ (k : Nat) (kv : KV1), st[k]? = some kv → (kv.map (·.1)).Nodup ∧ (∀ s ∈ kv.map (·.1), s ∈ Ks) ∧ ∀ s, shelfOf n kv s = f k s := by
  obtain ⟨st, a, b⟩ := S
  have h1 : st[k]? = some (st[k]'(by rw [a.sl]; exact hk)) := List.getElem?_eq_getElem _
  exact ⟨st, _, _, a, h1, List.getElem?_eq_getElem (by rw [a.dl]; exact hk), (b k _ h1).1, (b k _ h1).2.1, (b k _ h1).2.2, b⟩
theorem keys_few {kv : KV1} (nd : (kv.map (·.1)).Nodup) (sub : ∀ s ∈ kv.map (·.1), s ∈ Ks) : kv.length ≤ Ks.length := by
  have := List.Nodup.length_le_of_subset nd sub
  rwa [List.length_map] at this
theorem KeyAt.put {st : Kept} {k : Nat} {kv : KV1} {key : Str} {sh : Shelf} (b : ∀ (k : Nat) (kv : KV1), st[k]? = some kv → (kv.map (·.1)).Nodup ∧ (∀ s ∈ kv.map (·.1), s ∈ Ks) ∧ ∀ s, shelfOf n kv s = f k s) (h : st[k]? = some kv) (hk : key ∈ Ks)
    (S : StoreAt M H C v ds n (st.set k (aPut kv key sh))) : KeyAt M H C v ds n Ks (setK f k key sh) := by
  refine ⟨_, S, fun i kv' h' => ?_⟩
  by_cases e : i = k
  · subst e
    rw [List.getElem?_set_self (List.getElem?_eq_some_iff.mp h).1] at h'
    cases h'
    obtain ⟨b1, b2, b3⟩ := b i kv h
    refine ⟨aPut_nod b1, fun s hs => ?_, fun s => ?_⟩
    · rcases aPut_keys kv key sh with z | ⟨_, z⟩
      · rw [z] at hs; exact b2 s hs
      · rw [z] at hs
        rcases List.mem_append.mp hs with hs | hs
        · exact b2 s hs
        · rw [List.mem_singleton] at hs; subst hs; exact hk
    · rw [shelfOf_put]
      by_cases z : s = key
      · subst z; rw [if_pos rfl, setK_eq]
      · rw [if_neg z, setK_ne (fun y => z y.2)]; exact b3 s
  · rw [List.getElem?_set_ne (fun z => e z.symm)] at h'
    obtain ⟨b1, b2, b3⟩ := b i kv' h'
    exact ⟨b1, b2, fun s => by rw [setK_ne (fun y => e y.1)]; exact b3 s⟩
end
/-- a text that is no key has nothing -/
theorem shelf_no {n : Nat} {kv : KV1} {s : Str} (h : s ∉ kv.map (·.1)) : shelfOf n kv s = (List.replicate n 0, []) := by
  unfold shelfOf
  have e := aGet_any s kv
  cases z : aGet kv s with
  | none => rfl
  | some x =>
    rw [z] at e
    obtain ⟨p, hp, e2⟩ := List.any_eq_true.mp e
    exact absurd (List.mem_map.mpr ⟨p, hp, of_decide_eq_true e2⟩) h
theorem sortX_ext {xs ys : List Str} (h1 : xs.Nodup) (h2 : ys.Nodup) (h : ∀ s, s ∈ xs ↔ s ∈ ys) : sortX xs = sortX ys :=
  sortX_uniq ((sortX_perm xs).trans ((List.perm_ext_iff_of_nodup h1 h2).mpr h)) (sortX_srt xs)
end Sb

set_option Elab.async false
set_option maxRecDepth 100000
set_option maxHeartbeats 4000000
set_option linter.all false
/-! text * int. -/
namespace Sb
open PySem L2 PyProof.Rows
def rMulS : R2 := fun x y H Q => ∃ (z : Str) (n : Int), x = .str z ∧ y = .int n ∧ MulOk z n ∧ Q (.str (Txt.mul z n)) H
theorem op_mulS {X : Cx} : OpR X (binaryOp .Mult) rMulS := by
  intro pins s σ H x y v u Q I rx ry h
  obtain ⟨z, n, rfl, rfl, hz, q⟩ := h
  obtain ⟨t, rfl⟩ := rx
  obtain ⟨t', rfl⟩ := ry
  exact PySem.SB.mul hz fun t' tk => ⟨.str (Txt.mul z n), H, I.tok _, ⟨_, rfl⟩, q⟩
def r110 : Str := Txt.mul "r" 110
theorem r110_ok : MulOk "r" 110 := by refine ⟨by decide, fun _ _ => by decide +kernel, fun _ _ => by decide +kernel⟩
theorem r110_len : r110.length = 110 := by decide +kernel
end Sb

set_option Elab.async false
set_option maxRecDepth 100000
set_option maxHeartbeats 4000000
set_option linter.all false
/-! Plain texts: of signs below 128; what is cut, put together, in the other case. -/
namespace Sb
open PySem L2 PyProof.Rows SX
def Asc (s : Str) : Prop := ∀ c ∈ s.cps.toList, c < 128
theorem Asc.ok {s : Str} (h : Asc s) : PyData.strOk s = true := by
  unfold PyData.strOk
  rw [Array.all_eq_true']
  intro c hc
  have := h c (Array.mem_toList_iff.mpr hc)
  exact decide_eq_true (by omega)
theorem app_tl (a b : Str) : (a ++ b).cps.toList = a.cps.toList ++ b.cps.toList := by
  show (a.cps ++ b.cps).toList = _
  rw [Array.toList_append]
theorem app_len (a b : Str) : (a ++ b).length = a.length + b.length := by
  show (a.cps ++ b.cps).size = a.cps.size + b.cps.size
  rw [Array.size_append]
theorem len_tl (a : Str) : a.cps.toList.length = a.length := Array.length_toList
theorem Asc.app {a b : Str} (ha : Asc a) (hb : Asc b) : Asc (a ++ b) := fun c hc => by
  rw [app_tl] at hc
  exact (List.mem_append.mp hc).elim (ha c) (hb c)
theorem Asc.one {c : Nat} (h : c < 128) : Asc (⟨#[c]⟩ : Str) := fun d hd => by
  have : d = c := by simpa using hd
  omega
theorem cut_tl (z : Str) (lo hi : Option Int) : (cutS z lo hi).cps.toList = (z.cps.toList.drop (HT.sIx z.length 0 lo)).take (HT.sIx z.length z.length hi - HT.sIx z.length 0 lo) := rfl
theorem Asc.cut {a : Str} (h : Asc a) (lo hi : Option Int) : Asc (cutS a lo hi) := fun c hc => by
  rw [cut_tl] at hc
  exact h c (List.mem_of_mem_drop (List.mem_of_mem_take hc))
theorem cut_len (a : Str) (lo hi : Option Int) : (cutS a lo hi).length ≤ HT.sIx a.length a.length hi - HT.sIx a.length 0 lo := by
  rw [← len_tl, cut_tl, List.length_take]
  omega
theorem upper_of {a : Str} (h : Asc a) : Asc (Txt.upper a) ∧ (Txt.upper a).length = a.length := by
  have e := S_tl a
  have hu := upper_S (a := a.cps.toList) (List.all_eq_true.mpr fun c hc => decide_eq_true (h c hc))
  rw [e] at hu
  rw [hu]
  refine ⟨fun c hc => ?_, ?_⟩
  · have hc : c ∈ a.cps.toList.map up1 := by simpa using hc
    obtain ⟨d, hd, rfl⟩ := List.mem_map.mp hc
    have := h d hd
    unfold up1
    split <;> omega
  · rw [← len_tl, ← len_tl]
    simp
theorem lower_of {a : Str} (h : Asc a) : Asc (Txt.lower a) ∧ (Txt.lower a).length = a.length := by
  have e := S_tl a
  have hu := lower_S (a := a.cps.toList) (List.all_eq_true.mpr fun c hc => decide_eq_true (h c hc))
  rw [e] at hu
  rw [hu]
  refine ⟨fun c hc => ?_, ?_⟩
  · have hc : c ∈ a.cps.toList.map lo1 := by simpa using hc
    obtain ⟨d, hd, rfl⟩ := List.mem_map.mp hc
    have := h d hd
    unfold lo1
    split <;> omega
  · rw [← len_tl, ← len_tl]
    simp
def numS (m : Nat) : Str := Str.ofString (toString ((m : Nat) : Int))
theorem num_small : ∀ m < 100, (TL.numL m).length ≤ 2 ∧ (TL.numL m).all (· < 128) = true := by decide +kernel
theorem num_inj : ∀ m < 70, ∀ k < 70, TL.numL m = TL.numL k → m = k := by decide +kernel
theorem numS_tl (m : Nat) : (numS m).cps.toList = TL.numL m := TL.tl_num m
theorem numS_asc {m : Nat} (h : m < 100) : Asc (numS m) ∧ (numS m).length ≤ 2 := by
  obtain ⟨h1, h2⟩ := num_small m h
  refine ⟨fun c hc => ?_, by rw [← len_tl, numS_tl]; exact h1⟩
  rw [numS_tl] at hc
  exact of_decide_eq_true (List.all_eq_true.mp h2 c hc)
/-- the keys of the puts ahead -/
def far (m : Nat) : Str := r110 ++ numS m
theorem r110_asc : Asc r110 := by
  have : ∀ c ∈ r110.cps.toList, c < 128 := by decide +kernel
  exact this
theorem far_asc {m : Nat} (h : m < 100) : Asc (far m) := r110_asc.app (numS_asc h).1
theorem far_len (m : Nat) : 110 ≤ (far m).length := by
  unfold far
  rw [app_len, r110_len]; omega
theorem far_max {m : Nat} (h : m < 100) : (far m).length ≤ 112 := by
  unfold far
  rw [app_len, r110_len]
  have := (numS_asc h).2
  omega
theorem far_inj {m k : Nat} (hm : m < 70) (hk : k < 70) (h : far m = far k) : m = k := by
  have e := congrArg (fun s : Str => s.cps.toList) h
  unfold far at e
  simp only [app_tl, numS_tl] at e
  exact num_inj m hm k hk (List.append_cancel_left e)
end Sb

set_option Elab.async false
set_option maxRecDepth 100000
set_option maxHeartbeats 4000000
set_option linter.all false
/-! Texts as lists of signs: words by blanks, numbers by figures. -/
namespace Sb
open PySem L2 PyProof.Rows SX
def dig (c : Nat) : Bool := decide (48 ≤ c) && decide (c ≤ 57)
def okW (w : List Nat) : Bool := decide (1 ≤ w.length) && decide (w.length ≤ 60) && !(decide (w.head? = some 48) && decide (1 < w.length)) && w.all dig
def valW (w : List Nat) : Nat := NumText.digitsVal w
def wordsL : List Nat → List Nat → List (List Nat)
  | acc, [] => [acc]
  | acc, c :: r => if c = 32 then acc :: wordsL [] r else wordsL (acc ++ [c]) r
theorem spl_words : ∀ (l acc : List Nat), TL.spl [32] 0 acc l = wordsL acc l
  | [], acc => TL.spl_nil _ _ _
  | c :: r, acc => by
    by_cases h : c = 32
    · subst h
      rw [TL.spl_hit (by unfold TL.pre; simp)]
      show acc :: TL.spl [32] 0 [] r = _
      rw [spl_words r []]
      show _ = if (32 : Nat) = 32 then acc :: wordsL [] r else _
      rw [if_pos rfl]
    · rw [TL.spl_miss (by unfold TL.pre; simp [h]), spl_words r]
      show _ = if c = 32 then _ else wordsL (acc ++ [c]) r
      rw [if_neg h]
theorem words_len : ∀ (l acc : List Nat), ((wordsL acc l).map List.length).sum + (wordsL acc l).length = acc.length + l.length + 1
  | [], acc => by
    show ([acc].map List.length).sum + 1 = _
    simp
  | c :: r, acc => by
    show (((if c = 32 then acc :: wordsL [] r else wordsL (acc ++ [c]) r).map List.length).sum + (if c = 32 then acc :: wordsL [] r else wordsL (acc ++ [c]) r).length) = _
    by_cases h : c = 32
    · rw [if_pos h, List.map_cons, List.sum_cons, List.length_cons, List.length_cons]
      have := words_len r []
      have e : ([] : List Nat).length = 0 := rfl
      omega
    · rw [if_neg h, List.length_cons]
      have := words_len r (acc ++ [c])
      rw [List.length_append, List.length_singleton] at this
      omega
theorem words_mem : ∀ (l acc : List Nat), ∀ w ∈ wordsL acc l, ∀ c ∈ w, c ∈ acc ∨ c ∈ l
  | [], acc, w, hw, c, hc => by
    have hw : w ∈ [acc] := hw
    rw [List.mem_singleton] at hw
    subst hw; exact .inl hc
  | d :: r, acc, w, hw, c, hc => by
    have hw : w ∈ if d = 32 then acc :: wordsL [] r else wordsL (acc ++ [d]) r := hw
    by_cases h : d = 32
    · rw [if_pos h] at hw
      rcases List.mem_cons.mp hw with rfl | hw
      · exact .inl hc
      · exact (words_mem r [] w hw c hc).elim (fun z => nomatch z) fun z => .inr (List.mem_cons_of_mem _ z)
    · rw [if_neg h] at hw
      rcases words_mem r _ w hw c hc with z | z
      · rcases List.mem_append.mp z with z | z
        · exact .inl z
        · rw [List.mem_singleton] at z; subst z; exact .inr List.mem_cons_self
      · exact .inr (List.mem_cons_of_mem _ z)
theorem words_ne (l acc : List Nat) : wordsL acc l ≠ [] := by
  cases l with
  | nil => exact fun z => nomatch z
  | cons c r =>
    show (if c = 32 then acc :: wordsL [] r else wordsL (acc ++ [c]) r) ≠ []
    split
    · exact fun z => nomatch z
    · exact words_ne r _
theorem mem_len {ws : List (List Nat)} {w : List Nat} (h : w ∈ ws) : w.length ≤ (ws.map List.length).sum := by
  induction ws with
  | nil => cases h
  | cons v ws ih =>
    rw [List.map_cons, List.sum_cons]
    rcases List.mem_cons.mp h with rfl | h
    · omega
    · have := ih h
      omega
theorem joinL_len : ∀ ws : List (List Nat), (TL.joinL [32] ws).length ≤ (ws.map List.length).sum + ws.length
  | [] => Nat.zero_le _
  | [p] => by
    show p.length ≤ _
    simp
  | p :: q :: r => by
    show (p ++ ([32] ++ TL.joinL [32] (q :: r))).length ≤ _
    rw [List.length_append, List.length_append, List.map_cons, List.sum_cons]
    have := joinL_len (q :: r)
    have e : ([32] : List Nat).length = 1 := rfl
    have e2 : (p :: q :: r).length = (q :: r).length + 1 := rfl
    omega
theorem joinL_mem : ∀ (ws : List (List Nat)) (c : Nat), c ∈ TL.joinL [32] ws → c = 32 ∨ ∃ w ∈ ws, c ∈ w
  | [], c, h => nomatch h
  | [p], c, h => .inr ⟨p, List.mem_cons_self, h⟩
  | p :: q :: r, c, h => by
    have h : c ∈ p ++ ([32] ++ TL.joinL [32] (q :: r)) := h
    rcases List.mem_append.mp h with h | h
    · exact .inr ⟨p, List.mem_cons_self, h⟩
    · rcases List.mem_append.mp h with h | h
      · exact .inl (List.mem_singleton.mp h)
      · rcases joinL_mem (q :: r) c h with h | ⟨w, hw, h⟩
        · exact .inl h
        · exact .inr ⟨w, List.mem_cons_of_mem _ hw, h⟩
theorem joinL_snoc : ∀ (ws : List (List Nat)) (p : List Nat), ws ≠ [] → TL.joinL [32] (ws ++ [p]) = TL.joinL [32] ws ++ ([32] ++ p)
  | [], _, h => absurd rfl h
  | [q], p, _ => rfl
  | q :: q' :: r, p, _ => by
    show q ++ ([32] ++ TL.joinL [32] ((q' :: r) ++ [p])) = (q ++ ([32] ++ TL.joinL [32] (q' :: r))) ++ ([32] ++ p)
    rw [joinL_snoc (q' :: r) p (fun z => nomatch z)]
    simp [List.append_assoc]
/-! figures -/
def figs : List Nat := [48, 49, 50, 51, 52, 53, 54, 55, 56, 57]
theorem figs_S : ("0123456789" : Str) = S figs := by decide +kernel
theorem figs_mem (c : Nat) : (c ∈ figs) ↔ dig c = true := by
  unfold figs dig
  simp only [List.mem_cons, List.not_mem_nil, or_false, Bool.and_eq_true, decide_eq_true_eq]
  omega
theorem figs_find : ∀ c < 128, Txt.find (S figs) (S [c]) = if dig c = true then (c : Int) - 48 else -1 := by decide +kernel
theorem figs_at : ∀ d < 10, figs[d]? = some (48 + d) := by decide
theorem all_dig {w : List Nat} (h : w.all dig = true) : ∀ c ∈ w, 48 ≤ c ∧ c ≤ 57 := fun c hc => by
  have := List.all_eq_true.mp h c hc
  unfold dig at this
  simpa using this
theorem val_int {w : List Nat} (h : okW w = true) : PySem.intText? (S w) = some ((valW w : Nat) : Int) := by
  unfold okW at h
  simp only [Bool.and_eq_true, decide_eq_true_eq] at h
  obtain ⟨⟨⟨h1, h2⟩, h3⟩, h4⟩ := h
  refine int_S (List.all_eq_true.mpr fun c hc => ?_) (fun z => by rw [z] at h1; exact absurd h1 (by decide)) (by omega)
  have := List.all_eq_true.mp h4 c hc
  exact this
/-- the digits so far -/
theorem val_step (w : List Nat) (c : Nat) : NumText.digitsVal (w ++ [c]) = NumText.digitsVal w * 10 + (c - 48) := by
  unfold NumText.digitsVal
  rw [List.foldl_append]; rfl
theorem numL_few {n : Nat} (h : n < 10 ^ 60) : (TL.numL n).length ≤ 60 := TL.numL_len (by decide) h
theorem numL_asc (n : Nat) : ∀ c ∈ TL.numL n, c < 128 := fun c hc => by
  have := TL.numL_digits n c hc
  omega
end Sb

namespace Sb
open PySem PySem.Spec PyProof.Rows L2
/-! A list comprehension whose item may raise: what an item lets out goes to the def's own wish. -/
/-- an error in a block's air that came out of a call -/
def AirB (X : Cx) (W : WX) (u : Value) (s' : Shared) : Prop := XE X W u s' ∧ ∃ (a : Addr) (B : Heap) (l : List Env) (Z : Obj → Prop), u = .ref a ∧ HandSPX.FlyingZ B l a Z s'.heap
abbrev onlyE (E : XK) : WX := fun cls d _ H => E cls d H
abbrev Cx.blkE (X : Cx) (E : XK) (s : Shared) (H : Hp) (scope : Scope) (cenv : Env) (fp : List Addr) : Cx := (X.blk s H scope cenv fp).tr [] (AirB (X.blk s H scope cenv fp) (onlyE E))
section
variable {X : Cx} {E : XK} {pins : List (Addr × Obj)} {σ : L2.St} {H H3 : Hp} {s s3 : Shared} {scope : Scope} {ce : Env} {fp : List Addr}
theorem inv_unblk {pn : List (Addr × Obj)} (I : Inv (Cx.blkE X E s H scope ce fp) pn σ H3 s3) : Inv (X.blk s H scope ce fp) [] σ H3 s3 := Inv.ofTry (X := X.blk s H scope ce fp) (pins := []) I I.ok.ofTry
theorem passB : Passes (L2.CX X.prog X.w) (Cx.blkE X E s H scope ce fp) E := fun pins σ H1 s1 e s' I c => by
  refine ⟨XE.of_call (X := X.blk s H scope ce fp) (inv_unblk I) (fun _ _ _ h => h) c, ?_⟩
  obtain ⟨a, B, H', cls, d, rfl, fl, _⟩ := c
  exact ⟨a, B, _, _, rfl, fl⟩
/-- it is noted by the def's frame, the block's names go, it goes on in the def -/
theorem air_out {Qf : Value → Shared → Prop} {acc u : Value} {s' : Shared} (hs0 : X.stack = X.env :: X.outer) (hf : X.env.frame = some X.env.locals) (tk : Takes X (onlyE E)) (I3 : Inv X pins σ H3 s3) (hL : ce.locals = s3.heap.objs.size) (hce : ce.frame = X.env.frame)
    (hfp : ∀ b ∈ fp, FpOk X pins H3 b) (x : AirB (X.blk s3 H3 scope ce fp) (onlyE E) u s') : notedBy (model X.prog X.w) X.A ce (fun e s'' => compEnds (model X.prog X.w) X.A X.xe none Qf acc ce (.error e) s'') u s' := by
  obtain ⟨⟨a, B, sI, pins', σ', H', cls, d, rfl, I, nb, up, sky, na, os, ag, w⟩, a', B', l', Z', ea, fly⟩ := x
  cases ea
  have nb : ∀ b o, sI.heap.get? b = some o → b ∉ frs X.stack → B.get? b = some o := nb
  have fl : HandSPX.FlyingZ B X.stack a (Zc cls d) s'.heap := by
    obtain ⟨_, _, _, oe', vs', T', oT', ts', e1, _, e2, e3, _, _, e4, e5, e6⟩ := fly
    rcases sky with ⟨_, _, _, oe, vs, g1, _, g2, g3⟩ | fl | ⟨_, _, _, oe, vs, T, oT, ts, g1, _, g2, g3, _, _, g4, g5, g6⟩
    · rw [e1] at g1; cases g1
      rw [e2] at g2; cases g2
      rw [e3] at g3; cases g3
    · exact fl
    · rw [e1] at g1; cases g1
      rw [e2] at g2; cases g2
      rw [e3] at g3; cases g3
      rw [e4] at g4; cases g4
      rw [e5] at g5; cases g5
      rw [e6] at g6
      exact absurd g6 (by simp [rawInt])
  have IX : Inv X pins σ H' sI := I3.call' (ch := fp) I.os I.base I.hok I.bare fun b hb => ⟨(hfp b hb).2.2.2.1, (hfp b hb).2.1, (hfp b hb).2.2.2.2.1, (hfp b hb).2.2.2.2.2⟩
  have nC : H' s3.heap.objs.size = none := by
    have z : H' ce.locals = none := I.free
    rwa [hL] at z
  have fpC : FpOk X pins H' s3.heap.objs.size := I3.fpOk (Nat.le_refl _) nC
  obtain ⟨m, hn, _⟩ := I.loc
  have hn : sI.heap.Ns ce.locals m := hn
  have frames : X.A.frames = some (X.env :: X.outer) := by rw [I3.ok.frames, hs0]
  have Cfr : s3.heap.objs.size ∉ frs X.stack := fun z => by
    rw [hs0] at z
    rcases List.mem_cons.mp (show s3.heap.objs.size ∈ X.env.locals :: X.fs by rw [show frs (X.env :: X.outer) = X.env.locals :: X.fs from by unfold frs; rw [List.filterMap_cons, hf]; rfl] at z; exact z) with z | z
    · exact fpC.2.1 z
    · exact fpC.2.2.1 z
  have en : noteFrame (.ref a) ce = noteFrame (.ref a) X.env := by
    unfold noteFrame PySem.frameOf
    rw [hce]
  show wpAny _ X.A (noteFrame (.ref a) ce) _ _ s'
  rw [en]
  rw [hs0] at fl
  refine HandSPX.looks_onZ Zc.steady frames hf fl fun h1 held up1 => ?_
  generalize hCe : s3.heap.objs.size = C at nC fpC Cfr hL
  obtain ⟨oC, es, ep, hoC, rC⟩ := hn
  rw [hL] at hoC
  have BC : B.get? C = some oC := nb C oC hoC Cfr
  obtain ⟨st1, Ba, ff1, oe, vs, T, oT, ts, ge, gz, gd, g1, gT, gTe, gTo, gdT, g3⟩ := held
  have aC : a ≠ C := fun z => by rw [z, BC] at Ba; cases Ba
  have TC : T ≠ C := fun z => by rw [z, BC] at gT; cases gT
  refine ⟨m, ⟨oC, es, ep, by rw [hL]; exact st1 C oC BC, rC⟩, fun h2 m2 _ sb => ?_⟩
  rw [hL] at sb
  have same : ∀ b, b ≠ C → h2.get? b = h1.get? b := sb.2
  -- the ground without the block's names
  have B2get : ∀ b o, (PySem.W.hideAll B [C]).get? b = some o → B.get? b = some o ∧ b ≠ C := fun b o e => ⟨PySem.W.of_hideAll _ e, fun z => by
    rw [z, PySem.W.hideAll_none [C] List.mem_cons_self] at e; cases e⟩
  have B2none : ∀ b, B.get? b = none → (PySem.W.hideAll B [C]).get? b = none := fun b e => by
    cases q : (PySem.W.hideAll B [C]).get? b with
    | none => rfl
    | some o => rw [(B2get b o q).1] at e; cases e
  have st2 : (PySem.W.hideAll B [C]).StaysIn h2 := fun b o e => by
    obtain ⟨e1, e2⟩ := B2get b o e
    rw [same b e2]
    exact st1 b o e1
  have frB : ∀ L ∈ frs (X.env :: X.outer), B.get? L = none := fun L hL' => (ff1.mem hL').1
  have ff2 : h2.FunFrames (PySem.W.hideAll B [C]) (X.env :: X.outer) := by
    refine funFrames_none (base := B) ?_ fun L hL' => B2none L (frB L hL')
    have key : ∀ l : List Env, (∀ L ∈ frs l, B.get? L = none) → h1.FunFrames B l → h2.FunFrames B l := fun l => by
      induction l with
      | nil => exact fun _ _ => trivial
      | cons env l ih =>
        intro hb hh
        obtain ⟨k1, ⟨L, o, k2, k3, k4, k5⟩, k6⟩ := hh
        refine ⟨k1, ⟨L, o, k2, k3, ?_, k5⟩, ih (fun L' hL' => hb L' (List.mem_filterMap.mpr ?_)) k6⟩
        · rw [same L fun z => by rw [z, BC] at k3; cases k3]
          exact k4
        · obtain ⟨v, hv, e⟩ := List.mem_filterMap.mp hL'
          exact ⟨v, List.mem_cons_of_mem _ hv, e⟩
    exact key _ frB ff1
  have tr2 : HandSPX.TracedZ h2 (PySem.W.hideAll B [C]) a (Zc cls d) (rawInt X.env.locals) := ⟨oe, vs, T, oT, ts, by rw [same a aC]; exact ge, gz, gd, g1, B2none T gT, gTe, by rw [same T TC]; exact gTo, gdT, g3⟩
  unfold PySem.passOn
  refine wpAny_bind (wpAny_field (by rw [same a aC]; exact ge : ({ s' with heap := h2 } : Shared).heap.get? a = some oe) gd g1 ?_)
  rw [if_neg (show ¬ ((Value.ref T == Value.none) = true) from by simp), hce, hf]
  have fin : wpAny (model X.prog X.w) X.A (setFlight (.ref a) (some X.env.locals)) (fun _ s4 => wpAny (model X.prog X.w) X.A (throw (.ref a) : Sem Value) (fun _ _ => False) X.xe s4) X.xe { s' with heap := h2 } := by
    refine HandSPX.setFlight_anyZ (s := { s' with heap := h2 }) st2 ff2 tr2 fun h3 st3 ff3 tr3 up3 => wpAny_throw (tk _ _ ?_)
    refine ⟨a, PySem.W.hideAll B [C], { sI with heap := PySem.W.hideAll sI.heap [C] }, pins, σ, H', cls, d, rfl, ?_, fun b o e hb => ?_, fun b o e nf => ?_, .inr (.inr ?_), na, os, ag, w⟩
    · exact IX.turned (t' := sI.toks) (it := C) (fun b o hb e => PySem.W.hideAll_get [C] e fun z => hb (List.mem_singleton.mp z)) nC fpC.2.1 fpC.2.2.2.1 fpC.2.2.2.2.1 fpC.2.2.2.2.2
    · have e1 : sI.heap.get? b = some o := PySem.W.of_hideAll _ e
      refine PySem.W.hideAll_get [C] (nb b o e1 hb) fun z => ?_
      rw [List.mem_singleton.mp z, PySem.W.hideAll_none [C] List.mem_cons_self] at e
      cases e
    · have e1 : sI.heap.get? b = some o := PySem.W.of_hideAll _ e
      have bC : b ≠ C := fun z => by
        rw [z, PySem.W.hideAll_none [C] List.mem_cons_self] at e; cases e
      obtain ⟨sl, e2⟩ := (up.trans up1) b o e1 nf
      have e3 : h2.get? b = some { o with slots := sl } := by rw [same b bC]; exact e2
      have r := up3 b { o with slots := sl } e3 nf
      exact r
    · rw [hs0]
      exact ⟨st3, B2none a Ba, ff3, tr3⟩
  first
    | exact wpAny_bind (wpAny_pure (wpAny_bind fin))
    | exact wpAny_bind fin
end
end Sb
namespace Sb
open PySem PySem.Spec PyProof.Rows L2
section
variable {X : Cx} {E : XK}
/-- [item for target in iter if ..], the item may raise -/
theorem pe_lcE {item tg iter : Expr} {tests : List Expr} {scope : Scope} {own : List (Str × Nat)} {pos : Pos} {wi : TI} {g : TG} {tt : TT} {te : TE} (top : X.stack = X.env :: X.outer) (hf : X.env.frame = some X.env.locals) (tk : Takes X (onlyE E)) (calm : X.calm = true) (nd : X.N.Nodup)
    (hi : PI X tg iter wi) (ok : BlkOk X.N X.env.scope scope own) (hg : ∀ (s : Shared) (H : Hp) (C : Addr) (cl : List (Str × Addr)) (fp : List Addr), PG (Cx.blkE X E s H scope (compEnvC scope cl C X.env) fp) tg g)
    (ht : ∀ (s : Shared) (H : Hp) (C : Addr) (cl : List (Str × Addr)) (fp : List Addr), PTs (Cx.blkE X E s H scope (compEnvC scope cl C X.env) fp) tests tt)
    (he : ∀ (s : Shared) (H : Hp) (C : Addr) (cl : List (Str × Addr)) (fp : List Addr), PE (Cx.blkE X E s H scope (compEnvC scope cl C X.env) fp) item te) (plain : ∀ x, foldedSetIterable iter X.env x = pure x := by intro _; rfl) :
    PE X (.ListComp item [⟨tg, iter, tests, 0⟩] scope pos) (tLc wi g tt te (own.map (·.2))) := by
  refine ⟨fun pins s σ H Q I h => ?_⟩
  rw [eval_ListComp]
  have free : ∀ y ∈ scope.names, y.2 = .free → ∃ c, X.env.cells.lookup y.1 = some c := by
    intro y hy e
    exact (ok.free y hy e).elim (fun k => I.ok.has _ (.inl k)) fun k => I.ok.has _ (.inr k)
  refine comprehension_at (use := none) rfl plain (closure_ok free) ok.kind (fun y hy e => by rw [ok.uniq y hy, e]) (thn (hi.run pins s σ H _ I h) fun xv s1 hx => thn hx fun itv s2 h2 => ?_)
  obtain ⟨it, fp, tn, J, H2, rfl, I2, T, st2, f2, q⟩ := h2
  refine wpAny_newObj_type (newEnv_comp ?_) (by show 0 ≤ sizeLine; decide)
  obtain ⟨D, hD⟩ : ∃ D, D = s2.heap.objs.size := ⟨_, rfl⟩
  have newD : H2 D = none := I2.hok.fresh (Nat.le_of_eq hD.symm)
  obtain ⟨W, ⟨m0, w0⟩, turn⟩ := q D newD
  rw [← hD]
  -- behind the new list
  obtain ⟨s3, hs3⟩ : ∃ s3 : Shared, s3 = { s2 with heap := s2.heap.push { cls := .type "list", data := .seq ([] : List Value).toArray } } := ⟨_, rfl⟩
  have heap3 : s3.heap = s2.heap.push { cls := .type "list", data := .seq ([] : List Value).toArray } := by rw [hs3]
  have I3 : Inv X pins σ (upd H2 D (.lst [])) s3 := by
    rw [hs3]
    exact I2.laid (t' := s2.toks) (fun b o e => Heap.get?_push_of_some _ e) (Nat.le_of_eq hD.symm) ⟨Nat.zero_le _, [], 0, .nil, by rw [hD]; exact Heap.get?_push_size _ rfl⟩
  have small : ∀ b ∈ fp, b < s2.heap.objs.size := by
    intro b hb
    obtain ⟨o, e, _⟩ := T.obj _ _ st2 b hb
    exact Heap.lt_size e
  have f3 : ∀ b ∈ fp, FpOk X pins (upd H2 D (.lst [])) b ∧ b < s3.heap.objs.size := by
    intro b hb
    have lt := small b hb
    refine ⟨⟨?_, (f2 b hb).2⟩, ?_⟩
    · rw [upd_ne (by rw [hD]; exact Nat.ne_of_lt lt)]
      exact (f2 b hb).1
    · rw [heap3, Heap.size_push]
      exact Nat.lt_succ_of_lt lt
  have st3 : tn 0 s3.heap := T.keep _ _ _ st2 fun b _ o e => by rw [heap3]; exact Heap.get?_push_of_some _ e
  have start := block_start I3 ok nd f3
  obtain ⟨cl, hcl⟩ : ∃ cl, cl = cellsFrom (s3.heap.objs.size + 1) scope.names (cloFrom X.env.cells scope.names []) := ⟨_, rfl⟩
  have go1 := hg s3 (upd H2 D (.lst [])) s3.heap.objs.size cl fp
  have go2 := ht s3 (upd H2 D (.lst [])) s3.heap.objs.size cl fp
  have go3 := he s3 (upd H2 D (.lst [])) s3.heap.objs.size cl fp
  rw [← hs3]
  show codeAny _ _ (.compStart (.ListComp item [⟨tg, iter, tests, 0⟩] scope pos) 0 (.ref it) (.ref D) (compEnvC scope (cellsFrom (s3.heap.objs.size + 1) scope.names (cloFrom X.env.cells scope.names [])) s3.heap.objs.size X.env))
    (compEnds (model X.prog X.w) X.A X.xe none (EP X pins σ Q) (.ref D) (compEnvC scope (cellsFrom (s3.heap.objs.size + 1) scope.names (cloFrom X.env.cells scope.names [])) s3.heap.objs.size X.env)) { s3 with heap := pushCells (s3.heap.push { cls := .type "dict", data := .dict #[] }) scope.names }
  rw [← hcl] at start ⊢
  obtain ⟨ce, hce⟩ : ∃ ce, ce = compEnvC scope cl s3.heap.objs.size X.env := ⟨_, rfl⟩
  rw [← hce] at start go1 go2 go3 ⊢
  have cL : ce.locals = s3.heap.objs.size := by rw [hce]; rfl
  have cF : ce.frame = X.env.frame := by rw [hce]; rfl
  generalize upd H2 D (.lst []) = H3 at I3 start go1 go2 go3 w0 f3
  obtain ⟨s4, hs4⟩ : ∃ s4 : Shared, s4 = { s3 with heap := pushCells (s3.heap.push { cls := .type "dict", data := .dict #[] }) scope.names } := ⟨_, rfl⟩
  rw [← hs4] at start ⊢
  have st4 : tn 0 s4.heap := T.keep _ _ _ st3 fun b _ o e => by rw [hs4]; exact pushCells_keeps _ _ _ _ (Heap.get?_push_of_some _ e)
  have out : ∀ u s', AirB (X.blk s3 H3 scope ce fp) (onlyE E) u s' → notedBy (model X.prog X.w) X.A ce (fun e s'' => compEnds (model X.prog X.w) X.A X.xe none (EP X pins σ Q) (.ref D) ce (.error e) s'') u s' := fun u s' x => air_out top hf tk I3 cL cF (fun b hb => (f3 b hb).1) x
  have startE : Inv (Cx.blkE X E s3 H3 scope ce fp) [] (wipe σ (own.map (·.2))) H3 s4 := start.toTry _
  have held : ∀ {pn : List (Addr × Obj)} {σ' : L2.St} {H' : Hp} {s' : Shared}, pn = [] → Inv (Cx.blkE X E s3 H3 scope ce fp) pn σ' H' s' → (∀ b ∈ fp, H' b = none) → ∀ b ∈ fp, FpOk (Cx.blkE X E s3 H3 scope ce fp) pn H' b := by
    rintro _ σ' H' s' rfl I' none b hb
    exact ⟨none b hb, (I'.ok.exf b hb).1, I'.ok.exfs b hb, .inl hb, fun x c e => (I'.ok.exf b hb).2 x c e, fun p hp => absurd (show p ∈ ([] : List (Addr × Obj)) ++ [] from hp) (by simp)⟩
  have wide : ∀ {α : Type} {t : Sem α} {R R' : α → Shared → Prop} {s : Shared}, wpAny (model X.prog X.w) X.A t R (AirB (X.blk s3 H3 scope ce fp) (onlyE E)) s → (∀ x s, R x s → R' x s) →
      wpAny (model X.prog X.w) X.A t R' (notedBy (model X.prog X.w) X.A ce fun e s'' => compEnds (model X.prog X.w) X.A X.xe none (EP X pins σ Q) (.ref D) ce (.error e) s'') s := fun h k => wpAny_mono h k out
  refine (fun loop => codeAny_compStart_list loop (T.self X.A 0 _ _ _ st4 loop)) ?_
  refine compLoop_any (fun n s' => ∃ i H', Inv (Cx.blkE X E s3 H3 scope ce fp) [] (wipe σ (own.map (·.2))) H' s' ∧ tn i s'.heap ∧ (∀ b ∈ fp, H' b = none) ∧ W i n H') ?_ m0 ⟨0, H3, startE, st4, fun b hb => (f3 b hb).1.1, w0⟩
  rintro n s5 ⟨i, H5, I5, st5, n5, w5⟩
  rcases turn i n H5 w5 with ⟨stop, qq⟩ | ⟨go, Nx, more, step⟩
  · refine wide (T.done (Cx.blkE X E s3 H3 scope ce fp) rfl rfl rfl calm i [] s5 _ H5 (AirB (X.blk s3 H3 scope ce fp) (onlyE E)) I5 (held rfl I5 n5) st5 stop) ?_
    rintro r s6 ⟨rfl, I6⟩
    have I7 : Inv X pins σ H5 s6 := I3.call' (ch := fp) I6.os I6.base I6.hok I6.bare fun b hb => ⟨(f3 b hb).1.2.2.2.1, (f3 b hb).1.2.1, (f3 b hb).1.2.2.2.2.1, (f3 b hb).1.2.2.2.2.2⟩
    have nC : H5 s3.heap.objs.size = none := by
      have z : H5 ce.locals = none := I6.free
      rwa [cL] at z
    obtain ⟨m, names, _⟩ := I6.loc
    refine ⟨m, names, fun h8 sb => ?_⟩
    rw [cL] at sb
    obtain ⟨f0, f1, _, f2', f4, f5⟩ := I3.fpOk (Nat.le_refl _) nC
    exact ⟨.ref D, H5, I7.turned (t' := s6.toks) (fun b o hb e => (sb.2 b hb).trans e) f0 f1 f2' f4 f5, rfl, qq⟩
  · refine wide (T.item (Cx.blkE X E s3 H3 scope ce fp) rfl rfl rfl calm i [] s5 _ H5 (AirB (X.blk s3 H3 scope ce fp) (onlyE E)) I5 (held rfl I5 n5) st5 go) ?_
    rintro r s6 ⟨u, rfl, h6⟩
    refine wide h6 ?_
    rintro _ s7 ⟨x, H7, I7, r7, y7, st7, n7⟩
    have J7 := I7.pinned (held rfl I7 n7) (T.obj _ _ st7)
    refine wide (go1.run _ s7 _ H7 x u _ J7 r7 (step x H7 y7)) ?_
    rintro _ s8 ⟨σ8, H8, I8, hw8, q8⟩
    refine wide (go2.run _ s8 σ8 H8 _ I8 q8) ?_
    rintro b s9 ⟨H9, I9, q9⟩
    have again : ∀ {s' : Shared} {H' : Hp}, Inv (Cx.blkE X E s3 H3 scope ce fp) ([] ++ pinsAt fp s7.heap) σ8 H' s' → Nx H' → ∃ m, m < n ∧ ∃ i H', Inv (Cx.blkE X E s3 H3 scope ce fp) [] (wipe σ (own.map (·.2))) H' s' ∧ tn i s'.heap ∧ (∀ b ∈ fp, H' b = none) ∧ W i m H' := by
      intro s' H' I' nx
      obtain ⟨m', hm, w'⟩ := more H' nx
      have pins' : ∀ b ∈ fp, ∀ o, s7.heap.get? b = some o → s'.heap.get? b = some o ∧ H' b = none := fun b hb o e => by
        have z := I'.pin (b, o) (List.mem_append_right _ (List.mem_append_right _ (mem_pinsAt hb e)))
        exact ⟨z.1, z.2.1⟩
      refine ⟨m', hm, i + 1, H', (I'.unpinned (pins := [])).weak (by rw [← hw8, wipe_length]) (fun j v e => ?_), T.keep _ _ _ st7 fun b hb o e => (pins' b hb o e).1, fun b hb => ?_, w'⟩
      · rw [← hw8] at e
        exact (wipe_some e).1
      · obtain ⟨o, e, _⟩ := T.obj _ _ st7 b hb
        exact (pins' b hb o e).2
    cases b with
    | false =>
      rw [if_neg Bool.false_ne_true] at q9 ⊢
      exact again I9 q9
    | true =>
      rw [if_pos rfl] at q9 ⊢
      refine wide (go3.run _ s9 σ8 H9 _ I9 q9) ?_
      rintro z s10 ⟨yv, H10, I10, r10, acc, hD10, hz10, nx⟩
      exact app_ok (X := Cx.blkE X E s3 H3 scope ce fp) I10 hD10 hz10 r10 fun s11 I11 => again I11 nx
end
end Sb

namespace Sb
open PySem L2
def top (i : Nat) : Stmt := PySem.Challenge.pw_siblingshelf_k02_marks_written.main.body.getD i (.Pass ⟨0, 0, 0, 0⟩)
abbrev s_written : Stmt := top 9
abbrev N_written : List Str := ["mark", "number"]
theorem sc_written : FnScope N_written ["mark"] (defScope s_written) := ⟨rfl, rfl, rfl, by decide +kernel, rfl, by decide +kernel, by decide +kernel⟩
abbrev s_number_of : Stmt := top 10
abbrev N_number_of : List Str := ["word", "sign"]
theorem sc_number_of : FnScope N_number_of ["word"] (defScope s_number_of) := ⟨rfl, rfl, rfl, by decide +kernel, rfl, by decide +kernel, by decide +kernel⟩
abbrev s_read : Stmt := top 11
abbrev N_read : List Str := ["line", "many", "words", "word"]
theorem sc_read : FnScope N_read ["line", "many"] (defScope s_read) := ⟨rfl, rfl, rfl, by decide +kernel, rfl, by decide +kernel, by decide +kernel⟩
abbrev s_l_cell_at : Stmt := top 13
abbrev N_l_cell_at : List Str := ["_law_script", "_law_k"]
theorem sc_l_cell_at : FnScope N_l_cell_at ["_law_script", "_law_k"] (defScope s_l_cell_at) := ⟨rfl, rfl, rfl, by decide +kernel, rfl, by decide +kernel, by decide +kernel⟩
abbrev s_l_figures : Stmt := top 14
abbrev N_l_figures : List Str := ["_law_number_here", "_law_found"]
theorem sc_l_figures : FnScope N_l_figures ["_law_number_here"] (defScope s_l_figures) := ⟨rfl, rfl, rfl, by decide +kernel, rfl, by decide +kernel, by decide +kernel⟩
abbrev s_l_sign_by : Stmt := top 15
abbrev N_l_sign_by : List Str := ["_law_cell", "_law_some"]
theorem sc_l_sign_by : FnScope N_l_sign_by ["_law_cell"] (defScope s_l_sign_by) := ⟨rfl, rfl, rfl, by decide +kernel, rfl, by decide +kernel, by decide +kernel⟩
abbrev s_l_odd : Stmt := top 16
abbrev N_l_odd : List Str := ["_law_cell", "_law_odd_here"]
theorem sc_l_odd : FnScope N_l_odd ["_law_cell"] (defScope s_l_odd) := ⟨rfl, rfl, rfl, by decide +kernel, rfl, by decide +kernel, by decide +kernel⟩
abbrev s_l_changed : Stmt := top 17
abbrev N_l_changed : List Str := ["_law_text", "_law_way", "_law_cell", "_law_sign", "_law_at", "_law_words"]
theorem sc_l_changed : FnScope N_l_changed ["_law_text", "_law_way", "_law_cell", "_law_sign"] (defScope s_l_changed) := ⟨rfl, rfl, rfl, by decide +kernel, rfl, by decide +kernel, by decide +kernel⟩
abbrev s_l_number : Stmt := top 18
abbrev N_l_number : List Str := ["_law_word", "_law_number_here", "_law_sign", "_law_place"]
theorem sc_l_number : FnScope N_l_number ["_law_word"] (defScope s_l_number) := ⟨rfl, rfl, rfl, by decide +kernel, rfl, by decide +kernel, by decide +kernel⟩
abbrev s_l_due : Stmt := top 19
abbrev N_l_due : List Str := ["_law_line", "_law_many", "_law_words", "_law_sign", "_law_numbers", "_law_word"]
theorem sc_l_due : FnScope N_l_due ["_law_line", "_law_many"] (defScope s_l_due) := ⟨rfl, rfl, rfl, by decide +kernel, rfl, by decide +kernel, by decide +kernel⟩
abbrev s_law : Stmt := top 20
abbrev N_law : List Str := ["_law_script", "_law_many", "_law_most", "_law_mark", "_law_text", "_law_number_here", "_law_found", "_law_way", "_law_count", "_law_due_here", "e", "_law_k", "_law_one"]
theorem sc_law : FnScope N_law ["_law_script"] (defScope s_law) := ⟨rfl, rfl, rfl, by decide +kernel, rfl, by decide +kernel, by decide +kernel⟩
structure Ad where
  C_ShelfError : Addr
  C_BadCount : Addr
  C_NoKeeper : Addr
  C_BadMark : Addr
  C_BadNote : Addr
  f_written : Addr
  d_written : FuncData
  f_number_of : Addr
  d_number_of : FuncData
  f_read : Addr
  d_read : FuncData
  f_l_cell_at : Addr
  d_l_cell_at : FuncData
  f_l_figures : Addr
  d_l_figures : FuncData
  f_l_sign_by : Addr
  d_l_sign_by : FuncData
  f_l_odd : Addr
  d_l_odd : FuncData
  f_l_changed : Addr
  d_l_changed : FuncData
  f_l_number : Addr
  d_l_number : FuncData
  f_l_due : Addr
  d_l_due : FuncData
  f_law : Addr
  d_law : FuncData
structure Txt (K : Frag) (mg : Str → Option Value) (a : Ad) : Prop where
  n_ValueError : mg "ValueError" = none
  n_bool : mg "bool" = none
  n_int : mg "int" = none
  n_isinstance : mg "isinstance" = none
  n_len : mg "len" = none
  n_max : mg "max" = none
  n_range : mg "range" = none
  n_str : mg "str" = none
  n_tuple : mg "tuple" = none
  g_FIGURES : ∃ t, mg "FIGURES" = some (.str "0123456789" t)
  g_MOST_FIGURES : ∃ t, mg "MOST_FIGURES" = some (.int 60 t)
  g_ShelfError : mg "ShelfError" = some (.ref a.C_ShelfError)
  x_ShelfError : PySem.W.excIn K a.C_ShelfError [.type "ValueError", .type "Exception", .type "BaseException", .type "object"] "ValueError.__new__" = true
  k_ShelfError : PySem.W.keepIn K (.ref a.C_ShelfError) = true
  b_ShelfError : PySem.W.subIn K (.ref a.C_ShelfError) (.type "BaseException") = some true
  t_ShelfError : PySem.W.typeIn K (.ref a.C_ShelfError) = some (.type "type")
  h_ShelfError : PySem.W.hasDictIn K a.C_ShelfError = true
  v_ShelfError : PySem.W.subIn K (.ref a.C_ShelfError) (.type "ValueError") = some true
  e_ShelfError : ExcC K a.C_ShelfError
  s_ShelfError_ShelfError : PySem.W.subIn K (.ref a.C_ShelfError) (.ref a.C_ShelfError) = some true
  s_ShelfError_BadCount : PySem.W.subIn K (.ref a.C_ShelfError) (.ref a.C_BadCount) = some false
  s_ShelfError_NoKeeper : PySem.W.subIn K (.ref a.C_ShelfError) (.ref a.C_NoKeeper) = some false
  s_ShelfError_BadMark : PySem.W.subIn K (.ref a.C_ShelfError) (.ref a.C_BadMark) = some false
  s_ShelfError_BadNote : PySem.W.subIn K (.ref a.C_ShelfError) (.ref a.C_BadNote) = some false
  g_BadCount : mg "BadCount" = some (.ref a.C_BadCount)
  x_BadCount : PySem.W.excIn K a.C_BadCount [.type "ValueError", .type "Exception", .type "BaseException", .type "object"] "ValueError.__new__" = true
  k_BadCount : PySem.W.keepIn K (.ref a.C_BadCount) = true
  b_BadCount : PySem.W.subIn K (.ref a.C_BadCount) (.type "BaseException") = some true
  t_BadCount : PySem.W.typeIn K (.ref a.C_BadCount) = some (.type "type")
  h_BadCount : PySem.W.hasDictIn K a.C_BadCount = true
  v_BadCount : PySem.W.subIn K (.ref a.C_BadCount) (.type "ValueError") = some true
  e_BadCount : ExcC K a.C_BadCount
  s_BadCount_ShelfError : PySem.W.subIn K (.ref a.C_BadCount) (.ref a.C_ShelfError) = some true
  s_BadCount_BadCount : PySem.W.subIn K (.ref a.C_BadCount) (.ref a.C_BadCount) = some true
  s_BadCount_NoKeeper : PySem.W.subIn K (.ref a.C_BadCount) (.ref a.C_NoKeeper) = some false
  s_BadCount_BadMark : PySem.W.subIn K (.ref a.C_BadCount) (.ref a.C_BadMark) = some false
  s_BadCount_BadNote : PySem.W.subIn K (.ref a.C_BadCount) (.ref a.C_BadNote) = some false
  g_NoKeeper : mg "NoKeeper" = some (.ref a.C_NoKeeper)
  x_NoKeeper : PySem.W.excIn K a.C_NoKeeper [.type "ValueError", .type "Exception", .type "BaseException", .type "object"] "ValueError.__new__" = true
  k_NoKeeper : PySem.W.keepIn K (.ref a.C_NoKeeper) = true
  b_NoKeeper : PySem.W.subIn K (.ref a.C_NoKeeper) (.type "BaseException") = some true
  t_NoKeeper : PySem.W.typeIn K (.ref a.C_NoKeeper) = some (.type "type")
  h_NoKeeper : PySem.W.hasDictIn K a.C_NoKeeper = true
  v_NoKeeper : PySem.W.subIn K (.ref a.C_NoKeeper) (.type "ValueError") = some true
  e_NoKeeper : ExcC K a.C_NoKeeper
  s_NoKeeper_ShelfError : PySem.W.subIn K (.ref a.C_NoKeeper) (.ref a.C_ShelfError) = some true
  s_NoKeeper_BadCount : PySem.W.subIn K (.ref a.C_NoKeeper) (.ref a.C_BadCount) = some false
  s_NoKeeper_NoKeeper : PySem.W.subIn K (.ref a.C_NoKeeper) (.ref a.C_NoKeeper) = some true
  s_NoKeeper_BadMark : PySem.W.subIn K (.ref a.C_NoKeeper) (.ref a.C_BadMark) = some false
  s_NoKeeper_BadNote : PySem.W.subIn K (.ref a.C_NoKeeper) (.ref a.C_BadNote) = some false
  g_BadMark : mg "BadMark" = some (.ref a.C_BadMark)
  x_BadMark : PySem.W.excIn K a.C_BadMark [.type "ValueError", .type "Exception", .type "BaseException", .type "object"] "ValueError.__new__" = true
  k_BadMark : PySem.W.keepIn K (.ref a.C_BadMark) = true
  b_BadMark : PySem.W.subIn K (.ref a.C_BadMark) (.type "BaseException") = some true
  t_BadMark : PySem.W.typeIn K (.ref a.C_BadMark) = some (.type "type")
  h_BadMark : PySem.W.hasDictIn K a.C_BadMark = true
  v_BadMark : PySem.W.subIn K (.ref a.C_BadMark) (.type "ValueError") = some true
  e_BadMark : ExcC K a.C_BadMark
  s_BadMark_ShelfError : PySem.W.subIn K (.ref a.C_BadMark) (.ref a.C_ShelfError) = some true
  s_BadMark_BadCount : PySem.W.subIn K (.ref a.C_BadMark) (.ref a.C_BadCount) = some false
  s_BadMark_NoKeeper : PySem.W.subIn K (.ref a.C_BadMark) (.ref a.C_NoKeeper) = some false
  s_BadMark_BadMark : PySem.W.subIn K (.ref a.C_BadMark) (.ref a.C_BadMark) = some true
  s_BadMark_BadNote : PySem.W.subIn K (.ref a.C_BadMark) (.ref a.C_BadNote) = some false
  g_BadNote : mg "BadNote" = some (.ref a.C_BadNote)
  x_BadNote : PySem.W.excIn K a.C_BadNote [.type "ValueError", .type "Exception", .type "BaseException", .type "object"] "ValueError.__new__" = true
  k_BadNote : PySem.W.keepIn K (.ref a.C_BadNote) = true
  b_BadNote : PySem.W.subIn K (.ref a.C_BadNote) (.type "BaseException") = some true
  t_BadNote : PySem.W.typeIn K (.ref a.C_BadNote) = some (.type "type")
  h_BadNote : PySem.W.hasDictIn K a.C_BadNote = true
  v_BadNote : PySem.W.subIn K (.ref a.C_BadNote) (.type "ValueError") = some true
  e_BadNote : ExcC K a.C_BadNote
  s_BadNote_ShelfError : PySem.W.subIn K (.ref a.C_BadNote) (.ref a.C_ShelfError) = some true
  s_BadNote_BadCount : PySem.W.subIn K (.ref a.C_BadNote) (.ref a.C_BadCount) = some false
  s_BadNote_NoKeeper : PySem.W.subIn K (.ref a.C_BadNote) (.ref a.C_NoKeeper) = some false
  s_BadNote_BadMark : PySem.W.subIn K (.ref a.C_BadNote) (.ref a.C_BadMark) = some false
  s_BadNote_BadNote : PySem.W.subIn K (.ref a.C_BadNote) (.ref a.C_BadNote) = some true
  F_written : Fun K "written" "written" s_written a.f_written a.d_written
  b_written : Binds K a.d_written ["mark"] []
  k_written : PySem.W.keepIn K (.ref a.f_written) = true
  g_written : mg "written" = some (.ref a.f_written)
  F_number_of : Fun K "number_of" "number_of" s_number_of a.f_number_of a.d_number_of
  b_number_of : Binds K a.d_number_of ["word"] []
  k_number_of : PySem.W.keepIn K (.ref a.f_number_of) = true
  g_number_of : mg "number_of" = some (.ref a.f_number_of)
  F_read : Fun K "read" "read" s_read a.f_read a.d_read
  b_read : Binds K a.d_read ["line", "many"] []
  k_read : PySem.W.keepIn K (.ref a.f_read) = true
  g_read : mg "read" = some (.ref a.f_read)
  F_l_cell_at : Fun K "_law_cell_at" "_law_cell_at" s_l_cell_at a.f_l_cell_at a.d_l_cell_at
  b_l_cell_at : Binds K a.d_l_cell_at ["_law_script", "_law_k"] []
  k_l_cell_at : PySem.W.keepIn K (.ref a.f_l_cell_at) = true
  g_l_cell_at : mg "_law_cell_at" = some (.ref a.f_l_cell_at)
  F_l_figures : Fun K "_law_figures" "_law_figures" s_l_figures a.f_l_figures a.d_l_figures
  b_l_figures : Binds K a.d_l_figures ["_law_number_here"] []
  k_l_figures : PySem.W.keepIn K (.ref a.f_l_figures) = true
  g_l_figures : mg "_law_figures" = some (.ref a.f_l_figures)
  F_l_sign_by : Fun K "_law_sign_by" "_law_sign_by" s_l_sign_by a.f_l_sign_by a.d_l_sign_by
  b_l_sign_by : Binds K a.d_l_sign_by ["_law_cell"] []
  k_l_sign_by : PySem.W.keepIn K (.ref a.f_l_sign_by) = true
  g_l_sign_by : mg "_law_sign_by" = some (.ref a.f_l_sign_by)
  F_l_odd : Fun K "_law_odd" "_law_odd" s_l_odd a.f_l_odd a.d_l_odd
  b_l_odd : Binds K a.d_l_odd ["_law_cell"] []
  k_l_odd : PySem.W.keepIn K (.ref a.f_l_odd) = true
  g_l_odd : mg "_law_odd" = some (.ref a.f_l_odd)
  F_l_changed : Fun K "_law_changed" "_law_changed" s_l_changed a.f_l_changed a.d_l_changed
  b_l_changed : Binds K a.d_l_changed ["_law_text", "_law_way", "_law_cell", "_law_sign"] []
  k_l_changed : PySem.W.keepIn K (.ref a.f_l_changed) = true
  g_l_changed : mg "_law_changed" = some (.ref a.f_l_changed)
  F_l_number : Fun K "_law_number" "_law_number" s_l_number a.f_l_number a.d_l_number
  b_l_number : Binds K a.d_l_number ["_law_word"] []
  k_l_number : PySem.W.keepIn K (.ref a.f_l_number) = true
  g_l_number : mg "_law_number" = some (.ref a.f_l_number)
  F_l_due : Fun K "_law_due" "_law_due" s_l_due a.f_l_due a.d_l_due
  b_l_due : Binds K a.d_l_due ["_law_line", "_law_many"] []
  k_l_due : PySem.W.keepIn K (.ref a.f_l_due) = true
  g_l_due : mg "_law_due" = some (.ref a.f_l_due)
  F_law : Fun K "law" "law" s_law a.f_law a.d_law
  b_law : Binds K a.d_law ["_law_script"] []
  k_law : PySem.W.keepIn K (.ref a.f_law) = true
  g_law : mg "law" = some (.ref a.f_law)
end Sb

namespace Sb
open PySem L2
section
variable {K : Frag} {M : Addr → Prop} {H : Hp} {v x y : V} {Q : VK}
/-- isinstance of what was caught, its class told by the reading -/
def rIsX (K : Frag) (cls : Value) (dd : Option Addr) (ae : Addr) : List V → Hp → VK → Prop := fun xs H Q => ∃ D, cls = .ref D ∧ dd = none ∧ ExcC K D ∧ rIsE K D ae xs H Q
theorem call_isX {X : Cx} {ae : Addr} {cls : Value} {dd : Option Addr} {oe : Obj} {pn : List (Addr × Obj)} (hz : Zc cls dd oe) (hf : ∃ vs, oe.data = .fields vs) : CallR (X.suite ae ((ae, oe) :: pn)) (.builtin "isinstance") (rIsX X.K cls dd ae) := by
  intro pins s σ H xs us Q I r h
  obtain ⟨D, rfl, rfl, C, h⟩ := h
  exact call_isE C hz hf pins s σ H xs us Q I r h
theorem kit_ref {D C : Addr} {b : Bool} (hd : PySem.W.hasDictIn K C = true) (ht : PySem.W.typeIn K (.ref C) = some (.type "type")) (hs : PySem.W.subIn K (.ref D) (.ref C) = some b) (e : D = C → b = true) : PySem.W.kitOne K (.ref D) (.ref C) = some b := by
  have hc : (PySem.W.clsIn K C).isSome = true := by
    unfold PySem.W.hasDictIn at hd
    cases h : PySem.W.clsIn K C with
    | none => rw [h] at hd; cases hd
    | some c => rfl
  unfold PySem.W.kitOne PySem.W.kitCls
  by_cases q : (Value.ref D == Value.ref C) = true
  · rw [if_pos q]
    have : D = C := by simpa using q
    rw [e this]
  · rw [if_neg q]
    simp only [hc, ht, Bool.true_and]
    rw [if_pos (by decide)]
    exact hs
theorem kit_no {D C : Addr} (hd : PySem.W.hasDictIn K C = true) (ht : PySem.W.typeIn K (.ref C) = some (.type "type")) (hs : PySem.W.subIn K (.ref D) (.ref C) = some false) (hc : PySem.W.subIn K (.ref C) (.ref C) = some true) : PySem.W.kitOne K (.ref D) (.ref C) = some false :=
  kit_ref hd ht hs fun e => by subst e; rw [hs] at hc; cases hc
theorem kit_ve {D : Addr} (hs : PySem.W.subIn K (.ref D) (.type "ValueError") = some true) : PySem.W.kitOne K (.ref D) (.type "ValueError") = some true := by
  unfold PySem.W.kitOne PySem.W.kitCls
  rw [if_neg (by simp)]
  simp only
  rw [if_pos (by decide +kernel)]
  exact hs
theorem w_isXR {D C ae : Addr} {b : Bool} (e : ExcC K D) (k : PySem.W.kitOne K (.ref D) (.ref C) = some b) (q : Q (.bl b) H) : rIsX K (.ref D) none ae [.ref ae, .ref C] H Q :=
  ⟨D, rfl, rfl, e, .ref C, .ref C, b, rfl, fun u r => r, k, q⟩
theorem w_isXV {D ae : Addr} (e : ExcC K D) (k : PySem.W.subIn K (.ref D) (.type "ValueError") = some true) (q : Q (.bl true) H) : rIsX K (.ref D) none ae [.ref ae, .ty "ValueError"] H Q :=
  ⟨D, rfl, rfl, e, .ty "ValueError", .type "ValueError", true, rfl, fun u r => r, kit_ve k, q⟩
/-- xs.count(True) of truths -/
def rCountB (K : Frag) : V → List V → Hp → VK → Prop := fun x xs H Q => ∃ (p : Addr) (bs : List Bool) (k : Bool), x = .ref p ∧ xs = [.bl k] ∧ SqL K H p (bs.map V.bl) ∧ Q (.int (bs.count k : Nat)) H
theorem reads_bools {h : Heap} : ∀ bs : List Bool, ∃ as, ReadsAll h (bs.map Value.bool) (bs.map PyData.bool) as
  | [] => ⟨[], .nil⟩
  | b :: bs => let ⟨as, r⟩ := reads_bools bs; ⟨_, .cons (.bool b) r⟩
theorem count_bools (k : Bool) : ∀ bs : List Bool, PySem.Spec.countIn (.bool k) (bs.map PyData.bool) = (bs.count k : Nat)
  | [] => rfl
  | b :: bs => by
    rw [List.map_cons]
    unfold PySem.Spec.countIn
    rw [count_bools k bs, List.count_cons]
    cases b <;> cases k <;> simp [PySem.Spec.same] <;> omega
theorem mt_countB {X : Cx} : MtR X "list.count" (rCountB X.K) := by
  intro pins s σ H x xs v us Q I rx rxs h
  obtain ⟨p, bs, k, rfl, rfl, hs, q⟩ := h
  cases rx
  obtain ⟨u, rfl, ru⟩ := rxs.one
  cases ru
  obtain ⟨its, rv, hl, hlen⟩ := I.list hs
  obtain rfl := Vals.bls rv
  obtain ⟨as, ra⟩ := reads_bools (h := s.heap) bs
  refine PyProof.Rows.count_list_bools hl.isList ra (by simp; exact ⟨fun _ => rfl, fun _ => rfl⟩) ?_
  rw [count_bools]
  exact ⟨.int (bs.count k : Nat), H, I.tok _, ⟨_, rfl⟩, q⟩
end
end Sb

namespace Sb
open PySem L2
def cell (ns : List Int) (k : Nat) : Int := ns.getD k 0
def sp_cell (K : Frag) : Sp := fun vs H Q _ => ∃ (b : Addr) (ns : List Int) (k : Nat), vs = [.ref b, .int k] ∧ SqL K H b (ns.map V.int) ∧ Q (.int (cell ns k)) H
section
variable {P : Program} {w : World} {K : Frag} {mg : Str → Option Value} {base : Heap} {a : Ad}
local macro_rules | `(tactic| walk_at "e1") => `(tactic| first
  | ((with_reducible refine' w_var ?wh ?_); (case wh => rfl))
  | with_reducible refine w_c ?_
  | with_reducible refine w_projn ?_
  | with_reducible refine w_projr ?_
  | with_reducible refine w_op ?_
  | with_reducible refine w_cons ?_
  | with_reducible refine w_nil ?_
  | with_reducible refine w_I0 ?_
  | ((with_reducible refine w_I ?wc ?_); (case wc => first | (show (0 : Int) < _; decide) | exact ⟨by decide, by decide⟩ | exact ⟨by decide, by decide, by decide⟩ | exact Or.inr ⟨by decide, by decide⟩ | exact Or.inl ⟨by decide, by decide⟩ | (show (0 : Int) < _; omega) | exact ⟨by omega, by omega⟩))
  | with_reducible refine w_bl ?_
  | with_reducible refine w_test ?_
  | with_reducible refine w_tB ?_
  | with_reducible refine w_set ?_
  | with_reducible refine w_ifS ?_
  | with_reducible refine w_if ?_
  | with_reducible refine w_or ?_
  | with_reducible refine w_and ?_
  | with_reducible refine w_not ?_
  | with_reducible refine w_orV ?_
  | with_reducible refine w_andV ?_
  | with_reducible refine w_notV ?_
  | with_reducible refine w_ret ?_
  | with_reducible refine w_retN ?_
  | with_reducible refine w_drop ?_
  | with_reducible refine w_next ?_
  | with_reducible refine w_un ?_
  | with_reducible refine w_CB ?_
  | with_reducible refine w_call ?_
  | with_reducible refine w_callS ?_
  | with_reducible refine w_gName ?_
  | with_reducible refine w_asg ?_
  | with_reducible refine w_tTup ?_
  | with_reducible refine w_tLst ?_
  | with_reducible refine w_lc ?_
  | with_reducible refine w_iRng1 ?_
  | with_reducible refine w_iRng2 ?_
  | with_reducible refine w_iList ?_
  | with_reducible refine w_iTup ?_
  | with_reducible refine w_for ?_
  | with_reducible refine w_chain ?_
  | with_reducible refine w_sl ?_
  | with_reducible refine w_part ?_
  | with_reducible refine w_nopart ?_
  | with_reducible refine w_exint ?_
  | with_reducible refine w_dput ?_
  | with_reducible refine w_gSub ?_
  | with_reducible refine w_sFld ?_
  | with_reducible refine w_dget2 ?_
  | with_reducible refine w_dget ?_
  | with_reducible refine w_bm ?_
  | with_reducible refine w_isiII ?_
  | with_reducible refine w_isiIB ?_
  | with_reducible refine w_isiBB ?_
  | with_reducible refine w_max ?_
  | ((with_reducible refine w_eq ?we ?_); (case we => rfl))
  | ((with_reducible refine w_ne ?we ?_); (case we => rfl)))
local macro_rules | `(tactic| walk_at "w1") => `(tactic| first | walk_at "e1" | with_reducible refine w_seq ?_)
local macro_rules | `(tactic| walk_at "e") => `(tactic| repeat walk_at "e1")
local macro_rules | `(tactic| walk_at "w") => `(tactic| repeat walk_at "w1")

theorem ok_l_cell_at (T : Txt K mg a) : FnOk P w K mg base (L2.CX P w) 1 a.f_l_cell_at a.d_l_cell_at ["_law_script", "_law_k"] (sp_cell K) := by
  refine T.F_l_cell_at.okX sc_l_cell_at (fun vs H Q E h => ?_) (fun cdv A outer s H vs Q E hr h => ?_)
  · obtain ⟨b, ns, k, rfl, _⟩ := h; rfl
  · obtain ⟨b, ns, k, rfl, hs, q⟩ := h
    refine ⟨_, (pss_cons (ps_if (pt_cmpR op_lt (pv 1) (pe_callB (r := rLen K) cl_len rfl T.n_len (by decide +kernel) (pa_cons (pv 0) pa_nil)) (nomark _)) (pss_one (ps_ret (pe_ix (r := rIxL K) ix_list (pv 0) (pv 1) (fun _ _ => rfl)))) pss_nil)
  (pss_one (ps_ret pe_int))), ?_⟩
    walk_at "w"
    refine w_lenS hs ?_
    walk_at "w"
    rw [List.length_map]
    refine ite2 (fun h1 => ?_) (fun h1 => ?_)
    · have hk : k < ns.length := by have := of_decide_eq_true h1; omega
      walk_at "w"
      refine w_ixS k hs rfl (v := .int (cell ns k)) ?_ ?_
      · unfold cell
        rw [List.getElem?_map, List.getD_eq_getElem?_getD, List.getElem?_eq_getElem hk]; rfl
      · exact q
    · have hk : ¬ k < ns.length := fun z => h1 (decide_eq_true (by omega))
      walk_at "w"
      have e : cell ns k = 0 := by
        unfold cell
        rw [List.getD_eq_getElem?_getD, List.getElem?_eq_none (by omega)]; rfl
      rw [e] at q
      exact q
end
end Sb

namespace Sb
open PySem L2 PyProof.Rows SX
def rAddS : R2 := fun x y H Q => ∃ i j : Str, x = .str i ∧ y = .str j ∧ i.length + j.length ≤ sizeLine ∧ Q (.str (i ++ j)) H
theorem w_iStr {te : TE} {σ : L2.St} {H : Hp} {R : It → Hp → Prop} (q : te σ H fun v H1 => ∃ x, v = .str x ∧ R (Its x) H1) : iStr te σ H R := q
theorem w_m1 {r : V → List V → Hp → VK → Prop} {to te : TE} {σ : L2.St} {H : Hp} {Q : VK} (q : to σ H fun x H1 => (∃ a, x = .str a) ∧ te σ H1 fun y H2 => r x [y] H2 Q) : tM1 r to te σ H Q := q
theorem one_eq {c d : Nat} : (V.str ⟨#[c]⟩ = V.str ⟨#[d]⟩) ↔ c = d := ⟨fun h => by
  have h := V.str.inj h
  have h : #[c] = #[d] := congrArg Str.cps h
  simpa using h, fun h => by rw [h]⟩
theorem zero_S : ("0" : Str) = ⟨#[48]⟩ := by decide +kernel
theorem blank_S : (" " : Str) = ⟨#[32]⟩ := by decide +kernel
theorem blank_S' : (" " : Str) = S [32] := by decide +kernel
theorem S_cps (l : List Nat) : (S l).cps.toList = l := rfl
theorem its_S {l : List Nat} {i c : Nat} (h : (S l).cps[i]? = some c) : l[i]? = some c := by
  rw [← Array.getElem?_toList] at h
  exact h
theorem S_size (l : List Nat) : (S l).cps.size = l.length := List.size_toArray ..
def sp_number_of (a : Ad) : Sp := fun vs H Q E => ∃ w : List Nat, vs = [.str (S w)] ∧ w.length ≤ 100000 ∧ (okW w = true → Q (.int (valW w)) H) ∧ (okW w = false → E (.ref a.C_BadNote) none H)
def marksI (ws : List (List Nat)) : List Int := ws.map fun w => (valW w : Int)
def sp_read (a : Ad) : Sp := fun vs H Q E => ∃ (l : List Nat) (many : Int), vs = [.str (S l), .int many] ∧ l.length ≤ 50000 ∧
  (((wordsL [] l).length = many ∧ ∀ w ∈ wordsL [] l, okW w = true) → ∀ v' H', Same H H' → (∀ M, Rp M H' v' (markD (marksI (wordsL [] l)))) → Q v' H') ∧
  (¬ ((wordsL [] l).length = many ∧ ∀ w ∈ wordsL [] l, okW w = true) → ∀ H', Same H H' → E (.ref a.C_BadNote) none H')
def textOf (m : List Int) : List Nat := TL.joinL [32] (m.map fun i => TL.numL i.toNat)
def sp_written : Sp := fun vs H Q _ => ∃ (M : Addr → Prop) (x : V) (m : List Int), vs = [x] ∧ Rp M H x (markD m) ∧ (∀ i ∈ m, 0 ≤ i ∧ i < 10 ^ 60) ∧ m.length ≤ 9 ∧ ∀ H', Same H H' → Q (.str (S (textOf m))) H'
def sp_l_figures : Sp := fun vs H Q _ => ∃ n : Nat, vs = [.int n] ∧ n < 10 ^ 60 ∧ Q (.str (S (TL.numL n))) H
def sp_l_sign_by : Sp := fun vs H Q _ => ∃ c : Int, vs = [.int c] ∧ ∀ d, d < 128 → Q (.str (S [d])) H
section
variable {P : Program} {w : World} {K : Frag} {mg : Str → Option Value} {base : Heap} {a : Ad}
local macro_rules | `(tactic| walk_at "e1") => `(tactic| first
  | ((with_reducible refine' w_var ?wh ?_); (case wh => rfl))
  | with_reducible refine w_c ?_
  | with_reducible refine w_projn ?_
  | with_reducible refine w_projr ?_
  | with_reducible refine w_op ?_
  | with_reducible refine w_cons ?_
  | with_reducible refine w_nil ?_
  | with_reducible refine w_I0 ?_
  | ((with_reducible refine w_I ?wc ?_); (case wc => first | (show (0 : Int) < _; decide) | exact ⟨by decide, by decide⟩ | exact ⟨by decide, by decide, by decide⟩ | exact Or.inr ⟨by decide, by decide⟩ | exact Or.inl ⟨by decide, by decide⟩ | (show (0 : Int) < _; omega) | exact ⟨by omega, by omega⟩))
  | with_reducible refine w_bl ?_
  | with_reducible refine w_test ?_
  | with_reducible refine w_tB ?_
  | with_reducible refine w_set ?_
  | with_reducible refine w_ifS ?_
  | with_reducible refine w_if ?_
  | with_reducible refine w_or ?_
  | with_reducible refine w_and ?_
  | with_reducible refine w_not ?_
  | with_reducible refine w_orV ?_
  | with_reducible refine w_andV ?_
  | with_reducible refine w_notV ?_
  | with_reducible refine w_ret ?_
  | with_reducible refine w_retN ?_
  | with_reducible refine w_drop ?_
  | with_reducible refine w_next ?_
  | with_reducible refine w_un ?_
  | with_reducible refine w_CB ?_
  | with_reducible refine w_call ?_
  | with_reducible refine w_callS ?_
  | with_reducible refine w_gName ?_
  | with_reducible refine w_gCons ?_
  | with_reducible refine w_gNil ?_
  | with_reducible refine w_iEnum ?_
  | with_reducible refine w_tMake ?_
  | with_reducible refine w_asg ?_
  | with_reducible refine w_tTup ?_
  | with_reducible refine w_tLst ?_
  | with_reducible refine w_lc ?_
  | with_reducible refine w_iRng1 ?_
  | with_reducible refine w_iRng2 ?_
  | with_reducible refine w_iList ?_
  | with_reducible refine w_iTup ?_
  | with_reducible refine w_for ?_
  | with_reducible refine w_chain ?_
  | with_reducible refine w_sl ?_
  | with_reducible refine w_part ?_
  | with_reducible refine w_nopart ?_
  | with_reducible refine w_exint ?_
  | with_reducible refine w_dput ?_
  | with_reducible refine w_gSub ?_
  | with_reducible refine w_tFld ?_
  | with_reducible refine w_tMeth ?_
  | with_reducible refine w_sFld ?_
  | with_reducible refine w_dget2 ?_
  | with_reducible refine w_dget ?_
  | with_reducible refine w_bm ?_
  | with_reducible refine w_isiII ?_
  | with_reducible refine w_isiIB ?_
  | with_reducible refine w_isiBB ?_
  | with_reducible refine w_max ?_
  | ((with_reducible refine w_eq ?we ?_); (case we => rfl))
  | ((with_reducible refine w_ne ?we ?_); (case we => rfl)))
local macro_rules | `(tactic| walk_at "w1") => `(tactic| first | walk_at "e1" | with_reducible refine w_seq ?_)
local macro_rules | `(tactic| walk_at "e") => `(tactic| repeat walk_at "e1")
local macro_rules | `(tactic| walk_at "w") => `(tactic| repeat walk_at "w1")

theorem ok_number_of (T : Txt K mg a) : FnOk P w K mg base (L2.CX P w) 1 a.f_number_of a.d_number_of ["word"] (sp_number_of a) := by
  refine T.F_number_of.okX sc_number_of (fun vs H Q E h => ?_) (fun cdv A outer s H vs Q E hr h => ?_)
  · obtain ⟨w, rfl, _⟩ := h; rfl
  · obtain ⟨w, rfl, hl, q1, q2⟩ := h
    refine ⟨_, (pss_cons (ps_if (PW.pt (pw_or (pt_cmpR op_lt (pe_callB call_len_str rfl T.n_len (by decide +kernel) (pa_cons (pv 0) pa_nil)) pe_int (nomark _)) (pw_or (pt_cmpR op_gt (pe_callB call_len_str rfl T.n_len (by decide +kernel) (pa_cons (pv 0) pa_nil)) (pe_glob (v := .int 60) rfl T.g_MOST_FIGURES.choose_spec ⟨_, rfl⟩) (nomark _)) (pw_or1 (PW.pt (pw_and (pt_cmpR op_eq (pe_ix (r := rIxS) ix_str (pv 0) pe_int (fun _ _ => rfl)) pe_str (nomark _)) (pw_and1 (pt_cmpR op_gt (pe_callB call_len_str rfl T.n_len (by decide +kernel) (pa_cons (pv 0) pa_nil)) pe_int (nomark _))))))))) (pss_one (ps_raise rfl (takes_of rfl rfl rfl rfl) (pmk_own PySem.F.excBase_ValueError T.x_BadNote T.g_BadNote T.k_BadNote (raises_own T.b_BadNote T.t_BadNote) rfl))) pss_nil)
  (pss_cons (ps_for (passes_of rfl) rfl (pi_str (pv 0)) (pg_name (i := 1) sc_number_of.nd rfl (by first | exact Or.inl rfl | exact Or.inr rfl))
  (pss_one (ps_if (pt_cmpR op_notIn_sign (pv 1) (pe_glob (v := .str "0123456789") rfl T.g_FIGURES.choose_spec ⟨_, rfl⟩) rfl) (pss_one (ps_raise rfl (takes_of rfl rfl rfl rfl) (pmk_own PySem.F.excBase_ValueError T.x_BadNote T.g_BadNote T.k_BadNote (raises_own T.b_BadNote T.t_BadNote) rfl))) pss_nil)))
  (pss_one (ps_ret (pe_callTy call_int_str rfl T.n_int (by decide +kernel) (pa_cons (pv 0) pa_nil)))))), ?_⟩
    have ln : (S w).length ≤ sizeLine := by rw [S_len]; exact sz_small hl
    walk_at "w"
    refine ⟨_, rfl, ln, ?_⟩
    rw [S_len]
    walk_at "w"
    by_cases h1 : (w.length : Int) < 1
    · refine iteD h1 ?_
      refine iteT ?_
      refine q2 ?_
      unfold okW
      rw [decide_eq_false (show ¬ 1 ≤ w.length by omega)]
      simp
    refine iteDn h1 ?_
    walk_at "w"
    refine ⟨_, rfl, ln, ?_⟩
    rw [S_len]
    walk_at "w"
    by_cases h2 : (60 : Int) < w.length
    · refine iteD h2 ?_
      refine iteT ?_
      refine q2 ?_
      unfold okW
      rw [decide_eq_false (show ¬ w.length ≤ 60 by omega)]
      simp
    refine iteDn h2 ?_
    walk_at "w"
    obtain ⟨c, r, rfl⟩ : ∃ c r, w = c :: r := by
      cases w with
      | nil => exact absurd (by show (0 : Int) < 1; decide) h1
      | cons c r => exact ⟨c, r, rfl⟩
    refine ⟨_, _, c, rfl, rfl, ln, atI_nat (j := 0) rfl, ?_⟩
    rw [zero_S]
    walk_at "w"
    have body : ((c :: r).head? = some 48 → ¬ 1 < (c :: r).length) → ∀ (σ : L2.St) (u1 : Option V), σ = [some (.str (S (c :: r))), u1] → (tSeq (tFor (iStr (tVar 0)) (gName 1) (tIfS (tTest (tOp (fun x y H Q => ∃ (c : Nat) (z : Str), x = .str ⟨#[c]⟩ ∧ y = .str z ∧ Q (.bl (!decide (c ∈ z.cps.toList))) H) (tVar 1) (tC (.str "0123456789")))) (fun _ _ H => E (.ref a.C_BadNote) none H) tNext))
        (tRet (tCB (fun xs H Q => ∃ a n, xs = [.str a] ∧ PySem.intText? a = some n ∧ a.length ≤ 640 ∧ Q (.int n) H) (tCons (tVar 0) tNil)))) { nx := fun _ H' => Q .non H', rt := Q } σ H := fun hz σ u1 es => by
      subst es
      walk_at "w"
      refine w_iStr ?_
      walk_at "w"
      refine ⟨_, rfl, ?_⟩
      refine for_it (walk_str (z := S (c :: r))) (fun i σ H' => (∃ u1, σ = [some (.str (S (c :: r))), u1]) ∧ H' = H ∧ ((c :: r).take i).all dig = true) ⟨⟨_, rfl⟩, rfl, rfl⟩ (fun _ _ _ _ _ => trivial) ?_ ?_
      · rintro i _ σ H1 _ hi ⟨⟨u1, rfl⟩, rfl, hd⟩ ⟨rfl, d, hd1, rfl⟩
        have hd1 := its_S hd1
        walk_at "w"
        refine ⟨d, _, rfl, rfl, ?_⟩
        rw [figs_S]
        walk_at "w"
        by_cases hdd : dig d = true
        · refine iteN ?_ ?_
          · rw [S_cps, decide_eq_true ((figs_mem d).mpr hdd)]; rfl
          walk_at "w"
          refine ⟨⟨_, rfl⟩, rfl, ?_⟩
          rw [List.take_succ, hd1, List.all_append, hd]
          show [d].all dig = true
          rw [List.all_cons, hdd]; rfl
        · refine iteY ?_ ?_
          · rw [S_cps, decide_eq_false (fun z => hdd ((figs_mem d).mp z))]; rfl
          refine q2 ?_
          unfold okW
          have : (c :: r).all dig = false := by
            cases z : (c :: r).all dig with
            | false => rfl
            | true => exact absurd (List.all_eq_true.mp z d (List.mem_of_getElem? hd1)) hdd
          rw [this, Bool.and_false]
      · rintro σ H1 ⟨⟨u1, rfl⟩, rfl, hd⟩
        rw [S_size, List.take_length] at hd
        have ok : okW (c :: r) = true := by
          unfold okW
          rw [decide_eq_true (show 1 ≤ (c :: r).length by omega), decide_eq_true (show (c :: r).length ≤ 60 by omega), hd]
          by_cases hh : (c :: r).head? = some 48
          · rw [decide_eq_false (hz hh)]; simp
          · rw [decide_eq_false hh]; simp
        walk_at "w"
        refine ⟨_, _, rfl, val_int ok, by rw [S_len]; omega, ?_⟩
        exact q1 ok
    by_cases h3 : c = 48
    · refine iteD (one_eq.mpr h3) ?_
      walk_at "w"
      refine ⟨_, rfl, ln, ?_⟩
      rw [S_len]
      walk_at "w"
      by_cases h4 : (1 : Int) < (c :: r).length
      · refine iteD h4 ?_
        refine q2 ?_
        unfold okW
        rw [decide_eq_true (show (c :: r).head? = some 48 by rw [h3]; rfl), decide_eq_true (show 1 < (c :: r).length by omega)]
        simp
      · refine iteDn h4 ?_
        walk_at "e"
        exact body (fun _ => by omega) _ _ rfl
    · refine iteDn (fun z => h3 (one_eq.mp z)) ?_
      refine iteF ?_
      walk_at "e"
      exact body (fun z => absurd (Option.some.inj z) h3) _ _ rfl
end
end Sb

namespace Sb
open PySem L2 PyProof.Rows SX
theorem split_blank (l : List Nat) : Txt.split (S l) " " = (wordsL [] l).map S := by
  rw [blank_S', split_S (List.cons_ne_nil _ _) (by decide), spl_words]
theorem words_count (l : List Nat) : (wordsL [] l).length ≤ l.length + 1 := by
  have := words_len l []
  have e : ([] : List Nat).length = 0 := rfl
  omega
theorem words_each {l w : List Nat} (h : w ∈ wordsL [] l) : w.length ≤ l.length + 1 := by
  have := words_len l []
  have e : ([] : List Nat).length = 0 := rfl
  have := mem_len h
  omega
theorem map_strs (ws : List (List Nat)) : (ws.map S).map V.str = ws.map fun w => V.str (S w) := by rw [List.map_map]; rfl
theorem fm_marks (ws : List (List Nat)) : ws.filterMap (fun w => some (PyData.int (valW w))) = (marksI ws).map PyData.int := by
  unfold marksI
  rw [List.filterMap_eq_map', List.map_map]; rfl
theorem w_ixAsc {z : Str} {c : Int} {H : Hp} {Q : VK} (hz : z.length = 94) (ha : z.cps.toList.all (· < 128) = true) (q : ∀ d, d < 128 → Q (.str (S [d])) H) : rIxS (.str z) (.int (c % 94)) H Q := by
  obtain ⟨j, ej, hj⟩ : ∃ j : Nat, c % 94 = j ∧ j < 94 := ⟨(c % 94).toNat, by omega, by omega⟩
  rw [ej]
  have hlt : j < z.cps.toList.length := by rw [Array.length_toList]; show j < z.length; omega
  exact ⟨z, _, _, rfl, rfl, by rw [hz]; exact sz_small (by decide), atI_nat (List.getElem?_eq_getElem hlt), q _ (of_decide_eq_true (List.all_eq_true.mp ha _ (List.getElem_mem hlt)))⟩
section
variable {P : Program} {w : World} {K : Frag} {mg : Str → Option Value} {base : Heap} {a : Ad}
local macro_rules | `(tactic| walk_at "e1") => `(tactic| first
  | ((with_reducible refine' w_var ?wh ?_); (case wh => rfl))
  | with_reducible refine w_c ?_
  | with_reducible refine w_projn ?_
  | with_reducible refine w_projr ?_
  | with_reducible refine w_op ?_
  | with_reducible refine w_cons ?_
  | with_reducible refine w_nil ?_
  | with_reducible refine w_I0 ?_
  | ((with_reducible refine w_I ?wc ?_); (case wc => first | (show (0 : Int) < _; decide) | exact ⟨by decide, by decide⟩ | exact ⟨by decide, by decide, by decide⟩ | exact Or.inr ⟨by decide, by decide⟩ | exact Or.inl ⟨by decide, by decide⟩ | (show (0 : Int) < _; omega) | exact ⟨by omega, by omega⟩))
  | with_reducible refine w_bl ?_
  | with_reducible refine w_test ?_
  | with_reducible refine w_tB ?_
  | with_reducible refine w_set ?_
  | with_reducible refine w_ifS ?_
  | with_reducible refine w_if ?_
  | with_reducible refine w_or ?_
  | with_reducible refine w_and ?_
  | with_reducible refine w_not ?_
  | with_reducible refine w_orV ?_
  | with_reducible refine w_andV ?_
  | with_reducible refine w_notV ?_
  | with_reducible refine w_ret ?_
  | with_reducible refine w_retN ?_
  | with_reducible refine w_drop ?_
  | with_reducible refine w_next ?_
  | with_reducible refine w_un ?_
  | with_reducible refine w_CB ?_
  | with_reducible refine w_call ?_
  | with_reducible refine w_callS ?_
  | with_reducible refine w_gName ?_
  | with_reducible refine w_gCons ?_
  | with_reducible refine w_gNil ?_
  | with_reducible refine w_iEnum ?_
  | with_reducible refine w_tMake ?_
  | with_reducible refine w_asg ?_
  | with_reducible refine w_tTup ?_
  | with_reducible refine w_tLst ?_
  | with_reducible refine w_lc ?_
  | with_reducible refine w_iRng1 ?_
  | with_reducible refine w_iRng2 ?_
  | with_reducible refine w_iList ?_
  | with_reducible refine w_iTup ?_
  | with_reducible refine w_for ?_
  | with_reducible refine w_chain ?_
  | with_reducible refine w_sl ?_
  | with_reducible refine w_part ?_
  | with_reducible refine w_nopart ?_
  | with_reducible refine w_exint ?_
  | with_reducible refine w_dput ?_
  | with_reducible refine w_gSub ?_
  | with_reducible refine w_tFld ?_
  | with_reducible refine w_tMeth ?_
  | with_reducible refine w_sFld ?_
  | with_reducible refine w_dget2 ?_
  | with_reducible refine w_dget ?_
  | with_reducible refine w_bm ?_
  | with_reducible refine w_isiII ?_
  | with_reducible refine w_isiIB ?_
  | with_reducible refine w_isiBB ?_
  | with_reducible refine w_max ?_
  | ((with_reducible refine w_eq ?we ?_); (case we => rfl))
  | ((with_reducible refine w_ne ?we ?_); (case we => rfl)))
local macro_rules | `(tactic| walk_at "w1") => `(tactic| first | walk_at "e1" | with_reducible refine w_seq ?_)
local macro_rules | `(tactic| walk_at "e") => `(tactic| repeat walk_at "e1")
local macro_rules | `(tactic| walk_at "w") => `(tactic| repeat walk_at "w1")

theorem ok_read (T : Txt K mg a) : FnOk P w K mg base (L2.CX P w) 2 a.f_read a.d_read ["line", "many"] (sp_read a) := by
  refine T.F_read.okX sc_read (fun vs H Q E h => ?_) (fun cdv A outer s H vs Q E hr h => ?_)
  · obtain ⟨l, many, rfl, _⟩ := h; rfl
  · obtain ⟨l, many, rfl, hl, q1, q2⟩ := h
    refine ⟨_, (pss_cons (ps_set (i := 2) sc_read.nd rfl (Or.inl rfl) (pe_split (pv 0) pe_str))
  (pss_cons (ps_if (pt_cmpR op_ne (pe_callB (r := rLen K) cl_len rfl T.n_len (by decide +kernel) (pa_cons (pv 2) pa_nil)) (pv 1) (nomark _)) (pss_one (ps_raise rfl (takes_of rfl rfl rfl rfl) (pmk_own PySem.F.excBase_ValueError T.x_BadNote T.g_BadNote T.k_BadNote (raises_own T.b_BadNote T.t_BadNote) rfl))) pss_nil)
  (pss_one (ps_ret (pe_callTy (r := rTup K) cl_tup rfl T.n_tuple (by decide +kernel) (pa_cons (pe_lcE (own := [("word", 3)]) rfl rfl (takes_of rfl rfl rfl rfl) rfl sc_read.nd (pi_list (pv 2)) (blkOk_by (own := [("word", 3)]) (N := N_read) (sc := defScope s_read) (by decide +kernel)) (fun _ _ _ _ _ => (pg_name (i := 3) sc_read.nd rfl (by first | exact Or.inl rfl | exact Or.inr rfl))) (fun _ _ _ _ _ => pts_nil) (fun _ _ _ _ _ => (pe_call (ok_number_of T) (hr.mono (by decide)) rfl T.g_number_of T.k_number_of T.b_number_of .nil passB (pa_cons (pv 3) pa_nil)))) pa_nil)))))), ?_⟩
    have wc := words_count l
    walk_at "w"
    refine w_m1 ?_
    walk_at "w"
    refine ⟨⟨_, rfl⟩, _, _, rfl, rfl, by decide +kernel, by rw [S_len]; exact sz_small (by omega), fun p hp => ?_⟩
    rw [split_blank, map_strs]
    have s1 : Same H (upd H p (.lst ((wordsL [] l).map fun w => V.str (S w)))) := Same.new hp
    have h1 : upd H p (.lst ((wordsL [] l).map fun w => V.str (S w))) p = some (.lst ((wordsL [] l).map fun w => V.str (S w))) := upd_same
    generalize upd H p (.lst ((wordsL [] l).map fun w => V.str (S w))) = H1 at s1 h1
    walk_at "w"
    refine w_lenS (SqL.of h1) ?_
    rw [List.length_map]
    walk_at "w"
    by_cases hm : ((wordsL [] l).length : Int) = many
    · refine iteN ?_ ?_
      · rw [decide_eq_true (by rw [hm])]; rfl
      walk_at "w"
      refine ⟨p, rfl, ⟨_, SqL.of h1⟩, ?_⟩
      by_cases ok : ∀ w ∈ wordsL [] l, okW w = true
      · refine lcL (wordsL [] l) (fun w => some (PyData.int (valW w))) (fun _ => False) (fun _ _ z => z) (SqL.of h1) (by rw [List.length_map]) (sz_small (by omega)) (fun i x d H2 M' Yes No hx hd s ex fr yes no => ?_) (fun D H2 hD s2 r2 => ?_)
        · obtain rfl : x = .str (S d) := by
            rw [List.getElem?_map, hd] at hx
            exact (Option.some.inj hx).symm
          have hmem := List.mem_of_getElem? hd
          refine w_it0 rfl ?_
          walk_at "w"
          refine ⟨d, rfl, by have := words_each hmem; omega, fun _ => ?_, fun z => by rw [ok d hmem] at z; cases z⟩
          exact yes _ _ _ rfl (Same.refl _) (.int _)
        rw [fm_marks] at r2
        walk_at "w"
        refine w_tupleL r2 fun v3 H3 s3 r3 => ?_
        exact q1 ⟨hm, ok⟩ v3 H3 (Same.trans s1 (Same.trans s2 s3)) fun M => Rp.mark r3
      · intro D hD
        refine lc_list (K := K) (a := p) (xs := (wordsL [] l).map fun w => V.str (S w)) (fun i H' => Same H1 H' ∧ (∃ ys, H' D = some (.lst ys) ∧ ys.length = i) ∧ ∀ w ∈ (wordsL [] l).take i, okW w = true) ⟨Same.new hD, ⟨[], upd_same, rfl⟩, fun _ z => nomatch z⟩ (fun i H' _ h => SqL.of (h.1 _ _ h1)) ?_ ?_
        · rintro i x H2 hx ⟨s2, ⟨ys, hD2, yl⟩, hok⟩
          obtain ⟨d, hd⟩ : ∃ d, (wordsL [] l)[i]? = some d := by
            have := (List.getElem?_eq_some_iff.mp hx).1
            rw [List.length_map] at this
            exact ⟨_, List.getElem?_eq_getElem this⟩
          obtain rfl : x = .str (S d) := by
            rw [List.getElem?_map, hd] at hx
            exact (Option.some.inj hx).symm
          have hmem := List.mem_of_getElem? hd
          have hi := (List.getElem?_eq_some_iff.mp hd).1
          refine w_it0 rfl ?_
          walk_at "w"
          refine ⟨d, rfl, by have := words_each hmem; omega, fun hd1 => ?_, fun _ => ?_⟩
          · refine ⟨ys, hD2, by rw [yl]; exact sz_smallL (by omega), fun b o e => ?_, ⟨_, upd_same, by rw [List.length_append, yl]; rfl⟩, fun w hw => ?_⟩
            · rw [upd_ne (ne_of_none e hD)]
              exact s2 b o e
            · rw [List.take_succ, hd] at hw
              rcases List.mem_append.mp hw with hw | hw
              · exact hok w hw
              · rw [show w = d from List.mem_singleton.mp hw]; exact hd1
          · exact q2 (fun z => ok z.2) _ (Same.trans s1 s2)
        · rintro H2 ⟨_, _, hok⟩
          rw [List.length_map, List.take_length] at hok
          exact absurd hok ok
    · refine iteY ?_ ?_
      · rw [decide_eq_false fun z => hm (V.int.inj z)]; rfl
      exact q2 (fun z => hm z.1) _ s1
theorem ok_written (T : Txt K mg a) : FnOk P w K mg base (L2.CX P w) 1 a.f_written a.d_written ["mark"] sp_written := by
  refine T.F_written.okX sc_written (fun vs H Q E h => ?_) (fun cdv A outer s H vs Q E hr h => ?_)
  · obtain ⟨M, x, m, rfl, _⟩ := h; rfl
  · obtain ⟨M, x, m, rfl, rx, mp, ml, q⟩ := h
    refine ⟨_, (pss_one (ps_ret (pe_join pe_str (pe_lc (own := [("number", 1)]) rfl sc_written.nd (pi_tup (pv 0)) (blkOk_by (own := [("number", 1)]) (N := N_written) (sc := defScope s_written) (by decide +kernel)) (fun _ _ _ _ _ => (pg_name (i := 1) sc_written.nd rfl (by first | exact Or.inl rfl | exact Or.inr rfl))) (fun _ _ _ _ _ => pts_nil) (fun _ _ _ _ _ => (pe_callTy call_str_int rfl T.n_str (by decide +kernel) (pa_cons (pv 1) pa_nil))))))), ?_⟩
    obtain ⟨t, xs, rfl, ht, r⟩ := Rp.tup_inv (ds := m.map PyData.int) rx
    rw [r.ints_inv] at ht
    walk_at "w"
    refine w_m1 ?_
    walk_at "w"
    refine ⟨⟨_, rfl⟩, ?_⟩
    walk_at "w"
    refine ⟨t, rfl, ⟨_, SqT.of ht⟩, ?_⟩
    refine lcT m (fun i => some (PyData.str (S (TL.numL i.toNat)))) (fun _ => False) (fun _ _ z => z) ht (by rw [List.length_map]) (sz_small (by omega)) (fun i x d H2 M' Yes No hx hd s ex fr yes no => ?_) (fun D H2 hD s2 r2 => ?_)
    · obtain rfl : x = .int d := by
        rw [List.getElem?_map, hd] at hx
        exact (Option.some.inj hx).symm
      obtain ⟨d0, d1⟩ := mp d (List.mem_of_getElem? hd)
      obtain ⟨n, rfl⟩ : ∃ n : Nat, d = n := ⟨d.toNat, by omega⟩
      refine w_it0 rfl ?_
      walk_at "w"
      refine ⟨_, rfl, ?_, ?_⟩
      · rw [Int.natAbs_natCast]
        by_cases z : n = 0
        · subst z; decide
        · refine (Nat.log2_lt z).mpr (Nat.lt_of_lt_of_le (show n < 10 ^ 60 by omega) ?_)
          exact Nat.le_trans (show (10 : Nat) ^ 60 ≤ 2 ^ 200 by decide) (Nat.pow_le_pow_right (by decide) (by decide))
      have e : Str.ofString (toString (n : Int)) = S (TL.numL n) := num_S n
      refine yes _ _ _ rfl (Same.refl _) ?_
      show Rp M' H2 (.str (Str.ofString (toString (n : Int)))) (.str (S (TL.numL (n : Int).toNat)))
      rw [e, Int.toNat_natCast]
      exact .str _
    have ef : m.filterMap (fun i => some (PyData.str (S (TL.numL i.toNat)))) = (((m.map fun i => TL.numL i.toNat).map S)).map PyData.str := by
      rw [List.filterMap_eq_map', List.map_map, List.map_map]; rfl
    rw [ef] at r2
    obtain ⟨p, ep, _, hp⟩ := r2.strl_inv
    cases ep
    refine ⟨_, D, (m.map fun i => TL.numL i.toNat).map S, rfl, rfl, .inl (SqL.of hp), ?_, ?_⟩
    · rw [lens, List.length_map, List.length_map]
      have b1 : ∀ l : List Int, (∀ i ∈ l, 0 ≤ i ∧ i < 10 ^ 60) → ((l.map fun i => TL.numL i.toNat).map fun x => x.length).sum ≤ 60 * l.length := fun l => by
        induction l with
        | nil => exact fun _ => Nat.le_refl _
        | cons i l ih =>
          intro hl
          have h1 := hl i List.mem_cons_self
          have h2 := numL_few (show i.toNat < 10 ^ 60 by omega)
          have h3 := ih fun j hj => hl j (List.mem_cons_of_mem _ hj)
          simp only [List.map_cons, List.sum_cons, List.length_cons] at h3 ⊢
          omega
      have b2 := b1 m mp
      have b3 : (" " : Str).length = 1 := by decide +kernel
      rw [b3]
      omega
    · rw [blank_S', join_S]
      exact q _ s2
theorem ok_l_figures (T : Txt K mg a) : FnOk P w K mg base (L2.CX P w) 1 a.f_l_figures a.d_l_figures ["_law_number_here"] sp_l_figures := by
  refine T.F_l_figures.okX sc_l_figures (fun vs H Q E h => ?_) (fun cdv A outer s H vs Q E hr h => ?_)
  · obtain ⟨n, rfl, _⟩ := h; rfl
  · obtain ⟨n, rfl, hn, q⟩ := h
    refine ⟨_, (pss_cons (ps_set (i := 1) sc_l_figures.nd rfl (Or.inl rfl) (pe_ix (r := rIxS) ix_str pe_str (pe_op op_mod (pv 0) pe_int) (fun _ _ => rfl)))
  (pss_cons (ps_while (passes_of rfl) (pt_cmpR op_gt (pv 0) pe_int (nomark _)) (pss_cons (ps_set (i := 0) sc_l_figures.nd rfl (Or.inl rfl) (pe_op op_fdiv (pv 0) pe_int))
  (pss_one (ps_set (i := 1) sc_l_figures.nd rfl (Or.inl rfl) (pe_op (r := rAddS) op_add_str (pe_ix (r := rIxS) ix_str pe_str (pe_op op_mod (pv 0) pe_int) (fun _ _ => rfl)) (pv 1))))))
  (pss_one (ps_ret (pv 1))))), ?_⟩
    have lf : (S figs).length ≤ sizeLine := by rw [S_len]; exact sz_small (by decide)
    have at_ : ∀ k : Nat, atI (S figs).cps.toList ((k : Int) % 10) = some (48 + k % 10) := fun k => by
      have e : (k : Int) % 10 = ((k % 10 : Nat) : Int) := by omega
      rw [e, S_cps]
      exact atI_nat (figs_at (k % 10) (Nat.mod_lt _ (by decide)))
    walk_at "w"
    rw [figs_S]
    refine ⟨_, _, _, rfl, rfl, lf, at_ n, ?_⟩
    walk_at "w"
    refine ⟨fun k σ H' => ∃ fd : List Nat, σ = [some (.int k), some (.str (S fd))] ∧ H' = H ∧ TL.numL n = (if k < 10 then [] else TL.numL (k / 10)) ++ fd ∧ k ≤ n, ⟨n, [48 + n % 10], rfl, rfl, ?_, Nat.le_refl _⟩, ?_⟩
    · by_cases h : n < 10
      · rw [if_pos h, TL.numL_lt h, Nat.mod_eq_of_lt h]; rfl
      · rw [if_neg h, TL.numL_step (by omega)]
    · rintro k σ H1 ⟨fd, rfl, rfl, e, hk⟩
      have few := numL_few hn
      have lfd : fd.length ≤ 60 := by
        rw [e, List.length_append] at few
        omega
      walk_at "w"
      by_cases h9 : (9 : Int) < k
      · refine iteD h9 ?_
        refine ⟨_, fun σ' H' h => h, ?_⟩
        walk_at "w"
        have e10 : (k : Int) / 10 = ((k / 10 : Nat) : Int) := by omega
        rw [e10]
        refine ⟨_, _, _, rfl, rfl, lf, at_ (k / 10), ?_⟩
        walk_at "w"
        refine ⟨_, _, rfl, rfl, sz_small (by show 1 + (S fd).length ≤ _; rw [S_len]; omega), ?_⟩
        walk_at "w"
        refine ⟨k / 10, by omega, (48 + k / 10 % 10) :: fd, ?_, rfl, ?_, by omega⟩
        · have : (⟨#[48 + k / 10 % 10]⟩ : Str) ++ S fd = S ((48 + k / 10 % 10) :: fd) := S_cat [48 + k / 10 % 10] fd
          rw [← this]; rfl
        · rw [if_neg (by omega)] at e
          rw [e]
          by_cases h : k / 10 < 10
          · rw [if_pos h, TL.numL_lt h, Nat.mod_eq_of_lt h]; rfl
          · rw [if_neg h, TL.numL_step (show 10 ≤ k / 10 by omega), List.append_assoc]; rfl
      · refine iteDn h9 ?_
        rw [if_pos (by omega)] at e
        have e : TL.numL n = fd := e
        walk_at "w"
        rw [← e]
        exact q
theorem ok_l_sign_by (T : Txt K mg a) : FnOk P w K mg base (L2.CX P w) 1 a.f_l_sign_by a.d_l_sign_by ["_law_cell"] sp_l_sign_by := by
  refine T.F_l_sign_by.okX sc_l_sign_by (fun vs H Q E h => ?_) (fun cdv A outer s H vs Q E hr h => ?_)
  · obtain ⟨c, rfl, _⟩ := h; rfl
  · obtain ⟨c, rfl, q⟩ := h
    refine ⟨_, (pss_cons (ps_set (i := 1) sc_l_sign_by.nd rfl (Or.inl rfl) pe_str)
  (pss_cons (ps_set (i := 1) sc_l_sign_by.nd rfl (Or.inl rfl) (pe_op (r := rAddS) op_add_str (pv 1) pe_str))
  (pss_one (ps_ret (pe_ix (r := rIxS) ix_str (pv 1) (pe_op op_mod (pv 0) pe_int) (fun _ _ => rfl)))))), ?_⟩
    walk_at "w"
    refine ⟨_, _, rfl, rfl, by decide +kernel, ?_⟩
    walk_at "w"
    refine w_ixAsc ?_ ?_ q
    · decide +kernel
    · decide +kernel
end
end Sb

namespace Sb
open PySem L2 PyProof.Rows SX
abbrev AscL (l : List Nat) : Prop := ∀ c ∈ l, c < 128
def sp_l_odd : Sp := fun vs H Q _ => ∃ c : Int, vs = [.int c] ∧ ∀ (l : List Nat) (H' : Hp), Same H H' → AscL l → l.length ≤ 61 → Q (.str (S l)) H'
def sp_l_changed : Sp := fun vs H Q _ => ∃ (t : List Nat) (way c : Int) (d : Nat), vs = [.str (S t), .int way, .int c, .str (S [d])] ∧ AscL t ∧ t.length ≤ 1000 ∧ d < 128 ∧ ∀ (l : List Nat) (H' : Hp), Same H H' → AscL l → l.length ≤ 5000 → Q (.str (S l)) H'
def numV (w : List Nat) : V := if okW w = true then .int (valW w) else .non
def numD (w : List Nat) : PyData := if okW w = true then .int (valW w) else .none
def sp_l_number : Sp := fun vs H Q _ => ∃ w : List Nat, vs = [.str (S w)] ∧ AscL w ∧ w.length ≤ 100000 ∧ Q (numV w) H
def sp_l_due : Sp := fun vs H Q _ => ∃ (l : List Nat) (many : Int), vs = [.str (S l), .int many] ∧ AscL l ∧ l.length ≤ 50000 ∧
  (((wordsL [] l).length = many ∧ ∀ w ∈ wordsL [] l, okW w = true) → ∀ v' H', Same H H' → (∀ M, Rp M H' v' (markD (marksI (wordsL [] l)))) → Q v' H') ∧
  (¬ ((wordsL [] l).length = many ∧ ∀ w ∈ wordsL [] l, okW w = true) → ∀ H', Same H H' → Q .non H')
def sev (k : Nat) : List Nat := List.replicate k 55
theorem sev_at {k : Nat} (h : 59 ≤ k ∧ k ≤ 62) : Txt.mul "7" (k : Int) = S (sev k) := by
  rcases (show k = 59 ∨ k = 60 ∨ k = 61 ∨ k = 62 by omega) with rfl | rfl | rfl | rfl <;> decide +kernel
theorem sev_mul {k : Nat} (h : 59 ≤ k ∧ k ≤ 62) : MulOk "7" (k : Int) := by
  rcases (show k = 59 ∨ k = 60 ∨ k = 61 ∨ k = 62 by omega) with rfl | rfl | rfl | rfl <;> exact ⟨by decide +kernel, fun _ _ => by decide +kernel, fun _ _ => by decide +kernel⟩
theorem sev_asc (k : Nat) : AscL (sev k) := fun c hc => by
  rw [List.eq_of_mem_replicate hc]; decide
def odd1 : List Str := ["", " ", "0 ", " 0", "0  0", "00", "01", "-1", "+1", "1.0", "1_0", "0,0", "x", "1e3"]
def odd2 : List Str := [S (sev 60), S (sev 61)]
theorem odd_ok : ∀ s ∈ odd1 ++ odd2, (s.cps.toList.all (· < 128) && decide (s.length ≤ 61)) = true := by decide +kernel
theorem mod_nat {m : Nat} (c : Int) (h : 1 ≤ m) : ∃ j : Nat, c % (m : Int) = j ∧ j < m := by
  have h0 := Int.emod_nonneg c (show (m : Int) ≠ 0 by omega)
  have h1 := Int.emod_lt_of_pos c (show (0 : Int) < m by omega)
  exact ⟨(c % (m : Int)).toNat, by omega, by omega⟩
theorem S_nil : ("" : Str) = S [] := by decide +kernel
theorem mul_c (k : Nat) (h : 59 ≤ k ∧ k ≤ 62) {Q : VK} {H : Hp} (q : Q (.str (S (sev k))) H) : rMulS (.str "7") (.int (k : Int)) H Q := ⟨_, _, rfl, rfl, sev_mul h, by rw [sev_at h]; exact q⟩
def cutL (t : List Nat) (lo hi : Option Int) : List Nat := (t.drop (HT.sIx t.length 0 lo)).take (HT.sIx t.length t.length hi - HT.sIx t.length 0 lo)
theorem cut_S (t : List Nat) (lo hi : Option Int) : cutS (S t) lo hi = S (cutL t lo hi) := by
  unfold cutS cutL
  rw [S_len]
theorem cutL_asc {t : List Nat} {lo hi : Option Int} (h : AscL t) : AscL (cutL t lo hi) := fun c hc => h c (List.mem_of_mem_drop (List.mem_of_mem_take hc))
theorem cutL_len {t : List Nat} {lo hi : Option Int} : (cutL t lo hi).length ≤ t.length := by
  unfold cutL
  rw [List.length_take, List.length_drop]
  omega
theorem w_slX {t : List Nat} {lo hi : Option Int} {H : Hp} {Q : VK} (h : t.length ≤ 10000) (q : Q (.str (S (cutL t lo hi))) H) : rSlS (.str (S t)) lo hi H Q := ⟨S t, rfl, by rw [S_len]; exact sz_small (by omega), by rw [cut_S]; exact q⟩
theorem w_addX {t u : List Nat} {H : Hp} {Q : VK} (h : t.length + u.length ≤ 20000) (q : Q (.str (S (t ++ u))) H) : rAddS (.str (S t)) (.str (S u)) H Q := ⟨S t, S u, rfl, rfl, by rw [S_len, S_len]; exact sz_small (by omega), by rw [S_cat]; exact q⟩
theorem set_sum : ∀ (ws : List (List Nat)) (j : Nat) (v : List Nat), ((ws.set j v).map List.length).sum ≤ (ws.map List.length).sum + v.length
  | [], _, _ => Nat.zero_le _
  | w :: ws, 0, v => by
    show ((v :: ws).map List.length).sum ≤ _
    simp only [List.map_cons, List.sum_cons]
    omega
  | w :: ws, j + 1, v => by
    show ((w :: ws.set j v).map List.length).sum ≤ _
    have := set_sum ws j v
    simp only [List.map_cons, List.sum_cons]
    omega
theorem numV_cases (w : List Nat) : (okW w = true ∧ numV w = .int (valW w) ∧ numD w = .int (valW w)) ∨ (okW w = false ∧ numV w = .non ∧ numD w = .none) := by
  unfold numV numD
  cases h : okW w with
  | true => exact .inl ⟨rfl, rfl, rfl⟩
  | false => exact .inr ⟨rfl, rfl, rfl⟩
theorem num_rp {M : Addr → Prop} {H : Hp} (w : List Nat) : Rp M H (numV w) (numD w) := by
  rcases numV_cases w with ⟨_, e1, e2⟩ | ⟨_, e1, e2⟩
  · rw [e1, e2]; exact .int _
  · rw [e1, e2]; exact .non
theorem nums_inv {M : Addr → Prop} {H : Hp} : ∀ {ws : List (List Nat)} {xs : List V}, RpA M H xs (ws.map numD) → xs = ws.map numV
  | [], [], _ => rfl
  | [], x :: xs, h => by have := h.1; simp at this
  | w :: ws, [], h => by have := h.1; simp at this
  | w :: ws, x :: xs, h => by
    have h2 := nums_inv h.tail
    have h1 : Rp M H x (numD w) := h.head
    have : x = numV w := by
      rcases numV_cases w with ⟨_, e1, e2⟩ | ⟨_, e1, e2⟩
      · rw [e2] at h1; rw [e1]; exact h1.int_inv
      · rw [e2] at h1; rw [e1]; exact h1.none_inv
    rw [this, h2, List.map_cons]
theorem nums_flat (ws : List (List Nat)) : (ws.map numV).all flatV = true := List.all_eq_true.mpr fun v hv => by
  obtain ⟨w, _, rfl⟩ := List.mem_map.mp hv
  rcases numV_cases w with ⟨_, e1, _⟩ | ⟨_, e1, _⟩ <;> rw [e1] <;> rfl
theorem nums_none : ∀ ws : List (List Nat), inV .non (ws.map numV) = !ws.all okW
  | [] => rfl
  | w :: ws => by
    have h := nums_none ws
    unfold inV at h ⊢
    rw [List.map_cons, List.any_cons, h, List.all_cons]
    rcases numV_cases w with ⟨e0, e1, _⟩ | ⟨e0, e1, _⟩
    · rw [e0, e1]; rfl
    · rw [e0, e1]; rfl
theorem at_lastX {α : Type} {xs : List α} {x : α} : atI (xs ++ [x]) (-1) = some x := by
  unfold atI ixN
  rw [if_neg (by decide), if_pos (by rw [List.length_append, List.length_singleton]; omega)]
  have e : (((xs ++ [x]).length : Int) + -1).toNat = xs.length := by rw [List.length_append, List.length_singleton]; omega
  show (xs ++ [x])[(((xs ++ [x]).length : Int) + -1).toNat]? = some x
  rw [e, List.getElem?_append_right (Nat.le_refl _), Nat.sub_self]; rfl
theorem ixN_last {n : Nat} : ixN (n + 1) (-1) = some n := by
  unfold ixN
  rw [if_neg (by decide), if_pos (by omega)]
  congr 1
  omega
theorem app_set {α : Type} : ∀ (xs : List α) (x y : α), (xs ++ [x]).set xs.length y = xs ++ [y]
  | [], _, _ => rfl
  | z :: xs, x, y => congrArg (z :: ·) (app_set xs x y)
theorem w_newLx {xs ys : List V} {H : Hp} {Q : VK} (e : xs = ys) (hl : xs.length ≤ sizeLine) (q : ∀ p H1, H p = none → Same H H1 → H1 p = some (.lst ys) → Q (.ref p) H1) : rNewL xs H Q := ⟨hl, fun p hp => q p _ hp (Same.new hp) (by rw [← e]; exact upd_same)⟩
section
variable {P : Program} {w : World} {K : Frag} {mg : Str → Option Value} {base : Heap} {a : Ad}
local macro_rules | `(tactic| walk_at "e1") => `(tactic| first
  | ((with_reducible refine' w_var ?wh ?_); (case wh => rfl))
  | with_reducible refine w_c ?_
  | with_reducible refine w_projn ?_
  | with_reducible refine w_projr ?_
  | with_reducible refine w_op ?_
  | with_reducible refine w_cons ?_
  | with_reducible refine w_nil ?_
  | with_reducible refine w_I0 ?_
  | ((with_reducible refine w_I ?wc ?_); (case wc => first | (show (0 : Int) < _; decide) | exact ⟨by decide, by decide⟩ | exact ⟨by decide, by decide, by decide⟩ | exact Or.inr ⟨by decide, by decide⟩ | exact Or.inl ⟨by decide, by decide⟩ | (show (0 : Int) < _; omega) | exact ⟨by omega, by omega⟩))
  | with_reducible refine w_bl ?_
  | with_reducible refine w_test ?_
  | with_reducible refine w_tB ?_
  | with_reducible refine w_set ?_
  | with_reducible refine w_ifS ?_
  | with_reducible refine w_if ?_
  | with_reducible refine w_or ?_
  | with_reducible refine w_and ?_
  | with_reducible refine w_not ?_
  | with_reducible refine w_orV ?_
  | with_reducible refine w_andV ?_
  | with_reducible refine w_notV ?_
  | with_reducible refine w_ret ?_
  | with_reducible refine w_retN ?_
  | with_reducible refine w_drop ?_
  | with_reducible refine w_next ?_
  | with_reducible refine w_un ?_
  | with_reducible refine w_CB ?_
  | with_reducible refine w_call ?_
  | with_reducible refine w_callS ?_
  | with_reducible refine w_gName ?_
  | with_reducible refine w_gCons ?_
  | with_reducible refine w_gNil ?_
  | with_reducible refine w_iEnum ?_
  | with_reducible refine w_tMake ?_
  | with_reducible refine w_asg ?_
  | with_reducible refine w_tTup ?_
  | with_reducible refine w_tLst ?_
  | with_reducible refine w_lc ?_
  | with_reducible refine w_iRng1 ?_
  | with_reducible refine w_iRng2 ?_
  | with_reducible refine w_iList ?_
  | with_reducible refine w_iTup ?_
  | with_reducible refine w_for ?_
  | with_reducible refine w_chain ?_
  | with_reducible refine w_sl ?_
  | with_reducible refine w_part ?_
  | with_reducible refine w_nopart ?_
  | with_reducible refine w_exint ?_
  | with_reducible refine w_dput ?_
  | with_reducible refine w_gSub ?_
  | with_reducible refine w_tFld ?_
  | with_reducible refine w_tMeth ?_
  | with_reducible refine w_sFld ?_
  | with_reducible refine w_dget2 ?_
  | with_reducible refine w_dget ?_
  | with_reducible refine w_bm ?_
  | with_reducible refine w_isiII ?_
  | with_reducible refine w_isiIB ?_
  | with_reducible refine w_isiBB ?_
  | with_reducible refine w_max ?_
  | ((with_reducible refine w_eq ?we ?_); (case we => rfl))
  | ((with_reducible refine w_ne ?we ?_); (case we => rfl)))
local macro_rules | `(tactic| walk_at "w1") => `(tactic| first | walk_at "e1" | with_reducible refine w_seq ?_)
local macro_rules | `(tactic| walk_at "e") => `(tactic| repeat walk_at "e1")
local macro_rules | `(tactic| walk_at "w") => `(tactic| repeat walk_at "w1")

theorem ok_l_odd (T : Txt K mg a) : FnOk P w K mg base (L2.CX P w) 1 a.f_l_odd a.d_l_odd ["_law_cell"] sp_l_odd := by
  refine T.F_l_odd.okX sc_l_odd (fun vs H Q E h => ?_) (fun cdv A outer s H vs Q E hr h => ?_)
  · obtain ⟨c, rfl, _⟩ := h; rfl
  · obtain ⟨c, rfl, q⟩ := h
    refine ⟨_, (pss_cons (ps_set (i := 1) sc_l_odd.nd rfl (Or.inl rfl) (pe_lst (pa_cons pe_str (pa_cons pe_str (pa_cons pe_str (pa_cons pe_str (pa_cons pe_str (pa_cons pe_str (pa_cons pe_str (pa_cons pe_str (pa_cons pe_str (pa_cons pe_str (pa_cons pe_str (pa_cons pe_str (pa_cons pe_str (pa_cons pe_str pa_nil))))))))))))))))
  (pss_cons (ps_set (i := 1) sc_l_odd.nd rfl (Or.inl rfl) (pe_op op_cat (pv 1) (pe_lst (pa_cons (pe_op op_mulS pe_str pe_int) (pa_cons (pe_op op_mulS pe_str pe_int) pa_nil)))))
  (pss_one (ps_ret (pe_ix (r := rIxL K) ix_list (pv 1) (pe_op op_mod (pv 0) pe_int) (fun _ _ => rfl)))))), ?_⟩
    walk_at "w"
    refine w_newLx (ys := odd1.map V.str) rfl (by show 14 ≤ sizeLine; decide) fun p H1 hp s1 h1 => ?_
    walk_at "w"
    refine mul_c 60 (by decide) ?_
    walk_at "w"
    refine mul_c 61 (by decide) ?_
    walk_at "w"
    refine w_newLx (ys := odd2.map V.str) rfl (by show 2 ≤ sizeLine; decide) fun p2 H2 hp2 s2 h2 => ?_
    refine ⟨p, p2, _, _, rfl, rfl, s2 _ _ h1, h2, by show 14 + 2 ≤ sizeLine; decide, fun p3 hp3 => ?_⟩
    rw [← List.map_append]
    have h3 : upd H2 p3 (.lst ((odd1 ++ odd2).map V.str)) p3 = some (.lst ((odd1 ++ odd2).map V.str)) := upd_same
    have s3 : Same H2 (upd H2 p3 (.lst ((odd1 ++ odd2).map V.str))) := Same.new hp3
    generalize upd H2 p3 (.lst ((odd1 ++ odd2).map V.str)) = H3 at h3 s3
    walk_at "w"
    obtain ⟨j, ej, hj⟩ : ∃ j : Nat, c % 16 = j ∧ j < 16 := ⟨(c % 16).toNat, by omega, by omega⟩
    rw [ej]
    have hj' : j < (odd1 ++ odd2).length := hj
    have ok := odd_ok _ (List.getElem_mem hj')
    rw [Bool.and_eq_true, decide_eq_true_eq] at ok
    refine w_ixS j (SqL.of h3) rfl (by rw [List.getElem?_map, List.getElem?_eq_getElem hj']; rfl) ?_
    have := q (odd1 ++ odd2)[j].cps.toList H3 (Same.trans s1 (Same.trans s2 s3)) (fun c hc => of_decide_eq_true (List.all_eq_true.mp ok.1 c hc)) (by rw [Array.length_toList]; exact ok.2)
    rw [S_tl] at this
    exact this
theorem ok_l_changed (T : Txt K mg a) : FnOk P w K mg base (L2.CX P w) 2 a.f_l_changed a.d_l_changed ["_law_text", "_law_way", "_law_cell", "_law_sign"] sp_l_changed := by
  refine T.F_l_changed.okX sc_l_changed (fun vs H Q E h => ?_) (fun cdv A outer s H vs Q E hr h => ?_)
  · obtain ⟨t, way, c, d, rfl, _⟩ := h; rfl
  · obtain ⟨t, way, c, d, rfl, ta, tl, hd, q⟩ := h
    refine ⟨_, (pss_cons (ps_set (i := 4) sc_l_changed.nd rfl (Or.inl rfl) (pe_op op_mod (pv 2) (pe_op op_add (pe_callB call_len_str rfl T.n_len (by decide +kernel) (pa_cons (pv 0) pa_nil)) pe_int)))
  (pss_cons (ps_if (pt_cmpR op_eq (pv 1) pe_int (nomark _)) (pss_one (ps_ret (pe_op (r := rAddS) op_add_str (pe_op (r := rAddS) op_add_str (pe_slice (r := rSlS) sl_str (pv 0) po_none (po_some (pv 4))) (pv 3)) (pe_slice (r := rSlS) sl_str (pv 0) (po_some (pv 4)) po_none)))) pss_nil)
  (pss_cons (ps_if (pt_cmpR op_eq (pv 1) pe_int (nomark _)) (pss_one (ps_ret (pe_op (r := rAddS) op_add_str (pe_op (r := rAddS) op_add_str (pe_slice (r := rSlS) sl_str (pv 0) po_none (po_some (pv 4))) (pv 3)) (pe_slice (r := rSlS) sl_str (pv 0) (po_some (pe_op op_add (pv 4) pe_int)) po_none)))) pss_nil)
  (pss_cons (ps_if (pt_cmpR op_eq (pv 1) pe_int (nomark _)) (pss_one (ps_ret (pe_op (r := rAddS) op_add_str (pe_slice (r := rSlS) sl_str (pv 0) po_none (po_some (pv 4))) (pe_slice (r := rSlS) sl_str (pv 0) (po_some (pe_op op_add (pv 4) pe_int)) po_none)))) pss_nil)
  (pss_cons (ps_if (pt_cmpR op_eq (pv 1) pe_int (nomark _)) (pss_one (ps_ret (pe_call (ok_l_odd T) (hr.mono (by decide)) rfl T.g_l_odd T.k_l_odd T.b_l_odd .nil passL (pa_cons (pv 2) pa_nil)))) pss_nil)
  (pss_cons (ps_if (pt_cmpR op_eq (pv 1) pe_int (nomark _)) (pss_cons (ps_set (i := 5) sc_l_changed.nd rfl (Or.inl rfl) (pe_split (pv 0) pe_str))
  (pss_cons (ps_asg (pe_op op_mulS pe_str (pe_op op_add pe_int (pe_op op_mod (pe_op op_fdiv (pv 2) pe_int) pe_int))) (pg_sub (pv 5) (pe_op op_mod (pv 2) (pe_callB (r := rLen K) cl_len rfl T.n_len (by decide +kernel) (pa_cons (pv 5) pa_nil))) set_list))
  (pss_one (ps_ret (pe_join pe_str (pv 5)))))) pss_nil)
  (pss_one (ps_ret (pv 0))))))))), ?_⟩
    have one : AscL [d] := fun c hc => by rw [List.mem_singleton.mp hc]; exact hd
    have app : ∀ {l m : List Nat}, AscL l → AscL m → AscL (l ++ m) := fun hl hm c hc => (List.mem_append.mp hc).elim (hl c) (hm c)
    walk_at "w"
    refine ⟨_, rfl, by rw [S_len]; exact sz_small (by omega), ?_⟩
    rw [S_len]
    obtain ⟨j, ej, hj⟩ := mod_nat c (show 1 ≤ t.length + 1 by omega)
    rw [Int.natCast_add] at ej
    walk_at "w"
    rw [show c % ((t.length : Int) + 1) = j from ej]
    walk_at "w"
    refine ite2 (fun _ => ?_) (fun _ => ?_)
    · walk_at "w"
      refine w_slX (by omega) ?_
      have l1 := cutL_len (t := t) (lo := none) (hi := some (j : Int))
      walk_at "w"
      refine w_addX (by rw [List.length_singleton]; omega) ?_
      walk_at "w"
      refine w_slX (by omega) ?_
      have l2 := cutL_len (t := t) (lo := some (j : Int)) (hi := none)
      refine w_addX (by simp only [List.length_append, List.length_singleton]; omega) ?_
      exact q _ _ (Same.refl _) (app (app (cutL_asc ta) one) (cutL_asc ta)) (by simp only [List.length_append, List.length_singleton]; omega)
    walk_at "w"
    refine ite2 (fun _ => ?_) (fun _ => ?_)
    · walk_at "w"
      refine w_slX (by omega) ?_
      have l1 := cutL_len (t := t) (lo := none) (hi := some (j : Int))
      walk_at "w"
      refine w_addX (by rw [List.length_singleton]; omega) ?_
      walk_at "w"
      refine w_slX (by omega) ?_
      have l2 := cutL_len (t := t) (lo := some ((j : Int) + 1)) (hi := none)
      refine w_addX (by simp only [List.length_append, List.length_singleton]; omega) ?_
      exact q _ _ (Same.refl _) (app (app (cutL_asc ta) one) (cutL_asc ta)) (by simp only [List.length_append, List.length_singleton]; omega)
    walk_at "w"
    refine ite2 (fun _ => ?_) (fun _ => ?_)
    · walk_at "w"
      refine w_slX (by omega) ?_
      have l1 := cutL_len (t := t) (lo := none) (hi := some (j : Int))
      walk_at "w"
      refine w_slX (by omega) ?_
      have l2 := cutL_len (t := t) (lo := some ((j : Int) + 1)) (hi := none)
      refine w_addX (by omega) ?_
      exact q _ _ (Same.refl _) (app (cutL_asc ta) (cutL_asc ta)) (by rw [List.length_append]; omega)
    walk_at "w"
    refine ite2 (fun _ => ?_) (fun _ => ?_)
    · walk_at "w"
      refine ⟨c, rfl, fun l H1 s1 la ll => ?_⟩
      exact q l H1 s1 la (by omega)
    walk_at "w"
    refine ite2 (fun _ => ?_) (fun _ => ?_)
    · have wc := words_count t
      have wl := words_len t []
      have e0 : ([] : List Nat).length = 0 := rfl
      walk_at "w"
      refine w_m1 ?_
      walk_at "w"
      refine ⟨⟨_, rfl⟩, _, _, rfl, rfl, by decide +kernel, by rw [S_len]; exact sz_small (by omega), fun p hp => ?_⟩
      rw [split_blank, map_strs]
      have s1 : Same H (upd H p (.lst ((wordsL [] t).map fun w => V.str (S w)))) := Same.new hp
      have h1 : upd H p (.lst ((wordsL [] t).map fun w => V.str (S w))) p = some (.lst ((wordsL [] t).map fun w => V.str (S w))) := upd_same
      generalize upd H p (.lst ((wordsL [] t).map fun w => V.str (S w))) = H1 at s1 h1
      obtain ⟨k, ek, hk⟩ : ∃ k : Nat, 59 + c / 9 % 4 = k ∧ 59 ≤ k ∧ k ≤ 62 := ⟨(59 + c / 9 % 4).toNat, by omega, by omega, by omega⟩
      obtain ⟨i, ei, hi⟩ := mod_nat c (show 1 ≤ (wordsL [] t).length by have := words_ne t []; exact List.length_pos_iff.mpr this)
      walk_at "w"
      rw [ek]
      refine mul_c k hk ?_
      walk_at "w"
      refine w_lenS (SqL.of h1) ?_
      rw [List.length_map]
      walk_at "w"
      rw [ei]
      refine ⟨p, _, _, i, rfl, rfl, h1, ixN_nat rfl (by rw [List.length_map]; exact hi), ?_⟩
      have hset : ((wordsL [] t).map fun w => V.str (S w)).set i (.str (S (sev k))) = ((wordsL [] t).set i (sev k)).map fun w => V.str (S w) := by rw [List.map_set]
      rw [hset]
      have s2 : Same H (upd H1 p (.lst (((wordsL [] t).set i (sev k)).map fun w => V.str (S w)))) := Same.mut s1 hp
      have h2 : upd H1 p (.lst (((wordsL [] t).set i (sev k)).map fun w => V.str (S w))) p = some (.lst (((wordsL [] t).set i (sev k)).map fun w => V.str (S w))) := upd_same
      generalize upd H1 p (.lst (((wordsL [] t).set i (sev k)).map fun w => V.str (S w))) = H2 at s2 h2
      have ss := set_sum (wordsL [] t) i (sev k)
      have sl : (sev k).length = k := List.length_replicate
      have sc : ((wordsL [] t).set i (sev k)).length = (wordsL [] t).length := List.length_set
      have jl := joinL_len ((wordsL [] t).set i (sev k))
      walk_at "w"
      refine w_m1 ?_
      walk_at "w"
      refine ⟨⟨_, rfl⟩, ?_⟩
      walk_at "w"
      refine ⟨_, p, ((wordsL [] t).set i (sev k)).map S, rfl, rfl, .inl (SqL.of (by rw [map_strs]; exact h2)), ?_, ?_⟩
      · rw [lens, List.length_map, show (" " : Str).length = 1 from by decide +kernel]
        have : (((wordsL [] t).set i (sev k)).map fun x => x.length).sum = (((wordsL [] t).set i (sev k)).map List.length).sum := rfl
        omega
      · rw [blank_S', join_S]
        refine q _ _ s2 (fun z hz => ?_) (by omega)
        rcases joinL_mem _ z hz with rfl | ⟨w, hw, hz⟩
        · decide
        · rcases List.mem_or_eq_of_mem_set hw with hw | rfl
          · exact (words_mem t [] w hw z hz).elim (fun h => nomatch h) (ta z)
          · exact sev_asc k z hz
    walk_at "w"
    exact q t _ (Same.refl _) ta (by omega)
end
end Sb

namespace Sb
open PySem L2 PyProof.Rows SX
section
variable {P : Program} {w : World} {K : Frag} {mg : Str → Option Value} {base : Heap} {a : Ad}
local macro_rules | `(tactic| walk_at "e1") => `(tactic| first
  | ((with_reducible refine' w_var ?wh ?_); (case wh => rfl))
  | with_reducible refine w_c ?_
  | with_reducible refine w_projn ?_
  | with_reducible refine w_projr ?_
  | with_reducible refine w_op ?_
  | with_reducible refine w_cons ?_
  | with_reducible refine w_nil ?_
  | with_reducible refine w_I0 ?_
  | ((with_reducible refine w_I ?wc ?_); (case wc => first | (show (0 : Int) < _; decide) | exact ⟨by decide, by decide⟩ | exact ⟨by decide, by decide, by decide⟩ | exact Or.inr ⟨by decide, by decide⟩ | exact Or.inl ⟨by decide, by decide⟩ | (show (0 : Int) < _; omega) | exact ⟨by omega, by omega⟩))
  | with_reducible refine w_bl ?_
  | with_reducible refine w_test ?_
  | with_reducible refine w_tB ?_
  | with_reducible refine w_set ?_
  | with_reducible refine w_ifS ?_
  | with_reducible refine w_if ?_
  | with_reducible refine w_or ?_
  | with_reducible refine w_and ?_
  | with_reducible refine w_not ?_
  | with_reducible refine w_orV ?_
  | with_reducible refine w_andV ?_
  | with_reducible refine w_notV ?_
  | with_reducible refine w_ret ?_
  | with_reducible refine w_retN ?_
  | with_reducible refine w_drop ?_
  | with_reducible refine w_next ?_
  | with_reducible refine w_un ?_
  | with_reducible refine w_CB ?_
  | with_reducible refine w_call ?_
  | with_reducible refine w_callS ?_
  | with_reducible refine w_gName ?_
  | with_reducible refine w_gCons ?_
  | with_reducible refine w_gNil ?_
  | with_reducible refine w_iEnum ?_
  | with_reducible refine w_tMake ?_
  | with_reducible refine w_asg ?_
  | with_reducible refine w_tTup ?_
  | with_reducible refine w_tLst ?_
  | with_reducible refine w_lc ?_
  | with_reducible refine w_iRng1 ?_
  | with_reducible refine w_iRng2 ?_
  | with_reducible refine w_iList ?_
  | with_reducible refine w_iTup ?_
  | with_reducible refine w_for ?_
  | with_reducible refine w_chain ?_
  | with_reducible refine w_sl ?_
  | with_reducible refine w_part ?_
  | with_reducible refine w_nopart ?_
  | with_reducible refine w_exint ?_
  | with_reducible refine w_dput ?_
  | with_reducible refine w_gSub ?_
  | with_reducible refine w_tFld ?_
  | with_reducible refine w_tMeth ?_
  | with_reducible refine w_sFld ?_
  | with_reducible refine w_dget2 ?_
  | with_reducible refine w_dget ?_
  | with_reducible refine w_bm ?_
  | with_reducible refine w_isiII ?_
  | with_reducible refine w_isiIB ?_
  | with_reducible refine w_isiBB ?_
  | with_reducible refine w_max ?_
  | ((with_reducible refine w_eq ?we ?_); (case we => rfl))
  | ((with_reducible refine w_ne ?we ?_); (case we => rfl)))
local macro_rules | `(tactic| walk_at "w1") => `(tactic| first | walk_at "e1" | with_reducible refine w_seq ?_)
local macro_rules | `(tactic| walk_at "e") => `(tactic| repeat walk_at "e1")
local macro_rules | `(tactic| walk_at "w") => `(tactic| repeat walk_at "w1")

theorem nil_eq {w : List Nat} : (V.str (S w) = V.str "") ↔ w = [] := ⟨fun h => by
  have h := V.str.inj h
  rw [S_nil] at h
  exact S_inj h, fun h => by rw [h, S_nil]⟩
theorem ok_l_number (T : Txt K mg a) : FnOk P w K mg base (L2.CX P w) 1 a.f_l_number a.d_l_number ["_law_word"] sp_l_number := by
  refine T.F_l_number.okX sc_l_number (fun vs H Q E h => ?_) (fun cdv A outer s H vs Q E hr h => ?_)
  · obtain ⟨w, rfl, _⟩ := h; rfl
  · obtain ⟨w, rfl, wa, hl, q⟩ := h
    refine ⟨_, (pss_cons (ps_if (PW.pt (pw_or (pt_cmpR op_eq (pv 0) pe_str (nomark _)) (pw_or (pt_cmpR op_gt (pe_callB call_len_str rfl T.n_len (by decide +kernel) (pa_cons (pv 0) pa_nil)) pe_int (nomark _)) (pw_or1 (PW.pt (pw_and (pt_cmpR op_eq (pe_ix (r := rIxS) ix_str (pv 0) pe_int (fun _ _ => rfl)) pe_str (nomark _)) (pw_and1 (pt_cmpR op_gt (pe_callB call_len_str rfl T.n_len (by decide +kernel) (pa_cons (pv 0) pa_nil)) pe_int (nomark _))))))))) (pss_one (ps_ret pe_non)) pss_nil)
  (pss_cons (ps_set (i := 1) sc_l_number.nd rfl (Or.inl rfl) pe_int)
  (pss_cons (ps_for (passes_of rfl) rfl (pi_str (pv 0)) (pg_name (i := 2) sc_l_number.nd rfl (by first | exact Or.inl rfl | exact Or.inr rfl))
  (pss_cons (ps_set (i := 3) sc_l_number.nd rfl (Or.inl rfl) (pe_bmK K rfl PySem.F.plainAttrs_str PySem.F.slot_str_find PySem.F.type_str_find mt_find pe_str (pa_cons (pv 2) pa_nil)))
  (pss_cons (ps_if (pt_cmpR op_lt (pv 3) pe_int (nomark _)) (pss_one (ps_ret pe_non)) pss_nil)
  (pss_one (ps_set (i := 1) sc_l_number.nd rfl (Or.inl rfl) (pe_op op_add (pe_op op_mul pe_int (pv 1)) (pv 3)))))))
  (pss_one (ps_ret (pv 1)))))), ?_⟩
    have ln : (S w).length ≤ sizeLine := by rw [S_len]; exact sz_small hl
    have bad : okW w = false → Q .non H := fun z => by
      rcases numV_cases w with ⟨e0, _, _⟩ | ⟨_, e1, _⟩
      · rw [z] at e0; cases e0
      · rw [e1] at q; exact q
    have good : okW w = true → Q (.int (valW w)) H := fun z => by
      rcases numV_cases w with ⟨_, e1, _⟩ | ⟨e0, _, _⟩
      · rw [e1] at q; exact q
      · rw [z] at e0; cases e0
    clear q
    walk_at "w"
    by_cases h1 : w = []
    · refine iteD (nil_eq.mpr h1) ?_
      refine iteT ?_
      walk_at "w"
      refine bad ?_
      subst h1
      rfl
    refine iteDn (fun z => h1 (nil_eq.mp z)) ?_
    walk_at "w"
    refine ⟨_, rfl, ln, ?_⟩
    rw [S_len]
    walk_at "w"
    by_cases h2 : (60 : Int) < w.length
    · refine iteD h2 ?_
      refine iteT ?_
      walk_at "w"
      refine bad ?_
      unfold okW
      rw [decide_eq_false (show ¬ w.length ≤ 60 by omega)]
      simp
    refine iteDn h2 ?_
    walk_at "w"
    obtain ⟨c, r, rfl⟩ : ∃ c r, w = c :: r := by
      cases w with
      | nil => exact absurd rfl h1
      | cons c r => exact ⟨c, r, rfl⟩
    refine ⟨_, _, c, rfl, rfl, ln, atI_nat (j := 0) rfl, ?_⟩
    rw [zero_S]
    walk_at "w"
    have okk : ((c :: r).head? = some 48 → ¬ 1 < (c :: r).length) → (c :: r).all dig = true → okW (c :: r) = true := fun hz hd => by
      unfold okW
      rw [decide_eq_true (show 1 ≤ (c :: r).length by rw [List.length_cons]; omega), decide_eq_true (show (c :: r).length ≤ 60 by omega), hd]
      by_cases hh : (c :: r).head? = some 48
      · rw [decide_eq_false (hz hh)]; simp
      · rw [decide_eq_false hh]; simp
    have hz : ∀ hh : ¬ ((c :: r).head? = some 48 ∧ 1 < (c :: r).length), ((c :: r).head? = some 48 → ¬ 1 < (c :: r).length) := fun hh z y => hh ⟨z, y⟩
    by_cases h3 : c = 48
    · refine iteD (one_eq.mpr h3) ?_
      walk_at "w"
      refine ⟨_, rfl, ln, ?_⟩
      rw [S_len]
      walk_at "w"
      by_cases h4 : (1 : Int) < (c :: r).length
      · refine iteD h4 ?_
        walk_at "w"
        refine bad ?_
        unfold okW
        rw [decide_eq_true (show (c :: r).head? = some 48 by rw [h3]; rfl), decide_eq_true (show 1 < (c :: r).length by omega)]
        simp
      · refine iteDn h4 ?_
        have okk := okk (hz fun z => h4 (by omega))
        walk_at "w"
        refine w_iStr ?_
        walk_at "w"
        refine ⟨_, rfl, ?_⟩
        refine for_it (walk_str (z := S (c :: r))) (fun i σ H' => (∃ u2 u3, σ = [some (.str (S (c :: r))), some (.int (NumText.digitsVal ((c :: r).take i) : Nat)), u2, u3]) ∧ H' = H ∧ ((c :: r).take i).all dig = true) ⟨⟨_, _, rfl⟩, rfl, rfl⟩ (fun _ _ _ _ _ => trivial) ?_ ?_
        · rintro i _ σ H1 _ hi ⟨⟨u2, u3, rfl⟩, rfl, hd⟩ ⟨rfl, d, hd1, rfl⟩
          have hd1 := its_S hd1
          have h128 := wa d (List.mem_of_getElem? hd1)
          have tk : (c :: r).take (i + 1) = (c :: r).take i ++ [d] := by rw [List.take_succ, hd1]; rfl
          walk_at "w"
          refine ⟨rfl, ?_⟩
          walk_at "w"
          refine ⟨_, _, rfl, rfl, ?_⟩
          rw [figs_S]
          have ef := figs_find d h128
          walk_at "w"
          rw [show Txt.find (S figs) ⟨#[d]⟩ = if dig d = true then (d : Int) - 48 else -1 from ef]
          by_cases hdd : dig d = true
          · rw [if_pos hdd]
            have h48 : 48 ≤ d := by
              unfold dig at hdd
              simp only [Bool.and_eq_true, decide_eq_true_eq] at hdd
              exact hdd.1
            refine iteDn (by omega) ?_
            walk_at "w"
            refine ⟨⟨some (.str ⟨#[d]⟩), some (.int ((d : Int) - 48)), ?_⟩, rfl, ?_⟩
            · have ev : (10 : Int) * (NumText.digitsVal ((c :: r).take i) : Nat) + ((d : Int) - 48) = (NumText.digitsVal ((c :: r).take (i + 1)) : Nat) := by
                rw [tk, val_step]
                omega
              rw [← ev]; rfl
            · rw [tk, List.all_append, hd]
              show [d].all dig = true
              rw [List.all_cons, hdd]; rfl
          · rw [if_neg hdd]
            refine iteD (by decide) ?_
            walk_at "w"
            refine bad ?_
            unfold okW
            have : (c :: r).all dig = false := by
              cases z : (c :: r).all dig with
              | false => rfl
              | true => exact absurd (List.all_eq_true.mp z d (List.mem_of_getElem? hd1)) hdd
            rw [this, Bool.and_false]
        · rintro σ H1 ⟨⟨u2, u3, rfl⟩, rfl, hd⟩
          rw [S_size, List.take_length] at hd ⊢
          walk_at "w"
          exact good (okk hd)
    · refine iteDn (fun z => h3 (one_eq.mp z)) ?_
      refine iteF ?_
      have okk := okk (hz fun z => h3 (Option.some.inj z.1))
      walk_at "w"
      refine w_iStr ?_
      walk_at "w"
      refine ⟨_, rfl, ?_⟩
      refine for_it (walk_str (z := S (c :: r))) (fun i σ H' => (∃ u2 u3, σ = [some (.str (S (c :: r))), some (.int (NumText.digitsVal ((c :: r).take i) : Nat)), u2, u3]) ∧ H' = H ∧ ((c :: r).take i).all dig = true) ⟨⟨_, _, rfl⟩, rfl, rfl⟩ (fun _ _ _ _ _ => trivial) ?_ ?_
      · rintro i _ σ H1 _ hi ⟨⟨u2, u3, rfl⟩, rfl, hd⟩ ⟨rfl, d, hd1, rfl⟩
        have hd1 := its_S hd1
        have h128 := wa d (List.mem_of_getElem? hd1)
        have tk : (c :: r).take (i + 1) = (c :: r).take i ++ [d] := by rw [List.take_succ, hd1]; rfl
        walk_at "w"
        refine ⟨rfl, ?_⟩
        walk_at "w"
        refine ⟨_, _, rfl, rfl, ?_⟩
        rw [figs_S]
        have ef := figs_find d h128
        walk_at "w"
        rw [show Txt.find (S figs) ⟨#[d]⟩ = if dig d = true then (d : Int) - 48 else -1 from ef]
        by_cases hdd : dig d = true
        · rw [if_pos hdd]
          have h48 : 48 ≤ d := by
            unfold dig at hdd
            simp only [Bool.and_eq_true, decide_eq_true_eq] at hdd
            exact hdd.1
          refine iteDn (by omega) ?_
          walk_at "w"
          refine ⟨⟨some (.str ⟨#[d]⟩), some (.int ((d : Int) - 48)), ?_⟩, rfl, ?_⟩
          · have ev : (10 : Int) * (NumText.digitsVal ((c :: r).take i) : Nat) + ((d : Int) - 48) = (NumText.digitsVal ((c :: r).take (i + 1)) : Nat) := by
              rw [tk, val_step]
              omega
            rw [← ev]; rfl
          · rw [tk, List.all_append, hd]
            show [d].all dig = true
            rw [List.all_cons, hdd]; rfl
        · rw [if_neg hdd]
          refine iteD (by decide) ?_
          walk_at "w"
          refine bad ?_
          unfold okW
          have : (c :: r).all dig = false := by
            cases z : (c :: r).all dig with
            | false => rfl
            | true => exact absurd (List.all_eq_true.mp z d (List.mem_of_getElem? hd1)) hdd
          rw [this, Bool.and_false]
      · rintro σ H1 ⟨⟨u2, u3, rfl⟩, rfl, hd⟩
        rw [S_size, List.take_length] at hd ⊢
        walk_at "w"
        exact good (okk hd)
theorem ok_l_due (T : Txt K mg a) : FnOk P w K mg base (L2.CX P w) 2 a.f_l_due a.d_l_due ["_law_line", "_law_many"] sp_l_due := by
  refine T.F_l_due.okX sc_l_due (fun vs H Q E h => ?_) (fun cdv A outer s H vs Q E hr h => ?_)
  · obtain ⟨l, many, rfl, _⟩ := h; rfl
  · obtain ⟨l, many, rfl, la, ll, q1, q2⟩ := h
    refine ⟨_, (pss_cons (ps_set (i := 2) sc_l_due.nd rfl (Or.inl rfl) (pe_lst (pa_cons pe_str pa_nil)))
  (pss_cons (ps_for (passes_of rfl) rfl (pi_str (pv 0)) (pg_name (i := 3) sc_l_due.nd rfl (by first | exact Or.inl rfl | exact Or.inr rfl))
  (pss_one (ps_if (pt_cmpR op_eq (pv 3) pe_str (nomark _)) (pss_one (ps_expr (pe_bmK K rfl PySem.F.plainAttrs_list PySem.F.slot_list_append PySem.F.type_list_append mt_append (pv 2) (pa_cons pe_str pa_nil)))) (pss_one (ps_asg (pe_op (r := rAddS) op_add_str (pe_ix (r := rIxL K) ix_list (pv 2) (pe_un un_neg pe_int) (fun _ _ => rfl)) (pv 3)) (pg_sub (pv 2) (pe_un un_neg pe_int) set_list))))))
  (pss_cons (ps_setLc (i := 4) (own := [("_law_word", 5)]) rfl sc_l_due.nd rfl rfl (sw_true rfl rfl rfl (by decide +kernel)) (pi_list (pv 2)) (blkOk_by (own := [("_law_word", 5)]) (N := N_l_due) (sc := defScope s_l_due) (by decide +kernel)) (fun _ _ _ _ _ => (pg_name (i := 5) sc_l_due.nd rfl (by first | exact Or.inl rfl | exact Or.inr rfl))) (fun _ _ _ _ _ => pts_nil) (fun _ _ _ _ _ => (pe_call (ok_l_number T) (hr.mono (by decide)) rfl T.g_l_number T.k_l_number T.b_l_number .nil passL (pa_cons (pv 5) pa_nil))))
  (pss_cons (ps_if (PW.pt (pw_or (pt_cmpR (r := rIn K false) op_in_seq pe_non (pv 4) (by with_unfolding_all rfl)) (pw_or1 (pt_cmpR op_ne (pe_callB (r := rLen K) cl_len rfl T.n_len (by decide +kernel) (pa_cons (pv 4) pa_nil)) (pv 1) (nomark _))))) (pss_one (ps_ret pe_non)) pss_nil)
  (pss_one (ps_ret (pe_callTy (r := rTup K) cl_tup rfl T.n_tuple (by decide +kernel) (pa_cons (pv 4) pa_nil)))))))), ?_⟩
    have wc := words_count l
    walk_at "w"
    refine w_newLx (ys := [V.str (S [])]) (by rw [S_nil]) (by show 1 ≤ sizeLine; decide) fun p H1 hp s1 h1 => ?_
    walk_at "w"
    refine w_iStr ?_
    walk_at "w"
    refine ⟨_, rfl, ?_⟩
    refine for_it (walk_str (z := S l)) (fun i σ H' => ∃ (done : List (List Nat)) (acc : List Nat) (u3 : Option V), σ = [some (.str (S l)), some (.int many), some (.ref p), u3, none, none] ∧ Same H H' ∧ H' p = some (.lst (done.map (fun w => V.str (S w)) ++ [V.str (S acc)])) ∧
      wordsL [] l = done ++ wordsL acc (l.drop i)) ⟨[], [], _, rfl, s1, h1, rfl⟩ (fun _ _ _ _ _ => trivial) ?_ ?_
    · rintro i _ σ H2 _ hi ⟨done, acc, u3, rfl, s2, h2, ew⟩ ⟨rfl, d, hd1, rfl⟩
      have hd1 := its_S hd1
      have hdrop : l.drop i = d :: l.drop (i + 1) := by
        have hi' := (List.getElem?_eq_some_iff.mp hd1)
        rw [List.drop_eq_getElem_cons hi'.1, hi'.2]
      rw [hdrop] at ew
      have ew : wordsL [] l = done ++ (if d = 32 then acc :: wordsL [] (l.drop (i + 1)) else wordsL (acc ++ [d]) (l.drop (i + 1))) := ew
      have lens := words_len l []
      have e0 : ([] : List Nat).length = 0 := rfl
      have dl : done.length ≤ l.length := by
        have := wc
        rw [ew, List.length_append] at this
        have : 1 ≤ (if d = 32 then acc :: wordsL [] (l.drop (i + 1)) else wordsL (acc ++ [d]) (l.drop (i + 1))).length := by
          split
          · rw [List.length_cons]; omega
          · exact List.length_pos_iff.mpr (words_ne _ _)
        omega
      walk_at "w"
      rw [blank_S]
      by_cases h32 : d = 32
      · rw [if_pos h32] at ew
        refine iteD (one_eq.mpr h32) ?_
        walk_at "w"
        refine ⟨ty_lst (SqL.of h2), ?_⟩
        walk_at "w"
        refine w_app h2 (by rw [List.length_append, List.length_map, List.length_singleton]; omega) ?_
        walk_at "w"
        refine ⟨done ++ [acc], [], _, rfl, Same.mut s2 hp, ?_, by rw [ew, List.append_assoc]; rfl⟩
        rw [upd_same, List.map_append, S_nil]; rfl
      · rw [if_neg h32] at ew
        have al : acc.length + 1 ≤ l.length + 1 := by
          have h5 := words_len (l.drop (i + 1)) (acc ++ [d])
          have h6 : ((wordsL [] l).map List.length).sum + (wordsL [] l).length = ((done.map List.length).sum + done.length) + (((wordsL (acc ++ [d]) (l.drop (i + 1))).map List.length).sum + (wordsL (acc ++ [d]) (l.drop (i + 1))).length) := by
            rw [ew, List.map_append, List.sum_append, List.length_append]; omega
          rw [List.length_append, List.length_singleton] at h5
          omega
        refine iteDn (fun z => h32 (one_eq.mp z)) ?_
        walk_at "w"
        refine ⟨_, rfl, ?_⟩
        refine ⟨p, _, -1, _, rfl, rfl, SqL.of h2, at_lastX, ?_⟩
        walk_at "w"
        refine ⟨S acc, S [d], rfl, rfl, by rw [S_len, S_len, List.length_singleton]; exact sz_small (by omega), ?_⟩
        rw [S_cat]
        walk_at "w"
        refine ⟨_, rfl, ?_⟩
        refine ⟨p, _, -1, done.length, rfl, rfl, h2, ?_, ?_⟩
        · rw [List.length_append, List.length_map, List.length_singleton]; exact ixN_last
        refine ⟨done, acc ++ [d], _, rfl, Same.mut s2 hp, ?_, ew⟩
        rw [upd_same]
        have : (done.map (fun w => V.str (S w)) ++ [V.str (S acc)]).set done.length (V.str (S (acc ++ [d]))) = done.map (fun w => V.str (S w)) ++ [V.str (S (acc ++ [d]))] := by
          have h := app_set (done.map fun w => V.str (S w)) (V.str (S acc)) (V.str (S (acc ++ [d])))
          rwa [List.length_map] at h
        rw [this]
    · rintro σ H2 ⟨done, acc, u3, rfl, s2, h2, ew⟩
      rw [S_size, List.drop_length] at ew
      have ew : wordsL [] l = done ++ [acc] := ew
      have h2 : H2 p = some (.lst ((wordsL [] l).map fun w => V.str (S w))) := by rw [h2, ew, List.map_append]; rfl
      clear ew
      walk_at "w"
      refine ⟨p, rfl, ⟨_, SqL.of h2⟩, ?_⟩
      refine lcL (wordsL [] l) (fun w => some (numD w)) (fun _ => False) (fun _ _ z => z) (SqL.of h2) (by rw [List.length_map]) (sz_small (by omega)) (fun i x d H3 M' Yes No hx hd s3 ex fr yes no => ?_) (fun D H3 hD s3 r3 => ?_)
      · obtain rfl : x = .str (S d) := by
          rw [List.getElem?_map, hd] at hx
          exact (Option.some.inj hx).symm
        have hmem := List.mem_of_getElem? hd
        refine w_it0 rfl ?_
        walk_at "w"
        refine ⟨d, rfl, fun c hc => (words_mem l [] d hmem c hc).elim (fun z => nomatch z) (la c), by have := words_each hmem; omega, ?_⟩
        exact yes _ _ _ rfl (Same.refl _) (num_rp d)
      have s13 := Same.trans s2 s3
      obtain ⟨p3, xs, e3, _, h3, t3⟩ := r3.lst_inv
      cases e3
      rw [List.filterMap_eq_map'] at t3
      have ex := nums_inv t3
      subst ex
      walk_at "w"
      refine ⟨D, _, rfl, .inl (SqL.of h3), rfl, nums_flat _, ?_⟩
      rw [nums_none]
      walk_at "w"
      by_cases ok : ∀ w ∈ wordsL [] l, okW w = true
      · refine iteN (by rw [List.all_eq_true.mpr ok]; rfl) ?_
        walk_at "w"
        refine w_lenS (SqL.of h3) ?_
        rw [List.length_map]
        walk_at "w"
        by_cases hm : ((wordsL [] l).length : Int) = many
        · refine iteN ?_ ?_
          · rw [decide_eq_true (by rw [hm])]; rfl
          walk_at "w"
          have r4 : Rp (fun _ => False) H3 (.ref D) (.list ((marksI (wordsL [] l)).map PyData.int)) := by
            have e : (wordsL [] l).map numD = (marksI (wordsL [] l)).map PyData.int := by
              unfold marksI
              rw [List.map_map]
              refine List.map_congr_left fun w hw => ?_
              rcases numV_cases w with ⟨_, _, e⟩ | ⟨e, _, _⟩
              · exact e
              · rw [ok w hw] at e; cases e
            rw [← e]
            exact .lstA (fun z => z) h3 t3
          refine w_tupleL r4 fun v5 H5 s5 r5 => ?_
          exact q1 ⟨hm, ok⟩ v5 H5 (Same.trans s13 s5) fun M => Rp.mark r5
        · refine iteY ?_ ?_
          · rw [decide_eq_false fun z => hm (V.int.inj z)]; rfl
          walk_at "w"
          exact q2 (fun z => hm z.1) _ s13
      · have hno : (wordsL [] l).all okW = false := by
          cases z : (wordsL [] l).all okW with
          | false => rfl
          | true => exact absurd (List.all_eq_true.mp z) ok
        refine iteY (by rw [hno]; rfl) ?_
        refine iteT ?_
        walk_at "w"
        exact q2 (fun z => ok z.2) _ s13
end
end Sb

namespace Sb
open PySem L2 PyProof.Rows SX
theorem w_slTail {K : Frag} {M : Addr → Prop} {H : Hp} {x : V} {m : List Int} {Q : VK} (h : Rp M H x (markD m)) (hl : 1 ≤ m.length) (q : ∀ p H2, Same H H2 → H2 p = some (.tup ((m.drop 1).map V.int)) → Q (.ref p) H2) : rSlT K x (some 1) none H Q := by
  obtain ⟨a, xs, rfl, ha, r⟩ := Rp.tup_inv (ds := m.map PyData.int) h
  rw [r.ints_inv] at ha
  have e1 : HT.sIx (m.map V.int).length 0 (some (1 : Int)) = 1 := by
    rw [show (1 : Int) = ((1 : Nat) : Int) from rfl, HT.sIx_nat, List.length_map]; omega
  have e2 : HT.sIx (m.map V.int).length (m.map V.int).length none = m.length := by rw [HT.sIx_none, List.length_map]
  refine ⟨a, _, rfl, SqT.of ha, fun z => by rw [e1] at z; omega, fun p hp => q p _ (Same.new hp) ?_⟩
  have e3 : cutV (m.map V.int) (some (1 : Int)) none = (m.drop 1).map V.int := by
    unfold cutV
    rw [e1, e2, List.take_of_length_le (by rw [List.length_drop, List.length_map]; omega), List.map_drop]
  rw [e3]
  exact upd_same
theorem text_len (m : List Int) (h : ∀ i ∈ m, 0 ≤ i ∧ i < 10 ^ 60) (hl : m.length ≤ 9) : (textOf m).length ≤ 700 := by
  unfold textOf
  have j := joinL_len (m.map fun i => TL.numL i.toNat)
  have b : ∀ l : List Int, (∀ i ∈ l, 0 ≤ i ∧ i < 10 ^ 60) → ((l.map fun i => TL.numL i.toNat).map List.length).sum ≤ 60 * l.length := fun l => by
    induction l with
    | nil => exact fun _ => Nat.le_refl _
    | cons i l ih =>
      intro hl
      have h1 := hl i List.mem_cons_self
      have h2 := numL_few (show i.toNat < 10 ^ 60 by omega)
      have h3 := ih fun j hj => hl j (List.mem_cons_of_mem _ hj)
      simp only [List.map_cons, List.sum_cons, List.length_cons] at h3 ⊢
      omega
  have := b m h
  rw [List.length_map] at j
  omega
theorem text_asc (m : List Int) : AscL (textOf m) := fun c hc => by
  unfold textOf at hc
  rcases joinL_mem _ c hc with rfl | ⟨w, hw, hc⟩
  · decide
  · obtain ⟨i, _, rfl⟩ := List.mem_map.mp hw
    exact numL_asc _ c hc
theorem text_snoc (m : List Int) (i : Int) (h : m ≠ []) : textOf (m ++ [i]) = textOf m ++ ([32] ++ TL.numL i.toNat) := by
  unfold textOf
  rw [List.map_append]
  exact joinL_snoc _ _ fun z => h (List.map_eq_nil_iff.mp z)
section
variable {P : Program} {w : World} {K : Frag} {mg : Str → Option Value} {base : Heap} {a : Ad}
local macro_rules | `(tactic| walk_at "e1") => `(tactic| first
  | ((with_reducible refine' w_var ?wh ?_); (case wh => rfl))
  | with_reducible refine w_c ?_
  | with_reducible refine w_projn ?_
  | with_reducible refine w_projr ?_
  | with_reducible refine w_op ?_
  | with_reducible refine w_cons ?_
  | with_reducible refine w_nil ?_
  | with_reducible refine w_I0 ?_
  | ((with_reducible refine w_I ?wc ?_); (case wc => first | (show (0 : Int) < _; decide) | exact ⟨by decide, by decide⟩ | exact ⟨by decide, by decide, by decide⟩ | exact Or.inr ⟨by decide, by decide⟩ | exact Or.inl ⟨by decide, by decide⟩ | (show (0 : Int) < _; omega) | exact ⟨by omega, by omega⟩))
  | with_reducible refine w_bl ?_
  | with_reducible refine w_test ?_
  | with_reducible refine w_tB ?_
  | with_reducible refine w_set ?_
  | with_reducible refine w_ifS ?_
  | with_reducible refine w_if ?_
  | with_reducible refine w_or ?_
  | with_reducible refine w_and ?_
  | with_reducible refine w_not ?_
  | with_reducible refine w_orV ?_
  | with_reducible refine w_andV ?_
  | with_reducible refine w_notV ?_
  | with_reducible refine w_ret ?_
  | with_reducible refine w_retN ?_
  | with_reducible refine w_drop ?_
  | with_reducible refine w_next ?_
  | with_reducible refine w_un ?_
  | with_reducible refine w_CB ?_
  | with_reducible refine w_call ?_
  | with_reducible refine w_callS ?_
  | with_reducible refine w_gName ?_
  | with_reducible refine w_gCons ?_
  | with_reducible refine w_gNil ?_
  | with_reducible refine w_iEnum ?_
  | with_reducible refine w_tMake ?_
  | with_reducible refine w_asg ?_
  | with_reducible refine w_tTup ?_
  | with_reducible refine w_tLst ?_
  | with_reducible refine w_lc ?_
  | with_reducible refine w_iRng1 ?_
  | with_reducible refine w_iRng2 ?_
  | with_reducible refine w_iList ?_
  | with_reducible refine w_iTup ?_
  | with_reducible refine w_for ?_
  | with_reducible refine w_chain ?_
  | with_reducible refine w_sl ?_
  | with_reducible refine w_part ?_
  | with_reducible refine w_nopart ?_
  | with_reducible refine w_exint ?_
  | with_reducible refine w_dput ?_
  | with_reducible refine w_gSub ?_
  | with_reducible refine w_tFld ?_
  | with_reducible refine w_tMeth ?_
  | with_reducible refine w_sFld ?_
  | with_reducible refine w_dget2 ?_
  | with_reducible refine w_dget ?_
  | with_reducible refine w_bm ?_
  | with_reducible refine w_isiII ?_
  | with_reducible refine w_isiIB ?_
  | with_reducible refine w_isiBB ?_
  | with_reducible refine w_max ?_
  | ((with_reducible refine w_eq ?we ?_); (case we => rfl))
  | ((with_reducible refine w_ne ?we ?_); (case we => rfl)))
local macro_rules | `(tactic| walk_at "w1") => `(tactic| first | walk_at "e1" | with_reducible refine w_seq ?_)
local macro_rules | `(tactic| walk_at "e") => `(tactic| repeat walk_at "e1")
local macro_rules | `(tactic| walk_at "w") => `(tactic| repeat walk_at "w1")

theorem ok_law (T : Txt K mg a) : FnOk P w K mg base (L2.CX P w) 3 a.f_law a.d_law ["_law_script"] (sp_law K) := by
  refine T.F_law.okX sc_law (fun vs H Q E h => ?_) (fun cdv A outer s H vs Q E hr h => ?_)
  · obtain ⟨b, ns, rfl, _⟩ := h; rfl
  · obtain ⟨b, ns, rfl, hs, hl, q⟩ := h
    have hu64 := hr.units
    refine ⟨_, (pss_cons (ps_set (i := 1) sc_law.nd rfl (Or.inl rfl) (pe_op op_add pe_int (pe_op op_mod (pe_call (ok_l_cell_at T) (hr.mono (by decide)) rfl T.g_l_cell_at T.k_l_cell_at T.b_l_cell_at .nil passL (pa_cons (pv 0) (pa_cons pe_int pa_nil))) pe_int)))
  (pss_cons (ps_set (i := 2) sc_law.nd rfl (Or.inr rfl) (pe_ix (r := rIxL K) ix_list (pe_lst (pa_cons pe_int (pa_cons (pe_op op_pow pe_int pe_int) (pa_cons (pe_op op_pow pe_int pe_int) pa_nil)))) (pe_op op_mod (pe_op op_fdiv (pe_call (ok_l_cell_at T) (hr.mono (by decide)) rfl T.g_l_cell_at T.k_l_cell_at T.b_l_cell_at .nil passL (pa_cons (pv 0) (pa_cons pe_int pa_nil))) pe_int) pe_int) (fun _ _ => rfl)))
  (pss_cons (ps_set (i := 3) sc_law.nd rfl (Or.inl rfl) (pe_callTy (r := rTup K) cl_tup rfl T.n_tuple (by decide +kernel) (pa_cons (pe_lc (own := [("_law_k", 11)]) rfl sc_law.nd (pi_range1 rfl T.n_range (pa_cons (pv 1) pa_nil)) (blkOk_by (own := [("_law_k", 11)]) (N := N_law) (sc := defScope s_law) (by decide +kernel)) (fun _ _ _ _ _ => (pg_name (i := 11) sc_law.nd rfl (by first | exact Or.inl rfl | exact Or.inr rfl))) (fun _ _ _ _ _ => pts_nil) (fun _ _ _ _ _ => (pe_op op_mod (pe_call (ok_l_cell_at T) (hr.mono (by decide)) rfl T.g_l_cell_at T.k_l_cell_at T.b_l_cell_at .nil passL (pa_cons (pv 0) (pa_cons (pe_op op_add pe_int (pv 11)) pa_nil))) (pv 2)))) pa_nil)))
  (pss_cons (ps_set (i := 4) sc_law.nd rfl (Or.inl rfl) (pe_call (ok_l_figures T) (hr.mono (by decide)) rfl T.g_l_figures T.k_l_figures T.b_l_figures .nil passL (pa_cons (pe_ix (r := rIxT K) ix_tup (pv 3) pe_int (fun _ _ => rfl)) pa_nil)))
  (pss_cons (ps_for (passes_of rfl) rfl (pi_tup (pe_slice (r := rSlT K) sl_tup (pv 3) (po_some pe_int) po_none)) (pg_name (i := 5) sc_law.nd rfl (by first | exact Or.inl rfl | exact Or.inr rfl))
  (pss_one (ps_set (i := 4) sc_law.nd rfl (Or.inl rfl) (pe_op (r := rAddS) op_add_str (pe_op (r := rAddS) op_add_str (pv 4) pe_str) (pe_call (ok_l_figures T) (hr.mono (by decide)) rfl T.g_l_figures T.k_l_figures T.b_l_figures .nil passL (pa_cons (pv 5) pa_nil))))))
  (pss_cons (ps_set (i := 6) sc_law.nd rfl (Or.inl rfl) (pe_call (ok_written T) (hr.mono (by decide)) rfl T.g_written T.k_written T.b_written .nil passL (pa_cons (pv 3) pa_nil)))
  (pss_cons (ps_if (PW.pt (pw_or (pt_not (pt_val (pe_callB (r := rIsi K) call_isi rfl T.n_isinstance (by decide +kernel) (pa_cons (pv 6) (pa_cons (pe_bltn (v := .ty "str") (u := .type "str") rfl T.n_str (by decide +kernel) rfl) pa_nil))))) (pw_or1 (pt_cmpR op_ne (pv 6) (pv 4) (nomark _))))) (pss_one (ps_ret pe_bl)) pss_nil)
  (pss_cons (ps_set (i := 7) sc_law.nd rfl (Or.inl rfl) (pe_op op_mod (pe_call (ok_l_cell_at T) (hr.mono (by decide)) rfl T.g_l_cell_at T.k_l_cell_at T.b_l_cell_at .nil passL (pa_cons (pv 0) (pa_cons pe_int pa_nil))) pe_int))
  (pss_cons (ps_set (i := 4) sc_law.nd rfl (Or.inl rfl) (pe_call (ok_l_changed T) (hr.mono (by decide)) rfl T.g_l_changed T.k_l_changed T.b_l_changed .nil passL (pa_cons (pv 4) (pa_cons (pv 7) (pa_cons (pe_call (ok_l_cell_at T) (hr.mono (by decide)) rfl T.g_l_cell_at T.k_l_cell_at T.b_l_cell_at .nil passL (pa_cons (pv 0) (pa_cons pe_int pa_nil))) (pa_cons (pe_call (ok_l_sign_by T) (hr.mono (by decide)) rfl T.g_l_sign_by T.k_l_sign_by T.b_l_sign_by .nil passL (pa_cons (pe_call (ok_l_cell_at T) (hr.mono (by decide)) rfl T.g_l_cell_at T.k_l_cell_at T.b_l_cell_at .nil passL (pa_cons (pv 0) (pa_cons pe_int pa_nil))) pa_nil)) pa_nil))))))
  (pss_cons (ps_set (i := 8) sc_law.nd rfl (Or.inl rfl) (pv 1))
  (pss_cons (ps_if (pt_cmpR op_eq (pe_op op_mod (pe_call (ok_l_cell_at T) (hr.mono (by decide)) rfl T.g_l_cell_at T.k_l_cell_at T.b_l_cell_at .nil passL (pa_cons (pv 0) (pa_cons pe_int pa_nil))) pe_int) pe_int (nomark _)) (pss_one (ps_set (i := 8) sc_law.nd rfl (Or.inl rfl) (pe_callB (cl_max rfl) rfl T.n_max (by decide +kernel) (pa_cons pe_int (pa_cons (pe_op op_sub (pe_op op_add (pv 1) (pe_op op_mul (pe_op op_mod (pe_op op_fdiv (pe_call (ok_l_cell_at T) (hr.mono (by decide)) rfl T.g_l_cell_at T.k_l_cell_at T.b_l_cell_at .nil passL (pa_cons (pv 0) (pa_cons pe_int pa_nil))) pe_int) pe_int) pe_int)) pe_int) pa_nil))))) pss_nil)
  (pss_cons (ps_set (i := 9) sc_law.nd rfl (Or.inl rfl) (pe_call (ok_l_due T) (hr.mono (by decide)) rfl T.g_l_due T.k_l_due T.b_l_due .nil passL (pa_cons (pv 4) (pa_cons (pv 8) pa_nil))))
  (pss_cons (ps_try_as (i := 10) rfl rfl sc_law.nd rfl rfl ⟨rfl, by decide, .inl T.g_ShelfError⟩ takes0 (fun W pn xe tk ow => (pss_one (ps_set (i := 6) sc_law.nd rfl (Or.inl rfl) (pe_callS (ok_read T) (hr.mono (by decide)) rfl T.g_read T.k_read T.b_read (fun σ => passAt tk σ) (pa_cons (pv 4) (pa_cons (pv 8) pa_nil)))))) (fun ae oe cls dd pn hz hf => (pss_cons (ps_if (PW.pt (pw_or (pt_val (pe_callB (r := rIsX K cls dd ae) (call_isX hz hf) rfl T.n_isinstance (by decide +kernel) (pa_cons (pv 10) (pa_cons (pe_glob (v := .ref a.C_BadMark) rfl T.g_BadMark rfl) pa_nil)))) (pw_or (pt_val (pe_callB (r := rIsX K cls dd ae) (call_isX hz hf) rfl T.n_isinstance (by decide +kernel) (pa_cons (pv 10) (pa_cons (pe_glob (v := .ref a.C_BadCount) rfl T.g_BadCount rfl) pa_nil)))) (pw_or1 (pt_val (pe_callB (r := rIsX K cls dd ae) (call_isX hz hf) rfl T.n_isinstance (by decide +kernel) (pa_cons (pv 10) (pa_cons (pe_glob (v := .ref a.C_NoKeeper) rfl T.g_NoKeeper rfl) pa_nil)))))))) (pss_one (ps_ret pe_bl)) pss_nil)
  (pss_one (ps_ret (pe_and (pe_cmpR op_isN (pv 9) pe_non (nomark _)) (pe_and (pe_callB (r := rIsX K cls dd ae) (call_isX hz hf) rfl T.n_isinstance (by decide +kernel) (pa_cons (pv 10) (pa_cons (pe_glob (v := .ref a.C_BadNote) rfl T.g_BadNote rfl) pa_nil))) (pe_one (pe_callB (r := rIsX K cls dd ae) (call_isX hz hf) rfl T.n_isinstance (by decide +kernel) (pa_cons (pv 10) (pa_cons (pe_bltn (v := .ty "ValueError") (u := .type "ValueError") rfl T.n_ValueError (by decide +kernel) rfl) pa_nil)))))))))))
  (pss_cons (ps_if (PW.pt (pw_or (pt_cmpR op_isN (pv 9) pe_non (nomark _)) (pw_or (pt_not (pt_val (pe_callB (r := rIsi K) call_isi rfl T.n_isinstance (by decide +kernel) (pa_cons (pv 6) (pa_cons (pe_bltn (v := .ty "tuple") (u := .type "tuple") rfl T.n_tuple (by decide +kernel) rfl) pa_nil))))) (pw_or1 (pt_cmpR (r := rNeD K) (op_neD hu64) (pv 6) (pv 9) (nomark _)))))) (pss_one (ps_ret pe_bl)) pss_nil)
  (pss_one (ps_ret (pe_cmpR (r := rEqD K) (op_eqD hu64) (pe_lc (own := [("_law_one", 12)]) rfl sc_law.nd (pi_tup (pv 6)) (blkOk_by (own := [("_law_one", 12)]) (N := N_law) (sc := defScope s_law) (by decide +kernel)) (fun _ _ _ _ _ => (pg_name (i := 12) sc_law.nd rfl (by first | exact Or.inl rfl | exact Or.inr rfl))) (fun _ _ _ _ _ => (pts_one (PW.pt (pw_or (pt_not (pt_val (pe_callB (r := rIsi K) call_isi rfl T.n_isinstance (by decide +kernel) (pa_cons (pv 12) (pa_cons (pe_bltn (v := .ty "int") (u := .type "int") rfl T.n_int (by decide +kernel) rfl) pa_nil))))) (pw_or1 (pt_val (pe_callB (r := rIsi K) call_isi rfl T.n_isinstance (by decide +kernel) (pa_cons (pv 12) (pa_cons (pe_bltn (v := .ty "bool") (u := .type "bool") rfl T.n_bool (by decide +kernel) rfl) pa_nil))))))))) (fun _ _ _ _ _ => (pv 12))) (pe_lst pa_nil) (nomark _)))))))))))))))))), ?_⟩
    walk_at "w"
    refine ⟨b, ns, 0, rfl, hs, ?_⟩
    walk_at "w"
    obtain ⟨n, em, m1, m2⟩ : ∃ n : Nat, 1 + cell ns 0 % 9 = (n : Int) ∧ 1 ≤ n ∧ n ≤ 9 := ⟨(1 + cell ns 0 % 9).toNat, by omega, by omega, by omega⟩
    rw [em]
    refine w_newL (M := fun _ => False) (ds := [12, 10 ^ 6, 10 ^ 60].map PyData.int) (fun _ _ z => z) (RpA.ints (ns := [12, 10 ^ 6, 10 ^ 60])) (by show 3 ≤ sizeLine; decide) fun v1 H1 s1 r1 => ?_
    have hs1 := Same.seq s1 hs
    walk_at "w"
    refine ⟨b, ns, 0, rfl, hs1, ?_⟩
    walk_at "w"
    obtain ⟨j, ej, hj⟩ : ∃ j : Nat, cell ns 0 / 9 % 3 = j ∧ j < 3 := ⟨(cell ns 0 / 9 % 3).toNat, by omega, by omega⟩
    rw [ej]
    obtain ⟨mst, hm0, hm1, hm2⟩ : ∃ mst : Int, [(12 : Int), 10 ^ 6, 10 ^ 60][j]? = some mst ∧ 1 ≤ mst ∧ mst ≤ 10 ^ 60 := by
      rcases (show j = 0 ∨ j = 1 ∨ j = 2 by omega) with rfl | rfl | rfl
      · exact ⟨_, rfl, by decide, by decide⟩
      · exact ⟨_, rfl, by decide, by decide⟩
      · exact ⟨_, rfl, by decide, by decide⟩
    refine w_ixL j r1 rfl (d := .int mst) (by rw [List.getElem?_map, hm0]; rfl) fun v2 r2 => ?_
    obtain rfl := r2.int_inv
    walk_at "w"
    refine ⟨_, rfl, by omega, by omega, ?_⟩
    refine lcR _ (fun i => some (.int (cell ns (5 + i) % mst))) (fun _ => False) (fun _ _ z => z) (sz_small (by omega)) (fun i H2 M' Yes No hi s2 ex fr' yes no => ?_) (fun D H2 hD s2 r2 => ?_)
    · refine w_it0 rfl ?_
      walk_at "w"
      refine ⟨b, ns, 5 + i, ?_, Same.seq s2 hs1, ?_⟩
      · rw [Int.zero_add, Int.natCast_add]; rfl
      walk_at "w"
      exact yes _ _ _ rfl (Same.refl _) (.int _)
    rw [fm_some, Int.toNat_natCast] at r2
    obtain ⟨m, em'⟩ : ∃ m : List Int, m = (List.range n).map fun i => cell ns (5 + i) % mst := ⟨_, rfl⟩
    have r2 : Rp (fun _ => False) H2 (.ref D) (.list (m.map PyData.int)) := by
      rw [em', List.map_map]; exact r2
    have ml : m.length = n := by rw [em', List.length_map, List.length_range]
    have mp : ∀ i ∈ m, 0 ≤ i ∧ i < 10 ^ 60 := fun i hi => by
      rw [em'] at hi
      obtain ⟨k, _, rfl⟩ := List.mem_map.mp hi
      have h0 := Int.emod_nonneg (cell ns (5 + k)) (show mst ≠ 0 by omega)
      have h1 := Int.emod_lt_of_pos (cell ns (5 + k)) (show 0 < mst by omega)
      exact ⟨h0, by omega⟩
    clear em'
    walk_at "w"
    refine w_tupleL r2 fun mv H3 s3 r3 => ?_
    have r3 : Rp (fun _ => False) H3 mv (markD m) := r3
    have hs3 := Same.seq s3 (Same.seq s2 hs1)
    obtain ⟨i0, mr, rfl⟩ : ∃ i0 mr, m = i0 :: mr := by
      cases m with
      | nil => exact absurd ml (by show ¬ 0 = n; omega)
      | cons i0 mr => exact ⟨i0, mr, rfl⟩
    have p0 := mp i0 List.mem_cons_self
    have num : ∀ {i : Int}, 0 ≤ i ∧ i < 10 ^ 60 → ∀ {H' : Hp} {Q' : VK} {E' : XK}, Q' (.str (S (TL.numL i.toNat))) H' → sp_l_figures [.int i] H' Q' E' := fun {i} hi {H' Q' E'} q' => by
      refine ⟨i.toNat, ?_, by omega, q'⟩
      rw [Int.toNat_of_nonneg hi.1]
    walk_at "w"
    refine w_ixM 0 r3 rfl (by rw [List.length_cons]; omega) ?_
    walk_at "w"
    refine num p0 ?_
    walk_at "w"
    refine w_slTail r3 (by rw [List.length_cons]; omega) fun pt H4 s4 h4 => ?_
    have h4 : H4 pt = some (.tup (mr.map V.int)) := h4
    have r4 := r3.same s4
    have hs4 := Same.seq s4 hs3
    refine ⟨pt, rfl, ⟨_, SqT.of h4⟩, ?_⟩
    refine for_tup (K := K) (xs := mr.map V.int) (fun i σ H' => (∃ u5, σ = [some (.ref b), some (.int n), some (.int mst), some mv, some (.str (S (textOf (i0 :: mr.take i)))), u5, none, none, none, none, none, none, none]) ∧ H' = H4) ⟨⟨_, rfl⟩, rfl⟩ (fun i σ H' _ h => by rw [h.2]; exact SqT.of h4) ?_ ?_
    · rintro i x σ H' hx ⟨⟨u5, rfl⟩, rfl⟩
      obtain ⟨d, hd⟩ : ∃ d, mr[i]? = some d := by
        have := (List.getElem?_eq_some_iff.mp hx).1
        rw [List.length_map] at this
        exact ⟨_, List.getElem?_eq_getElem this⟩
      obtain rfl : x = .int d := by
        rw [List.getElem?_map, hd] at hx
        exact (Option.some.inj hx).symm
      have pd := mp d (List.mem_cons_of_mem _ (List.mem_of_getElem? hd))
      have tl := text_len (i0 :: mr.take i) (fun z hz => (List.mem_cons.mp hz).elim (fun e => by rw [e]; exact p0) fun hz => mp z (List.mem_cons_of_mem _ (List.mem_of_mem_take hz))) (by rw [List.length_cons, List.length_take]; rw [List.length_cons] at ml; omega)
      have nl := numL_few (show d.toNat < 10 ^ 60 by omega)
      walk_at "w"
      rw [blank_S']
      refine w_addX (by rw [List.length_singleton]; omega) ?_
      walk_at "w"
      refine num pd ?_
      refine w_addX (by rw [List.length_append, List.length_singleton]; omega) ?_
      walk_at "w"
      refine ⟨⟨some (.int d), ?_⟩, rfl⟩
      have e : textOf (i0 :: mr.take (i + 1)) = (textOf (i0 :: mr.take i) ++ [32]) ++ TL.numL d.toNat := by
        rw [List.take_succ, hd]
        show textOf ((i0 :: mr.take i) ++ [d]) = _
        rw [text_snoc _ _ (List.cons_ne_nil _ _), List.append_assoc]
      rw [e]; rfl
    rintro σ H' ⟨⟨u5, rfl⟩, rfl⟩
    rw [List.length_map, List.take_length]
    have tl := text_len (i0 :: mr) mp (by omega)
    have ta := text_asc (i0 :: mr)
    walk_at "w"
    refine ⟨_, mv, i0 :: mr, rfl, r4, mp, by omega, fun H5 s5 => ?_⟩
    have hs5 := Same.seq s5 hs4
    generalize textOf (i0 :: mr) = txt at tl ta
    walk_at "w"
    refine w_isiSS ?_
    walk_at "w"
    refine iteF ?_
    walk_at "w"
    refine iteN (by rw [decide_eq_true rfl]; rfl) ?_
    walk_at "w"
    refine ⟨b, ns, 1, rfl, hs5, ?_⟩
    walk_at "w"
    refine ⟨b, ns, 2, rfl, hs5, ?_⟩
    walk_at "w"
    refine ⟨b, ns, 3, rfl, hs5, ?_⟩
    walk_at "w"
    refine ⟨_, rfl, fun d hd => ?_⟩
    walk_at "w"
    refine ⟨txt, _, _, d, rfl, ta, by omega, hd, fun l H6 s6 la ll => ?_⟩
    have hs6 := Same.seq s6 hs5
    clear tl ta
    walk_at "w"
    refine ⟨b, ns, 4, rfl, hs6, ?_⟩
    walk_at "w"
    refine w_ifJoin 8 (.int n) (fun x => ∃ z : Int, x = .int z) rfl (fun _ => ⟨n, rfl⟩) ?_ (fun N key h => ?_)
    rotate_left
    · walk_at "w"
      refine ⟨b, ns, 4, rfl, hs6, ?_⟩
      walk_at "w"
      exact key _ ⟨_, rfl⟩
    rintro _ ⟨cnt, rfl⟩
    walk_at "w"
    refine ⟨l, cnt, rfl, la, by omega, fun hok v7 H7 s7 r7 => ?_, fun hno H7 s7 => ?_⟩
    · obtain ⟨t7, x7, e7, _⟩ := Rp.tup_inv (r7 fun _ => False : Rp _ H7 v7 (.tuple ((marksI (wordsL [] l)).map PyData.int)))
      walk_at "w"
      refine ⟨l, cnt, rfl, by omega, fun _ v8 H8 s8 r8 => ?_, fun z => absurd hok z⟩
      have r7 := fun M => (r7 M).same s8
      walk_at "w"
      refine ⟨rfl, ?_⟩
      rw [decide_eq_false (show ¬ v7 = V.non by rw [e7]; exact fun z => nomatch z)]
      walk_at "w"
      refine iteF ?_
      walk_at "w"
      refine w_isiTT (r8 fun _ => False : Rp _ H8 v8 (.tuple ((marksI (wordsL [] l)).map PyData.int))) ?_
      walk_at "w"
      refine iteF ?_
      walk_at "w"
      refine w_neM (r8 fun _ => False) (r7 fun _ => False) ?_
      walk_at "w"
      refine iteN (by rw [decide_eq_true rfl]; rfl) ?_
      obtain ⟨t8, x8, e8, h8, ra⟩ := Rp.tup_inv (r8 fun _ => False : Rp _ H8 v8 (.tuple ((marksI (wordsL [] l)).map PyData.int)))
      rw [ra.ints_inv] at h8
      subst e8
      have ml8 : (marksI (wordsL [] l)).length ≤ 5001 := by
        unfold marksI
        rw [List.length_map]
        have := words_count l
        omega
      walk_at "w"
      refine ⟨t8, rfl, ⟨_, SqT.of h8⟩, ?_⟩
      refine lcT (marksI (wordsL [] l)) (fun _ => none) (fun _ => False) (fun _ _ z => z) h8 (by rw [List.length_map]) (sz_small (by omega)) (fun i x d H9 M' Yes No hx hd s9 ex fr yes no => ?_) (fun D9 H9 hD9 s9 r9 => ?_)
      · obtain rfl : x = .int d := by
          rw [List.getElem?_map, hd] at hx
          exact (Option.some.inj hx).symm
        refine w_it1 rfl ?_
        walk_at "w"
        refine iteF ?_
        walk_at "w"
        refine iteF ?_
        exact no _ rfl (Same.refl _)
      walk_at "w"
      refine w_newL (M := fun _ => False) (fun _ _ z => z) RpA.nil (Nat.zero_le _) fun v10 H10 s10 r10 => ?_
      walk_at "w"
      have e0 : (marksI (wordsL [] l)).filterMap (fun _ => (none : Option PyData)) = [] := List.filterMap_eq_nil_iff.mpr fun _ _ => rfl
      rw [e0] at r9
      refine w_eqI (m := []) (n := []) (r9.same s10) r10 ?_
      exact q _
    · walk_at "w"
      refine ⟨l, cnt, rfl, by omega, fun z => absurd z hno, fun _ H8 s8 => ?_⟩
      refine ⟨true, PySem.W.exm_ref T.b_ShelfError T.h_ShelfError T.t_ShelfError T.s_BadNote_ShelfError, fun _ ae ha => ?_, fun z => nomatch z⟩
      walk_at "w"
      refine w_isXR T.e_BadNote (kit_no T.h_BadMark T.t_BadMark T.s_BadNote_BadMark T.s_BadMark_BadMark) ?_
      walk_at "w"
      refine iteF ?_
      walk_at "w"
      refine w_isXR T.e_BadNote (kit_no T.h_BadCount T.t_BadCount T.s_BadNote_BadCount T.s_BadCount_BadCount) ?_
      walk_at "w"
      refine iteF ?_
      walk_at "w"
      refine w_isXR T.e_BadNote (kit_no T.h_NoKeeper T.t_NoKeeper T.s_BadNote_NoKeeper T.s_NoKeeper_NoKeeper) ?_
      walk_at "w"
      refine iteF ?_
      walk_at "w"
      refine ⟨rfl, ?_⟩
      walk_at "w"
      refine iteT ?_
      walk_at "w"
      refine w_isXR T.e_BadNote (kit_ref T.h_BadNote T.t_BadNote T.s_BadNote_BadNote fun _ => rfl) ?_
      walk_at "w"
      refine iteT ?_
      walk_at "w"
      refine w_isXV T.e_BadNote T.v_BadNote ?_
      exact q _
end
end Sb

namespace Sb
open PySem L2
set_option maxHeartbeats 16000000
theorem all_mk {l : PySem.W.OpenLaw} {w : World} {K : Frag} {h : Heap} {mg : Str → Option Value} {fa : Addr} (X : K.In h) (G : h.Ns mainGlobals mg) (hfa : mg "law" = some (.ref fa))
    {C_ShelfError C_BadCount C_NoKeeper C_BadMark C_BadNote f_written f_number_of f_read f_l_cell_at f_l_figures f_l_sign_by f_l_odd f_l_changed f_l_number f_l_due f_law : Addr}
    {od_written an_written od_number_of an_number_of od_read an_read od_l_cell_at an_l_cell_at od_l_figures an_l_figures od_l_sign_by an_l_sign_by od_l_odd an_l_odd od_l_changed an_l_changed od_l_number an_l_number od_l_due an_l_due od_law an_law : Option Addr}
    {sl_written sl_number_of sl_read sl_l_cell_at sl_l_figures sl_l_sign_by sl_l_odd sl_l_changed sl_l_number sl_l_due sl_law : Array (Option Value)}
    {oc_written kV_written dc_written pm_written cd_written ct_written oc_number_of kV_number_of dc_number_of pm_number_of cd_number_of ct_number_of oc_read kV_read dc_read pm_read cd_read ct_read oc_l_cell_at kV_l_cell_at dc_l_cell_at pm_l_cell_at cd_l_cell_at ct_l_cell_at oc_l_figures kV_l_figures dc_l_figures pm_l_figures cd_l_figures ct_l_figures oc_l_sign_by kV_l_sign_by dc_l_sign_by pm_l_sign_by cd_l_sign_by ct_l_sign_by oc_l_odd kV_l_odd dc_l_odd pm_l_odd cd_l_odd ct_l_odd oc_l_changed kV_l_changed dc_l_changed pm_l_changed cd_l_changed ct_l_changed oc_l_number kV_l_number dc_l_number pm_l_number cd_l_number ct_l_number oc_l_due kV_l_due dc_l_due pm_l_due cd_l_due ct_l_due oc_law kV_law dc_law pm_law cd_law ct_law : Value}
    (z_ValueError : PySem.W.nsIn K mainGlobals "ValueError" = some none)
    (z_bool : PySem.W.nsIn K mainGlobals "bool" = some none)
    (z_int : PySem.W.nsIn K mainGlobals "int" = some none)
    (z_isinstance : PySem.W.nsIn K mainGlobals "isinstance" = some none)
    (z_len : PySem.W.nsIn K mainGlobals "len" = some none)
    (z_max : PySem.W.nsIn K mainGlobals "max" = some none)
    (z_range : PySem.W.nsIn K mainGlobals "range" = some none)
    (z_str : PySem.W.nsIn K mainGlobals "str" = some none)
    (z_tuple : PySem.W.nsIn K mainGlobals "tuple" = some none)
    (c_FIGURES : ∃ t, PySem.W.nsIn K mainGlobals "FIGURES" = some (some (.str "0123456789" t)))
    (c_MOST_FIGURES : ∃ t, PySem.W.nsIn K mainGlobals "MOST_FIGURES" = some (some (.int 60 t)))
    (a_ShelfError : PySem.W.nsIn K mainGlobals "ShelfError" = some (some (.ref C_ShelfError)))
    (x_ShelfError : PySem.W.excIn K C_ShelfError [.type "ValueError", .type "Exception", .type "BaseException", .type "object"] "ValueError.__new__" = true)
    (k_ShelfError : PySem.W.keepIn K (.ref C_ShelfError) = true)
    (b_ShelfError : PySem.W.subIn K (.ref C_ShelfError) (.type "BaseException") = some true)
    (t_ShelfError : PySem.W.typeIn K (.ref C_ShelfError) = some (.type "type"))
    (a_BadCount : PySem.W.nsIn K mainGlobals "BadCount" = some (some (.ref C_BadCount)))
    (x_BadCount : PySem.W.excIn K C_BadCount [.type "ValueError", .type "Exception", .type "BaseException", .type "object"] "ValueError.__new__" = true)
    (k_BadCount : PySem.W.keepIn K (.ref C_BadCount) = true)
    (b_BadCount : PySem.W.subIn K (.ref C_BadCount) (.type "BaseException") = some true)
    (t_BadCount : PySem.W.typeIn K (.ref C_BadCount) = some (.type "type"))
    (a_NoKeeper : PySem.W.nsIn K mainGlobals "NoKeeper" = some (some (.ref C_NoKeeper)))
    (x_NoKeeper : PySem.W.excIn K C_NoKeeper [.type "ValueError", .type "Exception", .type "BaseException", .type "object"] "ValueError.__new__" = true)
    (k_NoKeeper : PySem.W.keepIn K (.ref C_NoKeeper) = true)
    (b_NoKeeper : PySem.W.subIn K (.ref C_NoKeeper) (.type "BaseException") = some true)
    (t_NoKeeper : PySem.W.typeIn K (.ref C_NoKeeper) = some (.type "type"))
    (a_BadMark : PySem.W.nsIn K mainGlobals "BadMark" = some (some (.ref C_BadMark)))
    (x_BadMark : PySem.W.excIn K C_BadMark [.type "ValueError", .type "Exception", .type "BaseException", .type "object"] "ValueError.__new__" = true)
    (k_BadMark : PySem.W.keepIn K (.ref C_BadMark) = true)
    (b_BadMark : PySem.W.subIn K (.ref C_BadMark) (.type "BaseException") = some true)
    (t_BadMark : PySem.W.typeIn K (.ref C_BadMark) = some (.type "type"))
    (a_BadNote : PySem.W.nsIn K mainGlobals "BadNote" = some (some (.ref C_BadNote)))
    (x_BadNote : PySem.W.excIn K C_BadNote [.type "ValueError", .type "Exception", .type "BaseException", .type "object"] "ValueError.__new__" = true)
    (k_BadNote : PySem.W.keepIn K (.ref C_BadNote) = true)
    (b_BadNote : PySem.W.subIn K (.ref C_BadNote) (.type "BaseException") = some true)
    (t_BadNote : PySem.W.typeIn K (.ref C_BadNote) = some (.type "type"))
    (ecn : PySem.W.specialIn K (.builtin "object.__class__") "__get__" = some (some (.builtin "getset_descriptor.__get__")))
    (ect : PySem.W.takesIn K (.builtin "object.__class__") = some true)
    (h_ShelfError : PySem.W.hasDictIn K C_ShelfError = true)
    (v_ShelfError : PySem.W.subIn K (.ref C_ShelfError) (.type "ValueError") = some true)
    (eg_ShelfError : PySem.W.findIn K (.ref C_ShelfError) "__getattribute__" = some (some (.builtin "BaseException.__getattribute__")))
    (ek_ShelfError : PySem.W.findIn K (.ref C_ShelfError) "__getattr__" = some none)
    (ea_ShelfError : PySem.W.findIn K (.ref C_ShelfError) "__class__" = some (some (.builtin "object.__class__")))
    (em_ShelfError : PySem.W.mroIn K C_ShelfError (.type "object") = some true)
    (s_ShelfError_ShelfError : PySem.W.subIn K (.ref C_ShelfError) (.ref C_ShelfError) = some true)
    (s_ShelfError_BadCount : PySem.W.subIn K (.ref C_ShelfError) (.ref C_BadCount) = some false)
    (s_ShelfError_NoKeeper : PySem.W.subIn K (.ref C_ShelfError) (.ref C_NoKeeper) = some false)
    (s_ShelfError_BadMark : PySem.W.subIn K (.ref C_ShelfError) (.ref C_BadMark) = some false)
    (s_ShelfError_BadNote : PySem.W.subIn K (.ref C_ShelfError) (.ref C_BadNote) = some false)
    (h_BadCount : PySem.W.hasDictIn K C_BadCount = true)
    (v_BadCount : PySem.W.subIn K (.ref C_BadCount) (.type "ValueError") = some true)
    (eg_BadCount : PySem.W.findIn K (.ref C_BadCount) "__getattribute__" = some (some (.builtin "BaseException.__getattribute__")))
    (ek_BadCount : PySem.W.findIn K (.ref C_BadCount) "__getattr__" = some none)
    (ea_BadCount : PySem.W.findIn K (.ref C_BadCount) "__class__" = some (some (.builtin "object.__class__")))
    (em_BadCount : PySem.W.mroIn K C_BadCount (.type "object") = some true)
    (s_BadCount_ShelfError : PySem.W.subIn K (.ref C_BadCount) (.ref C_ShelfError) = some true)
    (s_BadCount_BadCount : PySem.W.subIn K (.ref C_BadCount) (.ref C_BadCount) = some true)
    (s_BadCount_NoKeeper : PySem.W.subIn K (.ref C_BadCount) (.ref C_NoKeeper) = some false)
    (s_BadCount_BadMark : PySem.W.subIn K (.ref C_BadCount) (.ref C_BadMark) = some false)
    (s_BadCount_BadNote : PySem.W.subIn K (.ref C_BadCount) (.ref C_BadNote) = some false)
    (h_NoKeeper : PySem.W.hasDictIn K C_NoKeeper = true)
    (v_NoKeeper : PySem.W.subIn K (.ref C_NoKeeper) (.type "ValueError") = some true)
    (eg_NoKeeper : PySem.W.findIn K (.ref C_NoKeeper) "__getattribute__" = some (some (.builtin "BaseException.__getattribute__")))
    (ek_NoKeeper : PySem.W.findIn K (.ref C_NoKeeper) "__getattr__" = some none)
    (ea_NoKeeper : PySem.W.findIn K (.ref C_NoKeeper) "__class__" = some (some (.builtin "object.__class__")))
    (em_NoKeeper : PySem.W.mroIn K C_NoKeeper (.type "object") = some true)
    (s_NoKeeper_ShelfError : PySem.W.subIn K (.ref C_NoKeeper) (.ref C_ShelfError) = some true)
    (s_NoKeeper_BadCount : PySem.W.subIn K (.ref C_NoKeeper) (.ref C_BadCount) = some false)
    (s_NoKeeper_NoKeeper : PySem.W.subIn K (.ref C_NoKeeper) (.ref C_NoKeeper) = some true)
    (s_NoKeeper_BadMark : PySem.W.subIn K (.ref C_NoKeeper) (.ref C_BadMark) = some false)
    (s_NoKeeper_BadNote : PySem.W.subIn K (.ref C_NoKeeper) (.ref C_BadNote) = some false)
    (h_BadMark : PySem.W.hasDictIn K C_BadMark = true)
    (v_BadMark : PySem.W.subIn K (.ref C_BadMark) (.type "ValueError") = some true)
    (eg_BadMark : PySem.W.findIn K (.ref C_BadMark) "__getattribute__" = some (some (.builtin "BaseException.__getattribute__")))
    (ek_BadMark : PySem.W.findIn K (.ref C_BadMark) "__getattr__" = some none)
    (ea_BadMark : PySem.W.findIn K (.ref C_BadMark) "__class__" = some (some (.builtin "object.__class__")))
    (em_BadMark : PySem.W.mroIn K C_BadMark (.type "object") = some true)
    (s_BadMark_ShelfError : PySem.W.subIn K (.ref C_BadMark) (.ref C_ShelfError) = some true)
    (s_BadMark_BadCount : PySem.W.subIn K (.ref C_BadMark) (.ref C_BadCount) = some false)
    (s_BadMark_NoKeeper : PySem.W.subIn K (.ref C_BadMark) (.ref C_NoKeeper) = some false)
    (s_BadMark_BadMark : PySem.W.subIn K (.ref C_BadMark) (.ref C_BadMark) = some true)
    (s_BadMark_BadNote : PySem.W.subIn K (.ref C_BadMark) (.ref C_BadNote) = some false)
    (h_BadNote : PySem.W.hasDictIn K C_BadNote = true)
    (v_BadNote : PySem.W.subIn K (.ref C_BadNote) (.type "ValueError") = some true)
    (eg_BadNote : PySem.W.findIn K (.ref C_BadNote) "__getattribute__" = some (some (.builtin "BaseException.__getattribute__")))
    (ek_BadNote : PySem.W.findIn K (.ref C_BadNote) "__getattr__" = some none)
    (ea_BadNote : PySem.W.findIn K (.ref C_BadNote) "__class__" = some (some (.builtin "object.__class__")))
    (em_BadNote : PySem.W.mroIn K C_BadNote (.type "object") = some true)
    (s_BadNote_ShelfError : PySem.W.subIn K (.ref C_BadNote) (.ref C_ShelfError) = some true)
    (s_BadNote_BadCount : PySem.W.subIn K (.ref C_BadNote) (.ref C_BadCount) = some false)
    (s_BadNote_NoKeeper : PySem.W.subIn K (.ref C_BadNote) (.ref C_NoKeeper) = some false)
    (s_BadNote_BadMark : PySem.W.subIn K (.ref C_BadNote) (.ref C_BadMark) = some false)
    (s_BadNote_BadNote : PySem.W.subIn K (.ref C_BadNote) (.ref C_BadNote) = some true)
    (a_written : PySem.W.nsIn K mainGlobals "written" = some (some (.ref f_written)))
    (l_written : K.lookup f_written = some ⟨oc_written, od_written, .func (PySem.W.fnOf "written" "written" (defArgs s_written) (defBody s_written) (defScope s_written) .none kV_written dc_written pm_written an_written cd_written ct_written), sl_written⟩)
    (c_written : PySem.W.codeIn K cd_written "written" = true)
    (k_written : PySem.W.keepIn K (.ref f_written) = true)
    (a_number_of : PySem.W.nsIn K mainGlobals "number_of" = some (some (.ref f_number_of)))
    (l_number_of : K.lookup f_number_of = some ⟨oc_number_of, od_number_of, .func (PySem.W.fnOf "number_of" "number_of" (defArgs s_number_of) (defBody s_number_of) (defScope s_number_of) .none kV_number_of dc_number_of pm_number_of an_number_of cd_number_of ct_number_of), sl_number_of⟩)
    (c_number_of : PySem.W.codeIn K cd_number_of "number_of" = true)
    (k_number_of : PySem.W.keepIn K (.ref f_number_of) = true)
    (a_read : PySem.W.nsIn K mainGlobals "read" = some (some (.ref f_read)))
    (l_read : K.lookup f_read = some ⟨oc_read, od_read, .func (PySem.W.fnOf "read" "read" (defArgs s_read) (defBody s_read) (defScope s_read) .none kV_read dc_read pm_read an_read cd_read ct_read), sl_read⟩)
    (c_read : PySem.W.codeIn K cd_read "read" = true)
    (k_read : PySem.W.keepIn K (.ref f_read) = true)
    (a_l_cell_at : PySem.W.nsIn K mainGlobals "_law_cell_at" = some (some (.ref f_l_cell_at)))
    (l_l_cell_at : K.lookup f_l_cell_at = some ⟨oc_l_cell_at, od_l_cell_at, .func (PySem.W.fnOf "_law_cell_at" "_law_cell_at" (defArgs s_l_cell_at) (defBody s_l_cell_at) (defScope s_l_cell_at) .none kV_l_cell_at dc_l_cell_at pm_l_cell_at an_l_cell_at cd_l_cell_at ct_l_cell_at), sl_l_cell_at⟩)
    (c_l_cell_at : PySem.W.codeIn K cd_l_cell_at "_law_cell_at" = true)
    (k_l_cell_at : PySem.W.keepIn K (.ref f_l_cell_at) = true)
    (a_l_figures : PySem.W.nsIn K mainGlobals "_law_figures" = some (some (.ref f_l_figures)))
    (l_l_figures : K.lookup f_l_figures = some ⟨oc_l_figures, od_l_figures, .func (PySem.W.fnOf "_law_figures" "_law_figures" (defArgs s_l_figures) (defBody s_l_figures) (defScope s_l_figures) .none kV_l_figures dc_l_figures pm_l_figures an_l_figures cd_l_figures ct_l_figures), sl_l_figures⟩)
    (c_l_figures : PySem.W.codeIn K cd_l_figures "_law_figures" = true)
    (k_l_figures : PySem.W.keepIn K (.ref f_l_figures) = true)
    (a_l_sign_by : PySem.W.nsIn K mainGlobals "_law_sign_by" = some (some (.ref f_l_sign_by)))
    (l_l_sign_by : K.lookup f_l_sign_by = some ⟨oc_l_sign_by, od_l_sign_by, .func (PySem.W.fnOf "_law_sign_by" "_law_sign_by" (defArgs s_l_sign_by) (defBody s_l_sign_by) (defScope s_l_sign_by) .none kV_l_sign_by dc_l_sign_by pm_l_sign_by an_l_sign_by cd_l_sign_by ct_l_sign_by), sl_l_sign_by⟩)
    (c_l_sign_by : PySem.W.codeIn K cd_l_sign_by "_law_sign_by" = true)
    (k_l_sign_by : PySem.W.keepIn K (.ref f_l_sign_by) = true)
    (a_l_odd : PySem.W.nsIn K mainGlobals "_law_odd" = some (some (.ref f_l_odd)))
    (l_l_odd : K.lookup f_l_odd = some ⟨oc_l_odd, od_l_odd, .func (PySem.W.fnOf "_law_odd" "_law_odd" (defArgs s_l_odd) (defBody s_l_odd) (defScope s_l_odd) .none kV_l_odd dc_l_odd pm_l_odd an_l_odd cd_l_odd ct_l_odd), sl_l_odd⟩)
    (c_l_odd : PySem.W.codeIn K cd_l_odd "_law_odd" = true)
    (k_l_odd : PySem.W.keepIn K (.ref f_l_odd) = true)
    (a_l_changed : PySem.W.nsIn K mainGlobals "_law_changed" = some (some (.ref f_l_changed)))
    (l_l_changed : K.lookup f_l_changed = some ⟨oc_l_changed, od_l_changed, .func (PySem.W.fnOf "_law_changed" "_law_changed" (defArgs s_l_changed) (defBody s_l_changed) (defScope s_l_changed) .none kV_l_changed dc_l_changed pm_l_changed an_l_changed cd_l_changed ct_l_changed), sl_l_changed⟩)
    (c_l_changed : PySem.W.codeIn K cd_l_changed "_law_changed" = true)
    (k_l_changed : PySem.W.keepIn K (.ref f_l_changed) = true)
    (a_l_number : PySem.W.nsIn K mainGlobals "_law_number" = some (some (.ref f_l_number)))
    (l_l_number : K.lookup f_l_number = some ⟨oc_l_number, od_l_number, .func (PySem.W.fnOf "_law_number" "_law_number" (defArgs s_l_number) (defBody s_l_number) (defScope s_l_number) .none kV_l_number dc_l_number pm_l_number an_l_number cd_l_number ct_l_number), sl_l_number⟩)
    (c_l_number : PySem.W.codeIn K cd_l_number "_law_number" = true)
    (k_l_number : PySem.W.keepIn K (.ref f_l_number) = true)
    (a_l_due : PySem.W.nsIn K mainGlobals "_law_due" = some (some (.ref f_l_due)))
    (l_l_due : K.lookup f_l_due = some ⟨oc_l_due, od_l_due, .func (PySem.W.fnOf "_law_due" "_law_due" (defArgs s_l_due) (defBody s_l_due) (defScope s_l_due) .none kV_l_due dc_l_due pm_l_due an_l_due cd_l_due ct_l_due), sl_l_due⟩)
    (c_l_due : PySem.W.codeIn K cd_l_due "_law_due" = true)
    (k_l_due : PySem.W.keepIn K (.ref f_l_due) = true)
    (a_law : PySem.W.nsIn K mainGlobals "law" = some (some (.ref f_law)))
    (l_law : K.lookup f_law = some ⟨oc_law, od_law, .func (PySem.W.fnOf "law" "law" (defArgs s_law) (defBody s_law) (defScope s_law) .none kV_law dc_law pm_law an_law cd_law ct_law), sl_law⟩)
    (c_law : PySem.W.codeIn K cd_law "law" = true)
    (k_law : PySem.W.keepIn K (.ref f_law) = true) :
    ∃ fd : FuncData, (∀ (s : Shared) (v : Value), BindsTo s fd ⟨[v], []⟩ [("_law_script", v)]) ∧ ∀ base : Heap, K.In base → base.Ns mainGlobals mg → FnOk l.prog w K mg base (L2.CX l.prog w) 3 fa fd ["_law_script"] (sp_law K) := by
  have e := hfa.symm.trans (PySem.W.mg_of X G a_law)
  cases e
  have T : Txt K mg ⟨C_ShelfError, C_BadCount, C_NoKeeper, C_BadMark, C_BadNote, f_written, PySem.W.fnOf "written" "written" (defArgs s_written) (defBody s_written) (defScope s_written) .none kV_written dc_written pm_written an_written cd_written ct_written, f_number_of, PySem.W.fnOf "number_of" "number_of" (defArgs s_number_of) (defBody s_number_of) (defScope s_number_of) .none kV_number_of dc_number_of pm_number_of an_number_of cd_number_of ct_number_of, f_read, PySem.W.fnOf "read" "read" (defArgs s_read) (defBody s_read) (defScope s_read) .none kV_read dc_read pm_read an_read cd_read ct_read, f_l_cell_at, PySem.W.fnOf "_law_cell_at" "_law_cell_at" (defArgs s_l_cell_at) (defBody s_l_cell_at) (defScope s_l_cell_at) .none kV_l_cell_at dc_l_cell_at pm_l_cell_at an_l_cell_at cd_l_cell_at ct_l_cell_at, f_l_figures, PySem.W.fnOf "_law_figures" "_law_figures" (defArgs s_l_figures) (defBody s_l_figures) (defScope s_l_figures) .none kV_l_figures dc_l_figures pm_l_figures an_l_figures cd_l_figures ct_l_figures, f_l_sign_by, PySem.W.fnOf "_law_sign_by" "_law_sign_by" (defArgs s_l_sign_by) (defBody s_l_sign_by) (defScope s_l_sign_by) .none kV_l_sign_by dc_l_sign_by pm_l_sign_by an_l_sign_by cd_l_sign_by ct_l_sign_by, f_l_odd, PySem.W.fnOf "_law_odd" "_law_odd" (defArgs s_l_odd) (defBody s_l_odd) (defScope s_l_odd) .none kV_l_odd dc_l_odd pm_l_odd an_l_odd cd_l_odd ct_l_odd, f_l_changed, PySem.W.fnOf "_law_changed" "_law_changed" (defArgs s_l_changed) (defBody s_l_changed) (defScope s_l_changed) .none kV_l_changed dc_l_changed pm_l_changed an_l_changed cd_l_changed ct_l_changed, f_l_number, PySem.W.fnOf "_law_number" "_law_number" (defArgs s_l_number) (defBody s_l_number) (defScope s_l_number) .none kV_l_number dc_l_number pm_l_number an_l_number cd_l_number ct_l_number, f_l_due, PySem.W.fnOf "_law_due" "_law_due" (defArgs s_l_due) (defBody s_l_due) (defScope s_l_due) .none kV_l_due dc_l_due pm_l_due an_l_due cd_l_due ct_l_due, fa, PySem.W.fnOf "law" "law" (defArgs s_law) (defBody s_law) (defScope s_law) .none kV_law dc_law pm_law an_law cd_law ct_law⟩ := {
    n_ValueError := PySem.W.mg_none_of X G z_ValueError,
    n_bool := PySem.W.mg_none_of X G z_bool,
    n_int := PySem.W.mg_none_of X G z_int,
    n_isinstance := PySem.W.mg_none_of X G z_isinstance,
    n_len := PySem.W.mg_none_of X G z_len,
    n_max := PySem.W.mg_none_of X G z_max,
    n_range := PySem.W.mg_none_of X G z_range,
    n_str := PySem.W.mg_none_of X G z_str,
    n_tuple := PySem.W.mg_none_of X G z_tuple,
    g_FIGURES := c_FIGURES.elim fun t h => ⟨t, PySem.W.mg_of X G h⟩,
    g_MOST_FIGURES := c_MOST_FIGURES.elim fun t h => ⟨t, PySem.W.mg_of X G h⟩,
    g_ShelfError := PySem.W.mg_of X G a_ShelfError,
    x_ShelfError := x_ShelfError,
    k_ShelfError := k_ShelfError,
    b_ShelfError := b_ShelfError,
    t_ShelfError := t_ShelfError,
    h_ShelfError := h_ShelfError,
    v_ShelfError := v_ShelfError,
    e_ShelfError := ⟨eg_ShelfError, ek_ShelfError, b_ShelfError, h_ShelfError, ea_ShelfError, ecn, ect, em_ShelfError⟩,
    s_ShelfError_ShelfError := s_ShelfError_ShelfError,
    s_ShelfError_BadCount := s_ShelfError_BadCount,
    s_ShelfError_NoKeeper := s_ShelfError_NoKeeper,
    s_ShelfError_BadMark := s_ShelfError_BadMark,
    s_ShelfError_BadNote := s_ShelfError_BadNote,
    g_BadCount := PySem.W.mg_of X G a_BadCount,
    x_BadCount := x_BadCount,
    k_BadCount := k_BadCount,
    b_BadCount := b_BadCount,
    t_BadCount := t_BadCount,
    h_BadCount := h_BadCount,
    v_BadCount := v_BadCount,
    e_BadCount := ⟨eg_BadCount, ek_BadCount, b_BadCount, h_BadCount, ea_BadCount, ecn, ect, em_BadCount⟩,
    s_BadCount_ShelfError := s_BadCount_ShelfError,
    s_BadCount_BadCount := s_BadCount_BadCount,
    s_BadCount_NoKeeper := s_BadCount_NoKeeper,
    s_BadCount_BadMark := s_BadCount_BadMark,
    s_BadCount_BadNote := s_BadCount_BadNote,
    g_NoKeeper := PySem.W.mg_of X G a_NoKeeper,
    x_NoKeeper := x_NoKeeper,
    k_NoKeeper := k_NoKeeper,
    b_NoKeeper := b_NoKeeper,
    t_NoKeeper := t_NoKeeper,
    h_NoKeeper := h_NoKeeper,
    v_NoKeeper := v_NoKeeper,
    e_NoKeeper := ⟨eg_NoKeeper, ek_NoKeeper, b_NoKeeper, h_NoKeeper, ea_NoKeeper, ecn, ect, em_NoKeeper⟩,
    s_NoKeeper_ShelfError := s_NoKeeper_ShelfError,
    s_NoKeeper_BadCount := s_NoKeeper_BadCount,
    s_NoKeeper_NoKeeper := s_NoKeeper_NoKeeper,
    s_NoKeeper_BadMark := s_NoKeeper_BadMark,
    s_NoKeeper_BadNote := s_NoKeeper_BadNote,
    g_BadMark := PySem.W.mg_of X G a_BadMark,
    x_BadMark := x_BadMark,
    k_BadMark := k_BadMark,
    b_BadMark := b_BadMark,
    t_BadMark := t_BadMark,
    h_BadMark := h_BadMark,
    v_BadMark := v_BadMark,
    e_BadMark := ⟨eg_BadMark, ek_BadMark, b_BadMark, h_BadMark, ea_BadMark, ecn, ect, em_BadMark⟩,
    s_BadMark_ShelfError := s_BadMark_ShelfError,
    s_BadMark_BadCount := s_BadMark_BadCount,
    s_BadMark_NoKeeper := s_BadMark_NoKeeper,
    s_BadMark_BadMark := s_BadMark_BadMark,
    s_BadMark_BadNote := s_BadMark_BadNote,
    g_BadNote := PySem.W.mg_of X G a_BadNote,
    x_BadNote := x_BadNote,
    k_BadNote := k_BadNote,
    b_BadNote := b_BadNote,
    t_BadNote := t_BadNote,
    h_BadNote := h_BadNote,
    v_BadNote := v_BadNote,
    e_BadNote := ⟨eg_BadNote, ek_BadNote, b_BadNote, h_BadNote, ea_BadNote, ecn, ect, em_BadNote⟩,
    s_BadNote_ShelfError := s_BadNote_ShelfError,
    s_BadNote_BadCount := s_BadNote_BadCount,
    s_BadNote_NoKeeper := s_BadNote_NoKeeper,
    s_BadNote_BadMark := s_BadNote_BadMark,
    s_BadNote_BadNote := s_BadNote_BadNote,
    F_written := fun_mk (st := s_written) l_written c_written k_written,
    b_written := (fun_mk (st := s_written) l_written c_written k_written).binds fun _ _ _ _ _ _ us hl => match us, hl with | [_], _ => rfl,
    k_written := k_written,
    g_written := PySem.W.mg_of X G a_written,
    F_number_of := fun_mk (st := s_number_of) l_number_of c_number_of k_number_of,
    b_number_of := (fun_mk (st := s_number_of) l_number_of c_number_of k_number_of).binds fun _ _ _ _ _ _ us hl => match us, hl with | [_], _ => rfl,
    k_number_of := k_number_of,
    g_number_of := PySem.W.mg_of X G a_number_of,
    F_read := fun_mk (st := s_read) l_read c_read k_read,
    b_read := (fun_mk (st := s_read) l_read c_read k_read).binds fun _ _ _ _ _ _ us hl => match us, hl with | [_, _], _ => rfl,
    k_read := k_read,
    g_read := PySem.W.mg_of X G a_read,
    F_l_cell_at := fun_mk (st := s_l_cell_at) l_l_cell_at c_l_cell_at k_l_cell_at,
    b_l_cell_at := (fun_mk (st := s_l_cell_at) l_l_cell_at c_l_cell_at k_l_cell_at).binds fun _ _ _ _ _ _ us hl => match us, hl with | [_, _], _ => rfl,
    k_l_cell_at := k_l_cell_at,
    g_l_cell_at := PySem.W.mg_of X G a_l_cell_at,
    F_l_figures := fun_mk (st := s_l_figures) l_l_figures c_l_figures k_l_figures,
    b_l_figures := (fun_mk (st := s_l_figures) l_l_figures c_l_figures k_l_figures).binds fun _ _ _ _ _ _ us hl => match us, hl with | [_], _ => rfl,
    k_l_figures := k_l_figures,
    g_l_figures := PySem.W.mg_of X G a_l_figures,
    F_l_sign_by := fun_mk (st := s_l_sign_by) l_l_sign_by c_l_sign_by k_l_sign_by,
    b_l_sign_by := (fun_mk (st := s_l_sign_by) l_l_sign_by c_l_sign_by k_l_sign_by).binds fun _ _ _ _ _ _ us hl => match us, hl with | [_], _ => rfl,
    k_l_sign_by := k_l_sign_by,
    g_l_sign_by := PySem.W.mg_of X G a_l_sign_by,
    F_l_odd := fun_mk (st := s_l_odd) l_l_odd c_l_odd k_l_odd,
    b_l_odd := (fun_mk (st := s_l_odd) l_l_odd c_l_odd k_l_odd).binds fun _ _ _ _ _ _ us hl => match us, hl with | [_], _ => rfl,
    k_l_odd := k_l_odd,
    g_l_odd := PySem.W.mg_of X G a_l_odd,
    F_l_changed := fun_mk (st := s_l_changed) l_l_changed c_l_changed k_l_changed,
    b_l_changed := (fun_mk (st := s_l_changed) l_l_changed c_l_changed k_l_changed).binds fun _ _ _ _ _ _ us hl => match us, hl with | [_, _, _, _], _ => rfl,
    k_l_changed := k_l_changed,
    g_l_changed := PySem.W.mg_of X G a_l_changed,
    F_l_number := fun_mk (st := s_l_number) l_l_number c_l_number k_l_number,
    b_l_number := (fun_mk (st := s_l_number) l_l_number c_l_number k_l_number).binds fun _ _ _ _ _ _ us hl => match us, hl with | [_], _ => rfl,
    k_l_number := k_l_number,
    g_l_number := PySem.W.mg_of X G a_l_number,
    F_l_due := fun_mk (st := s_l_due) l_l_due c_l_due k_l_due,
    b_l_due := (fun_mk (st := s_l_due) l_l_due c_l_due k_l_due).binds fun _ _ _ _ _ _ us hl => match us, hl with | [_, _], _ => rfl,
    k_l_due := k_l_due,
    g_l_due := PySem.W.mg_of X G a_l_due,
    F_law := fun_mk (st := s_law) l_law c_law k_law,
    b_law := (fun_mk (st := s_law) l_law c_law k_law).binds fun _ _ _ _ _ _ us hl => match us, hl with | [_], _ => rfl,
    k_law := k_law,
    g_law := PySem.W.mg_of X G a_law }
  exact ⟨_, fun s v => .of_eq rfl, fun base _ _ => ok_law T⟩

theorem walk {l : PySem.W.OpenLaw} {q : Program} {loose : List Str} {XP : (Str → Option Value) → Heap → Prop} {YP : World → Heap → Prop} {d : DefRec} {K : Params → Frag} (hn : l.most = some 63) (hdf : d.params.defaults = [])
    (hY : ∀ (w : World) (h : Heap), YP w h → (K w.params).In h)
    (F : ∀ (w : World) (mg : Str → Option Value) (fa : Addr) (h : Heap), (K w.params).In h → h.Ns mainGlobals mg → mg d.name = some (.ref fa) →
      ∃ fd : FuncData, (∀ (s : Shared) (u : Value), BindsTo s fd ⟨[u], []⟩ [("_law_script", u)]) ∧ ∀ base : Heap, (K w.params).In base → base.Ns mainGlobals mg → FnOk l.prog w (K w.params) mg base (L2.CX l.prog w) 3 fa fd ["_law_script"] (sp_law (K w.params))) :
    PySem.W.WalkO q loose XP YP l.row.toRowW d [] (fun f vs => PySem.call f vs) :=
  L2.walk_of (n := 63) (k := 3) (x := "_law_script") (CX := fun w => L2.CX l.prog w) (sp := fun w => sp_law (K w.params)) hn (by decide) hdf ⟨rfl, by decide, by decide⟩ hY F (fun _ _ a ns hl _ hS => ⟨a, ns, rfl, hS, hl, fun _ => rfl⟩) fun _ _ _ _ _ z => by
    obtain ⟨_, _, _, _, _, _, _, _, _, _, _, _, z⟩ := z
    exact z
end Sb
open PySem PySem.W PyProof.Rows
set_option maxRecDepth 100000 in
set_option maxHeartbeats 0 in
theorem PySem.Challenge.cw_siblingshelf_k02_marks_written_holds : PySem.Challenge.rw_siblingshelf_k02_marks_written.Holds := by
  w_on; o_law; k_head; (case hw => w_witness2)
  k_fill
  refine Sb.walk (l := PySem.Challenge.rw_siblingshelf_k02_marks_written) rfl rfl (fun w h Y => PySem.W.kIn_of Y) ?F
  case F =>
    intro w mg fa h KX G hmg
    refine' Sb.all_mk KX G hmg ?z_ValueError ?z_bool ?z_int ?z_isinstance ?z_len ?z_max ?z_range ?z_str ?z_tuple ?c_FIGURES ?c_MOST_FIGURES ?a_ShelfError ?x_ShelfError ?k_ShelfError ?b_ShelfError ?t_ShelfError ?a_BadCount ?x_BadCount ?k_BadCount ?b_BadCount ?t_BadCount ?a_NoKeeper ?x_NoKeeper ?k_NoKeeper ?b_NoKeeper ?t_NoKeeper ?a_BadMark ?x_BadMark ?k_BadMark ?b_BadMark ?t_BadMark ?a_BadNote ?x_BadNote ?k_BadNote ?b_BadNote ?t_BadNote ?ecn ?ect ?h_ShelfError ?v_ShelfError ?eg_ShelfError ?ek_ShelfError ?ea_ShelfError ?em_ShelfError ?s_ShelfError_ShelfError ?s_ShelfError_BadCount ?s_ShelfError_NoKeeper ?s_ShelfError_BadMark ?s_ShelfError_BadNote ?h_BadCount ?v_BadCount ?eg_BadCount ?ek_BadCount ?ea_BadCount ?em_BadCount ?s_BadCount_ShelfError ?s_BadCount_BadCount ?s_BadCount_NoKeeper ?s_BadCount_BadMark ?s_BadCount_BadNote ?h_NoKeeper ?v_NoKeeper ?eg_NoKeeper ?ek_NoKeeper ?ea_NoKeeper ?em_NoKeeper ?s_NoKeeper_ShelfError ?s_NoKeeper_BadCount ?s_NoKeeper_NoKeeper ?s_NoKeeper_BadMark ?s_NoKeeper_BadNote ?h_BadMark ?v_BadMark ?eg_BadMark ?ek_BadMark ?ea_BadMark ?em_BadMark ?s_BadMark_ShelfError ?s_BadMark_BadCount ?s_BadMark_NoKeeper ?s_BadMark_BadMark ?s_BadMark_BadNote ?h_BadNote ?v_BadNote ?eg_BadNote ?ek_BadNote ?ea_BadNote ?em_BadNote ?s_BadNote_ShelfError ?s_BadNote_BadCount ?s_BadNote_NoKeeper ?s_BadNote_BadMark ?s_BadNote_BadNote ?a_written ?l_written ?c_written ?k_written ?a_number_of ?l_number_of ?c_number_of ?k_number_of ?a_read ?l_read ?c_read ?k_read ?a_l_cell_at ?l_l_cell_at ?c_l_cell_at ?k_l_cell_at ?a_l_figures ?l_l_figures ?c_l_figures ?k_l_figures ?a_l_sign_by ?l_l_sign_by ?c_l_sign_by ?k_l_sign_by ?a_l_odd ?l_l_odd ?c_l_odd ?k_l_odd ?a_l_changed ?l_l_changed ?c_l_changed ?k_l_changed ?a_l_number ?l_l_number ?c_l_number ?k_l_number ?a_l_due ?l_l_due ?c_l_due ?k_l_due ?a_law ?l_law ?c_law ?k_law
    (case z_ValueError => k_is)
    (case z_bool => k_is)
    (case z_int => k_is)
    (case z_isinstance => k_is)
    (case z_len => k_is)
    (case z_max => k_is)
    (case z_range => k_is)
    (case z_str => k_is)
    (case z_tuple => k_is)
    (case c_FIGURES => exact ⟨_, by k_is⟩)
    (case c_MOST_FIGURES => exact ⟨_, by k_is⟩)
    (case a_ShelfError => k_is)
    (case x_ShelfError => k_exc)
    (case k_ShelfError => k_is)
    (case b_ShelfError => k_is)
    (case t_ShelfError => k_is)
    (case a_BadCount => k_is)
    (case x_BadCount => k_exc)
    (case k_BadCount => k_is)
    (case b_BadCount => k_is)
    (case t_BadCount => k_is)
    (case a_NoKeeper => k_is)
    (case x_NoKeeper => k_exc)
    (case k_NoKeeper => k_is)
    (case b_NoKeeper => k_is)
    (case t_NoKeeper => k_is)
    (case a_BadMark => k_is)
    (case x_BadMark => k_exc)
    (case k_BadMark => k_is)
    (case b_BadMark => k_is)
    (case t_BadMark => k_is)
    (case a_BadNote => k_is)
    (case x_BadNote => k_exc)
    (case k_BadNote => k_is)
    (case b_BadNote => k_is)
    (case t_BadNote => k_is)
    (case ecn => k_is)
    (case ect => k_is)
    (case h_ShelfError => k_is)
    (case v_ShelfError => k_is)
    (case eg_ShelfError => k_is)
    (case ek_ShelfError => k_is)
    (case ea_ShelfError => k_is)
    (case em_ShelfError => k_is)
    (case s_ShelfError_ShelfError => k_is)
    (case s_ShelfError_BadCount => k_is)
    (case s_ShelfError_NoKeeper => k_is)
    (case s_ShelfError_BadMark => k_is)
    (case s_ShelfError_BadNote => k_is)
    (case h_BadCount => k_is)
    (case v_BadCount => k_is)
    (case eg_BadCount => k_is)
    (case ek_BadCount => k_is)
    (case ea_BadCount => k_is)
    (case em_BadCount => k_is)
    (case s_BadCount_ShelfError => k_is)
    (case s_BadCount_BadCount => k_is)
    (case s_BadCount_NoKeeper => k_is)
    (case s_BadCount_BadMark => k_is)
    (case s_BadCount_BadNote => k_is)
    (case h_NoKeeper => k_is)
    (case v_NoKeeper => k_is)
    (case eg_NoKeeper => k_is)
    (case ek_NoKeeper => k_is)
    (case ea_NoKeeper => k_is)
    (case em_NoKeeper => k_is)
    (case s_NoKeeper_ShelfError => k_is)
    (case s_NoKeeper_BadCount => k_is)
    (case s_NoKeeper_NoKeeper => k_is)
    (case s_NoKeeper_BadMark => k_is)
    (case s_NoKeeper_BadNote => k_is)
    (case h_BadMark => k_is)
    (case v_BadMark => k_is)
    (case eg_BadMark => k_is)
    (case ek_BadMark => k_is)
    (case ea_BadMark => k_is)
    (case em_BadMark => k_is)
    (case s_BadMark_ShelfError => k_is)
    (case s_BadMark_BadCount => k_is)
    (case s_BadMark_NoKeeper => k_is)
    (case s_BadMark_BadMark => k_is)
    (case s_BadMark_BadNote => k_is)
    (case h_BadNote => k_is)
    (case v_BadNote => k_is)
    (case eg_BadNote => k_is)
    (case ek_BadNote => k_is)
    (case ea_BadNote => k_is)
    (case em_BadNote => k_is)
    (case s_BadNote_ShelfError => k_is)
    (case s_BadNote_BadCount => k_is)
    (case s_BadNote_NoKeeper => k_is)
    (case s_BadNote_BadMark => k_is)
    (case s_BadNote_BadNote => k_is)
    (case a_written => k_is)
    (case l_written => k_is)
    (case c_written => k_is)
    (case k_written => k_is)
    (case a_number_of => k_is)
    (case l_number_of => k_is)
    (case c_number_of => k_is)
    (case k_number_of => k_is)
    (case a_read => k_is)
    (case l_read => k_is)
    (case c_read => k_is)
    (case k_read => k_is)
    (case a_l_cell_at => k_is)
    (case l_l_cell_at => k_is)
    (case c_l_cell_at => k_is)
    (case k_l_cell_at => k_is)
    (case a_l_figures => k_is)
    (case l_l_figures => k_is)
    (case c_l_figures => k_is)
    (case k_l_figures => k_is)
    (case a_l_sign_by => k_is)
    (case l_l_sign_by => k_is)
    (case c_l_sign_by => k_is)
    (case k_l_sign_by => k_is)
    (case a_l_odd => k_is)
    (case l_l_odd => k_is)
    (case c_l_odd => k_is)
    (case k_l_odd => k_is)
    (case a_l_changed => k_is)
    (case l_l_changed => k_is)
    (case c_l_changed => k_is)
    (case k_l_changed => k_is)
    (case a_l_number => k_is)
    (case l_l_number => k_is)
    (case c_l_number => k_is)
    (case k_l_number => k_is)
    (case a_l_due => k_is)
    (case l_l_due => k_is)
    (case c_l_due => k_is)
    (case k_l_due => k_is)
    (case a_law => k_is)
    (case l_law => k_is)
    (case c_law => k_is)
    (case k_law => k_is)
#print axioms PySem.Challenge.cw_siblingshelf_k02_marks_written_holds


