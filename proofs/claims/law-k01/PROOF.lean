import PyProof.Rows.All
import Wide.All
import OpenK.AllK
import Wide.FinOn
import HandS.ForMost
import HandS.ForExc
import HandS.Wide
import HandS.IsInst
import HandS.RevRange
import HandS.Zip
import HandS.Deep
import HandS.Conv
import HandS.Rev
import PySem.Challenge.RW_countboard_k01_worths
set_option Elab.async false
set_option linter.all false
set_option maxRecDepth 100000
set_option maxHeartbeats 4000000
namespace CB
open PySem
def top (i : Nat) : Stmt := PySem.Challenge.pw_countboard_k01_worths.main.body.getD i (.Pass ⟨0, 0, 0, 0⟩)
end CB
namespace CB
open PySem PySem.Spec PyProof.Rows L2
/-! ### a def that stands at its name and keeps its promise; the built-in names; the classes of errors -/
structure Callee (P : Program) (w : World) (K : PySem.W.Frag) (mg : Str → Option Value) (base : Heap) (k : Nat) (x : Str) (ps : List Str) (sp : Sp) : Prop where
  ex : ∃ (f : Addr) (fd : FuncData), FnOk P w K mg base (L2.CX P w) k f fd ps sp ∧ mg x = some (.ref f) ∧ PySem.W.keepIn K (.ref f) = true ∧ Binds K fd ps []
def ErA (mg : Str → Option Value) (x : Str) : Addr := match mg x with
  | some (.ref a) => a
  | _ => 0
structure Er (K : PySem.W.Frag) (mg : Str → Option Value) (x : Str) : Prop where
  gC : mg x = some (.ref (ErA mg x))
  xP : PySem.W.excIn K (ErA mg x) [.type "ValueError", .type "Exception", .type "BaseException", .type "object"] "ValueError.__new__" = true
  kP : PySem.W.keepIn K (.ref (ErA mg x)) = true
  bP : PySem.W.subIn K (.ref (ErA mg x)) (.type "BaseException") = some true
  tP : PySem.W.typeIn K (.ref (ErA mg x)) = some (.type "type")
theorem er_mk {K : PySem.W.Frag} {mg : Str → Option Value} {x : Str} {C : Addr} (g : mg x = some (.ref C)) (x1 : PySem.W.excIn K C [.type "ValueError", .type "Exception", .type "BaseException", .type "object"] "ValueError.__new__" = true)
    (k : PySem.W.keepIn K (.ref C) = true) (b : PySem.W.subIn K (.ref C) (.type "BaseException") = some true) (t : PySem.W.typeIn K (.ref C) = some (.type "type")) : Er K mg x := by
  have e : ErA mg x = C := by unfold ErA; rw [g]
  exact ⟨by rw [e]; exact g, by rw [e]; exact x1, by rw [e]; exact k, by rw [e]; exact b, by rw [e]; exact t⟩
structure Bi (mg : Str → Option Value) : Prop where
  len : mg "len" = none
  list : mg "list" = none
  range : mg "range" = none
  isinstance : mg "isinstance" = none
  zip : mg "zip" = none
  reversed : mg "reversed" = none
  sum : mg "sum" = none
  all : mg "all" = none
  abs : mg "abs" = none
  max : mg "max" = none
  min : mg "min" = none
  str : mg "str" = none
  int : mg "int" = none
  bool : mg "bool" = none
  tuple : mg "tuple" = none
section
variable {X : Cx}
theorem pe_f {W : WX} {j k : Nat} {x : Str} {ps : List Str} {sp : Sp} {e : Expr} {es : List Expr} {t : TA} {p pos : Pos} (c : Callee X.prog X.w X.K X.mg X.base k x ps sp) (hr : Room j X.A) (hk : k ≤ j) (tk : Takes X W)
    (ha : PA X (e :: es) t) (hg : Gl X x := by rfl) (hdb : (x == ("__debug__" : Str)) = false := by decide) (he : starEach (e :: es) X.env = (false, eval e X.env) :: starEach es X.env := by rfl) (hpl : (backTo pos (starEach es X.env)).any (·.1) = false := by rfl) :
    PE X (.Call (.Name x p) (e :: es) [] pos) (tCallS sp (WE W) t) := by
  obtain ⟨f, fd, F, hm, hkp, hb⟩ := c
  exact pe_callS F (hr.mono hk) hg hm hkp hb (fun σ => passAt tk σ) ha hdb he hpl
end
theorem Callee.mk' {P : Program} {w : World} {K : PySem.W.Frag} {mg : Str → Option Value} {base : Heap} {k : Nat} {x : Str} {ps : List Str} {sp : Sp} {f : Addr} {fd : FuncData} (F : FnOk P w K mg base (L2.CX P w) k f fd ps sp) (hm : mg x = some (.ref f)) (hk : PySem.W.keepIn K (.ref f) = true) (hb : Binds K fd ps []) :
    Callee P w K mg base k x ps sp := ⟨f, fd, F, hm, hk, hb⟩
/-! ### what a def tells: a number, a truth, a text, a new list -/
def TellV (H : Hp) (Q : VK) (v : V) : Prop := ∀ H', Same H H' → Q v H'
def TellL (H : Hp) (Q : VK) (xs : List V) : Prop := ∀ (H' : Hp) (p : Addr), Same H H' → H p = none → H' p = some (.lst xs) → Q (.ref p) H'
def Raise (mg : Str → Option Value) (x : Str) (H : Hp) (E : XK) : Prop := ∀ H', Same H H' → E (.ref (ErA mg x)) none H'
theorem same_upd {H : Hp} {p : Addr} {o : HO} (h : H p = none) : Same H (upd H p o) := fun b u e => by
  rw [upd_ne (ne_of_none e h)]
  exact e
theorem get_map {xs : List Int} {i : Nat} {x : V} (h : (xs.map V.int)[i]? = some x) : ∃ z, xs[i]? = some z ∧ x = .int z := by
  rw [List.getElem?_map] at h
  cases e : xs[i]? with
  | none => rw [e] at h; cases h
  | some z => rw [e] at h; exact ⟨z, rfl, (Option.some.inj h).symm⟩
theorem map_get {xs : List Int} {i : Nat} {z : Int} (h : xs[i]? = some z) : (xs.map V.int)[i]? = some (.int z) := by
  rw [List.getElem?_map, h]
  all_goals rfl
theorem ix_of {n : Nat} {z : Int} {j : Nat} (e : z = (j : Int)) (h : j < n) : ixN n z = some j := by
  subst e
  unfold ixN
  rw [if_pos (by omega), if_pos (by omega), Int.toNat_natCast]
theorem take_more {α : Type} {l : List α} {i : Nat} {x : α} (h : l[i]? = some x) : l.take (i + 1) = l.take i ++ [x] := by
  rw [List.take_add_one, h]
  all_goals rfl
theorem small64 {n : Nat} (h : n ≤ 100000) : n < sizeLine := Nat.lt_of_le_of_lt h (by decide)
theorem small64' {n : Nat} (h : n ≤ 100000) : n ≤ sizeLine := Nat.le_of_lt (small64 h)
theorem ite_t {A B : Prop} {c : Bool} (hc : c = true) (h : A) : if c = true then A else B := by
  rw [if_pos hc]
  exact h
theorem ite_f {A B : Prop} {c : Bool} (hc : c = false) (h : B) : if c = true then A else B := by
  rw [hc, if_neg Bool.false_ne_true]
  exact h
end CB
namespace CB
open PySem PySem.Spec PyProof.Rows L2
/-! ### the mathematics: worths -/
def prodL (l : List Int) : Int := l.foldl (· * ·) 1
def worthsL (rs : List Int) : List Int := (List.range (rs.length + 1)).map fun k => prodL (rs.take k)
theorem prodL_snoc (l : List Int) (r : Int) : prodL (l ++ [r]) = prodL l * r := by
  unfold prodL
  rw [List.foldl_append]
  rfl
theorem foldl_mul (l : List Int) (x : Int) : l.foldl (· * ·) x = x * l.foldl (· * ·) 1 := by
  induction l generalizing x with
  | nil => simp
  | cons a l ih =>
    rw [List.foldl_cons, List.foldl_cons, ih (x * a), ih (1 * a), Int.one_mul, Int.mul_assoc]
theorem prodL_cons (r : Int) (l : List Int) : prodL (r :: l) = r * prodL l := by
  unfold prodL
  rw [List.foldl_cons, Int.one_mul, foldl_mul]
theorem prodL_bound {l : List Int} (h : ∀ r ∈ l, 2 ≤ r ∧ r ≤ 12) : 1 ≤ prodL l ∧ prodL l ≤ ((12 ^ l.length : Nat) : Int) := by
  induction l with
  | nil => exact ⟨by decide, by decide⟩
  | cons a l ih =>
    obtain ⟨h1, h2⟩ := ih fun r hr => h r (List.mem_cons_of_mem _ hr)
    obtain ⟨h3, h4⟩ := h a List.mem_cons_self
    rw [prodL_cons, List.length_cons, Nat.pow_succ, Nat.mul_comm, Int.natCast_mul]
    refine ⟨?_, ?_⟩
    · have := Int.mul_le_mul (show (1 : Int) ≤ a by omega) h1 (by decide) (by omega)
      omega
    · exact Int.mul_le_mul h4 h2 (by omega) (by decide)
theorem prodL_lt {l : List Int} (h : ∀ r ∈ l, 2 ≤ r ∧ r ≤ 12) (hl : l.length ≤ 11) : 1 ≤ prodL l ∧ prodL l < 2 ^ 40 := by
  obtain ⟨h1, h2⟩ := prodL_bound h
  refine ⟨h1, ?_⟩
  have h3 : 12 ^ l.length ≤ 12 ^ 11 := Nat.pow_le_pow_right (by decide) hl
  have h4 : 12 ^ 11 < 2 ^ 40 := by decide
  omega
theorem abs_lt_pow {z : Int} {n : Nat} (h0 : 0 ≤ z) (h : z < 2 ^ n) : z.natAbs < 2 ^ n := by
  have e : (z.natAbs : Int) = z := Int.natAbs_of_nonneg h0
  have : (z.natAbs : Int) < ((2 ^ n : Nat) : Int) := by
    rw [e]
    simpa using h
  omega
end CB
namespace CB
open PySem PySem.Spec PyProof.Rows L2
/-! ### equality of lists of numbers, of lists of such, of lists of steps -/
def dL (xs : List Int) : PyData := .list (xs.map .int)
def dStep (p : Int × Bool) : PyData := .tuple [.int p.1, .bool p.2]
theorem layAll {ds : List PyData} {n : Nat} (h : ∀ d ∈ ds, d.canLay0 = true ∧ d.depth ≤ n) : PyData.canLayAll0 ds = true ∧ PyData.depthAll ds ≤ n := by
  induction ds with
  | nil => exact ⟨rfl, by simp [PyData.depthAll]⟩
  | cons d ds ih =>
    obtain ⟨h1, h2⟩ := ih fun x hx => h x (List.mem_cons_of_mem _ hx)
    obtain ⟨h3, h4⟩ := h d List.mem_cons_self
    refine ⟨by simp [PyData.canLayAll0, h1, h3], ?_⟩
    simp only [PyData.depthAll]
    omega
theorem lay_int (i : Int) : (PyData.int i).canLay0 = true ∧ (PyData.int i).depth ≤ 0 := ⟨by simp [PyData.canLay0], by simp [PyData.depth]⟩
theorem lay_list {ds : List PyData} {n : Nat} (h : ∀ d ∈ ds, d.canLay0 = true ∧ d.depth ≤ n) : (PyData.list ds).canLay0 = true ∧ (PyData.list ds).depth ≤ n + 1 := by
  obtain ⟨h1, h2⟩ := layAll h
  refine ⟨by simpa [PyData.canLay0] using h1, ?_⟩
  simp only [PyData.depth]
  omega
theorem lay_dL (xs : List Int) : (dL xs).canLay0 = true ∧ (dL xs).depth ≤ 1 := lay_list (n := 0) fun d hd => by
  obtain ⟨i, _, rfl⟩ := List.mem_map.mp hd
  exact lay_int i
theorem lay_dStep (p : Int × Bool) : (dStep p).canLay0 = true ∧ (dStep p).depth ≤ 1 := ⟨by simp [dStep, PyData.canLay0, PyData.canLayAll0], by simp [dStep, PyData.depth, PyData.depthAll]⟩
theorem shaped_of {d : PyData} {n : Nat} (h : d.canLay0 = true ∧ d.depth ≤ n) (hn : n ≤ 64) : SeqAt.shaped d = true := by
  unfold SeqAt.shaped
  rw [h.1, Bool.true_and]
  exact decide_eq_true (Nat.le_trans h.2 hn)
theorem shaped_dL (xs : List Int) : SeqAt.shaped (dL xs) = true := shaped_of (lay_dL xs) (by decide)
theorem shaped_dLL (xss : List (List Int)) : SeqAt.shaped (.list (xss.map dL)) = true := shaped_of (lay_list (n := 1) fun d hd => by
  obtain ⟨xs, _, rfl⟩ := List.mem_map.mp hd
  exact lay_dL xs) (by decide)
theorem shaped_dStep (p : Int × Bool) : SeqAt.shaped (dStep p) = true := shaped_of (lay_dStep p) (by decide)
theorem shaped_dLT (ps : List (Int × Bool)) : SeqAt.shaped (.list (ps.map dStep)) = true := shaped_of (lay_list (n := 1) fun d hd => by
  obtain ⟨p, _, rfl⟩ := List.mem_map.mp hd
  exact lay_dStep p) (by decide)
theorem eqvAll_map {α : Type} [DecidableEq α] {f : α → PyData} (h : ∀ a b, PyData.eqv (f a) (f b) = decide (a = b)) : ∀ xs ys : List α, PyData.eqvAll (xs.map f) (ys.map f) = decide (xs = ys)
  | [], [] => by simp [PyData.eqvAll]
  | [], _ :: _ => by simp [PyData.eqvAll]
  | _ :: _, [] => by simp [PyData.eqvAll]
  | x :: xs, y :: ys => by
    simp only [List.map_cons, PyData.eqvAll, h, eqvAll_map h xs ys]
    by_cases e1 : x = y <;> by_cases e2 : xs = ys <;> simp [e1, e2]
theorem eqv_int (a b : Int) : PyData.eqv (.int a) (.int b) = decide (a = b) := by simp only [PyData.eqv]; exact Bool.beq_eq_decide_eq _ _
theorem eqv_dL (xs ys : List Int) : PyData.eqv (dL xs) (dL ys) = decide (xs = ys) := by
  unfold dL
  simp only [PyData.eqv]
  exact eqvAll_map eqv_int xs ys
theorem eqv_dLL (xs ys : List (List Int)) : PyData.eqv (.list (xs.map dL)) (.list (ys.map dL)) = decide (xs = ys) := by
  simp only [PyData.eqv]
  exact eqvAll_map eqv_dL xs ys
theorem eqv_dStep (p q : Int × Bool) : PyData.eqv (dStep p) (dStep q) = decide (p = q) := by
  obtain ⟨a, b⟩ := p
  obtain ⟨c, d⟩ := q
  unfold dStep
  simp only [PyData.eqv, PyData.eqvAll, Bool.and_true]
  by_cases e1 : a = c <;> by_cases e2 : b = d <;> simp [e1, e2]
theorem eqv_dLT (xs ys : List (Int × Bool)) : PyData.eqv (.list (xs.map dStep)) (.list (ys.map dStep)) = decide (xs = ys) := by
  simp only [PyData.eqv]
  exact eqvAll_map eqv_dStep xs ys
section
variable {K : PySem.W.Frag} {H : Hp}
theorem dpAll_int : ∀ xs : List Int, DpAll K H (xs.map V.int) (xs.map PyData.int)
  | [] => .nil
  | x :: xs => .cons (.int x) (dpAll_int xs)
theorem dp_L {a : Addr} {xs : List Int} (h : SqL K H a (xs.map V.int)) : Dp K H (.ref a) (dL xs) := .lst h (dpAll_int xs)
theorem dp_L2 {a p q : Addr} {xs ys : List Int} (h : SqL K H a [.ref p, .ref q]) (hp : SqL K H p (xs.map V.int)) (hq : SqL K H q (ys.map V.int)) : Dp K H (.ref a) (.list ([xs, ys].map dL)) :=
  .lst h (.cons (dp_L hp) (.cons (dp_L hq) .nil))
theorem dp_L3 {a p q r : Addr} {xs ys zs : List Int} (h : SqL K H a [.ref p, .ref q, .ref r]) (hp : SqL K H p (xs.map V.int)) (hq : SqL K H q (ys.map V.int)) (hr : SqL K H r (zs.map V.int)) : Dp K H (.ref a) (.list ([xs, ys, zs].map dL)) :=
  .lst h (.cons (dp_L hp) (.cons (dp_L hq) (.cons (dp_L hr) .nil)))
end
end CB
namespace CB
open PySem PySem.Spec PyProof.Rows L2
abbrev s_asked_frame : Stmt := top 5
abbrev N_asked_frame : List Str := ["ratios", "ratio"]
theorem sc_asked_frame : FnScope N_asked_frame ["ratios"] (defScope s_asked_frame) := ⟨rfl, rfl, rfl, by decide +kernel, rfl, by decide +kernel, by decide +kernel⟩
end CB

namespace CB
open PySem PySem.Spec PyProof.Rows L2
/-- what a frame is -/
def GF (rs : List Int) : Prop := rs.length ≤ 11 ∧ ∀ r ∈ rs, 2 ≤ r ∧ r ≤ 12
def sp_asked_frame (K : PySem.W.Frag) (mg : Str → Option Value) : Sp := fun vs H Q E => ∃ (a : Addr) (rs : List Int), vs = [.ref a] ∧ SqL K H a (rs.map V.int) ∧
  (GF rs → Q .non H) ∧ (¬ GF rs → E (.ref (ErA mg "NoFrame")) none H)
section
variable {P : Program} {w : World} {K : PySem.W.Frag} {mg : Str → Option Value} {base : Heap}
theorem ok_asked_frame {f : Addr} {fd : FuncData} (F : Fun K "asked_frame" "asked_frame" s_asked_frame f fd) (B : Bi mg) (m_MOST : ∃ t, mg "MOST" = some (.int 11 t)) (e_NoFrame : Er K mg "NoFrame") :
    FnOk P w K mg base (L2.CX P w) 1 f fd ["ratios"] (sp_asked_frame K mg) := by
  obtain ⟨tM, m_MOST⟩ := m_MOST
  refine F.okX sc_asked_frame (fun vs H Q E h => ?_) (fun cdv A outer s H vs Q E hr h => ?_)
  · obtain ⟨a, rs, rfl, _⟩ := h
    rfl
  · obtain ⟨a, rs, rfl, hS, kG, kB⟩ := h
    have tk : Takes (cxOf (L2.CX P w) P w K mg base N_asked_frame "asked_frame" (defScope s_asked_frame) f cdv A outer s H E) (fun cls d _ H => E cls d H) := takes_of rfl rfl rfl rfl
    refine ⟨_, (pss_cons (ps_if (pt_cmpR op_gt (pe_callB call_len_seq (by rfl) B.len PySem.boot_len (pa_cons (pv 0) pa_nil)) (pe_glob (v := .int 11) (by rfl) m_MOST ⟨_, rfl⟩) (nomark _)) (pss_one (ps_raise rfl tk (pmk_own PySem.F.excBase_ValueError e_NoFrame.xP e_NoFrame.gC e_NoFrame.kP (raises_own e_NoFrame.bP e_NoFrame.tP) (by rfl)))) pss_nil)
  (pss_one (ps_for (passes_of rfl) rfl (pi_list (pv 0)) (pg_name (i := 1) sc_asked_frame.nd rfl (Or.inl rfl)) (pss_one (ps_if (pw_or (pt_cmpR op_lt (pv 1) pe_int (nomark _)) (pw_or1 (pt_cmpR op_gt (pv 1) pe_int (nomark _)))).pt (pss_one (ps_raise rfl tk (pmk_own PySem.F.excBase_ValueError e_NoFrame.xP e_NoFrame.gC e_NoFrame.kP (raises_own e_NoFrame.bP e_NoFrame.tP) (by rfl)))) pss_nil))))), ?_⟩
    refine ⟨_, rfl, a, _, rfl, .inl hS, _, _, rfl, rfl, _, rfl, ite2 (fun e => ?_) (fun e => ?_)⟩
    · refine kB fun g => ?_
      have e1 := of_decide_eq_true e
      rw [List.length_map] at e1
      have := g.1
      omega
    · have hl : rs.length ≤ 11 := by
        have e1 : ¬ (11 < ((rs.map V.int).length : Int)) := fun z => e (decide_eq_true z)
        rw [List.length_map] at e1
        omega
      refine ⟨_, rfl, a, rfl, ⟨_, hS⟩, for_list (K := K) (a := a) (xs := rs.map V.int) (fun i σ H' => ∃ v, σ = [some (.ref a), v] ∧ H' = H ∧ ∀ (j : Nat) (r : Int), j < i → rs[j]? = some r → 2 ≤ r ∧ r ≤ 12)
        ⟨none, rfl, rfl, fun j r hj => absurd hj (Nat.not_lt_zero _)⟩ (fun i σ H' _ ⟨_, _, e, _⟩ => by rw [e]; exact hS) ?_ ?_⟩
      · rintro i y σ H' hi ⟨v, rfl, rfl, hg⟩
        obtain ⟨z, hz, rfl⟩ := get_map hi
        have bad : ¬ (2 ≤ z ∧ z ≤ 12) → ¬ GF rs := fun h g => h (g.2 z (List.mem_of_getElem? hz))
        refine ⟨_, rfl, _, _, rfl, rfl, _, rfl, ite2 (fun e => ?_) (fun e => ?_)⟩
        · refine ite_t rfl (kB (bad ?_))
          have := of_decide_eq_true e
          omega
        · have h1 : ¬ z < 2 := fun q => e (decide_eq_true q)
          refine ⟨_, rfl, _, _, rfl, rfl, _, rfl, ite2 (fun e2 => ?_) (fun e2 => ?_)⟩
          · refine kB (bad ?_)
            have := of_decide_eq_true e2
            omega
          · have h2 : ¬ 12 < z := fun q => e2 (decide_eq_true q)
            refine ⟨_, rfl, rfl, fun j r hj hr => ?_⟩
            rcases Nat.lt_succ_iff_lt_or_eq.mp hj with q | q
            · exact hg j r q hr
            · subst q
              rw [hz] at hr
              cases hr
              omega
      · rintro σ H' ⟨v, rfl, rfl, hg⟩
        rw [List.length_map] at hg
        refine kG ⟨hl, fun r hr => ?_⟩
        obtain ⟨j, hj, e⟩ := List.getElem_of_mem hr
        exact hg j r hj (by rw [List.getElem?_eq_getElem hj, e])
end
end CB
namespace CB
open PySem PySem.Spec PyProof.Rows L2
abbrev s_worths : Stmt := top 6
abbrev N_worths : List Str := ["ratios", "found", "ratio"]
theorem sc_worths : FnScope N_worths ["ratios"] (defScope s_worths) := ⟨rfl, rfl, rfl, by decide +kernel, rfl, by decide +kernel, by decide +kernel⟩
end CB

namespace CB
open PySem PySem.Spec PyProof.Rows L2
def sp_worths (K : PySem.W.Frag) (mg : Str → Option Value) : Sp := fun vs H Q E => ∃ (a : Addr) (rs : List Int), vs = [.ref a] ∧ SqL K H a (rs.map V.int) ∧
  (GF rs → TellL H Q ((worthsL rs).map V.int)) ∧ (¬ GF rs → E (.ref (ErA mg "NoFrame")) none H)
theorem worths_take (rs : List Int) (i : Nat) (h : i ≤ rs.length) : worthsL (rs.take i) = (List.range i).map (fun k => prodL (rs.take k)) ++ [prodL (rs.take i)] := by
  unfold worthsL
  rw [List.length_take, Nat.min_eq_left h, List.range_succ, List.map_append]
  congr 1
  · refine List.map_congr_left fun k hk => ?_
    rw [List.take_take, Nat.min_eq_left (Nat.le_of_lt (List.mem_range.mp hk))]
  · rw [List.map_singleton, List.take_take, Nat.min_self]
theorem worths_more (rs : List Int) (i : Nat) (r : Int) (h : rs[i]? = some r) : worthsL (rs.take (i + 1)) = worthsL (rs.take i) ++ [prodL (rs.take i) * r] := by
  obtain ⟨hi, _⟩ := List.getElem?_eq_some_iff.mp h
  rw [worths_take rs (i + 1) hi, worths_take rs i (Nat.le_of_lt hi), List.range_succ, List.map_append, List.map_singleton, take_more h, prodL_snoc]
theorem worths_len (rs : List Int) : (worthsL rs).length = rs.length + 1 := by
  unfold worthsL
  rw [List.length_map, List.length_range]
section
variable {P : Program} {w : World} {K : PySem.W.Frag} {mg : Str → Option Value} {base : Heap}
theorem ok_worths {f : Addr} {fd : FuncData} (F : Fun K "worths" "worths" s_worths f fd) (B : Bi mg) (c_asked_frame : Callee P w K mg base 1 "asked_frame" ["ratios"] (sp_asked_frame K mg)) :
    FnOk P w K mg base (L2.CX P w) 2 f fd ["ratios"] (sp_worths K mg) := by
  refine F.okX sc_worths (fun vs H Q E h => ?_) (fun cdv A outer s H vs Q E hr h => ?_)
  · obtain ⟨a, rs, rfl, _⟩ := h
    rfl
  · obtain ⟨a, rs, rfl, hS, kG, kB⟩ := h
    have tk : Takes (cxOf (L2.CX P w) P w K mg base N_worths "worths" (defScope s_worths) f cdv A outer s H E) (fun cls d _ H => E cls d H) := takes_of rfl rfl rfl rfl
    refine ⟨_, (pss_cons (ps_expr (pe_f c_asked_frame hr (by decide) tk (pa_cons (pv 0) pa_nil)))
  (pss_cons (ps_set (i := 1) sc_worths.nd rfl (Or.inl rfl) (pe_lst (pa_cons pe_int pa_nil)))
  (pss_cons (ps_for (passes_of rfl) rfl (pi_list (pv 0)) (pg_name (i := 2) sc_worths.nd rfl (Or.inl rfl)) (pss_one (ps_expr (pe_bm PySem.F.plainAttrs_list PySem.F.slot_list_append PySem.F.type_list_append mt_append (pv 1) (pa_cons (pe_op op_mulW (pe_ix ix_list (pv 1) (pe_un un_neg pe_int) (fun _ _ => rfl)) (pv 2)) pa_nil)))))
  (pss_one (ps_ret (pv 1)))))), ?_⟩
    refine ⟨.ref a, rfl, a, rs, rfl, hS, fun g => ?_, kB⟩
    refine ⟨by show 1 ≤ sizeLine; decide, fun p hp => ?_⟩
    have hpa : SqL K (upd H p (.lst [.int 1])) a (rs.map V.int) := (same_upd hp).seq hS
    refine ⟨_, rfl, a, rfl, ⟨_, hpa⟩, for_list (K := K) (a := a) (xs := rs.map V.int) (fun i σ H' => ∃ v, σ = [some (.ref a), some (.ref p), v] ∧ Same H H' ∧ H' p = some (.lst ((worthsL (rs.take i)).map V.int)))
        ⟨none, rfl, same_upd hp, upd_same⟩ (fun i σ H' _ ⟨_, _, e, _⟩ => e.seq hS) ?_ ?_⟩
    · rintro i y σ H' hi ⟨v, rfl, sm, hp'⟩
      obtain ⟨z, hz, rfl⟩ := get_map hi
      obtain ⟨hil, _⟩ := List.getElem?_eq_some_iff.mp hz
      have hil' : i ≤ 11 := by have := g.1; omega
      have e1 : (worthsL (rs.take i)).map V.int = ((List.range i).map (fun k => prodL (rs.take k))).map V.int ++ [.int (prodL (rs.take i))] := by
        rw [worths_take rs i (Nat.le_of_lt hil), List.map_append]
        all_goals rfl
      have gz := g.2 z (List.mem_of_getElem? hz)
      have gp := prodL_lt (l := rs.take i) (fun r hr => g.2 r (List.mem_of_mem_take hr)) (by rw [List.length_take]; omega)
      refine ⟨_, rfl, .inl ⟨rfl, _, SqL.of hp'⟩, _, rfl, _, rfl, p, _, -1, .int (prodL (rs.take i)), rfl, rfl, SqL.of hp', by rw [e1]; exact atI_last _ _, .int z, rfl, _, _, rfl, rfl, ?_, p, _, _, rfl, rfl, hp', ?_, ?_⟩
      · exact wide_mul (a := 40) (b := 40) (abs_lt_pow (by omega) gp.2) (abs_lt_pow (by omega) (by omega)) (by decide) (by decide) (by decide)
      · rw [List.length_map, worths_len, List.length_take]
        exact small64 (by omega)
      · refine ⟨some (.int z), rfl, fun b o e => ?_, ?_⟩
        · rw [upd_ne (ne_of_none e hp)]
          exact sm b o e
        · rw [upd_same, worths_more rs i z hz, List.map_append]
          all_goals rfl
    · rintro σ H' ⟨v, rfl, sm, hp'⟩
      rw [List.length_map, List.take_length] at hp'
      exact ⟨_, rfl, kG g H' p sm hp hp'⟩
end
end CB
namespace CB
open PySem PySem.Spec PyProof.Rows L2
abbrev s_law_cell_at : Stmt := top 8
abbrev N_law_cell_at : List Str := ["script", "k"]
theorem sc_law_cell_at : FnScope N_law_cell_at ["script", "k"] (defScope s_law_cell_at) := ⟨rfl, rfl, rfl, by decide +kernel, rfl, by decide +kernel, by decide +kernel⟩
end CB

namespace CB
open PySem PySem.Spec PyProof.Rows L2
def cell (ns : List Int) (k : Int) : Int := ns.getD k.toNat 0
def sp_law_cell_at (K : PySem.W.Frag) (_ : Str → Option Value) : Sp := fun vs H Q _ => ∃ (a : Addr) (ns : List Int) (k : Int), vs = [.ref a, .int k] ∧ SqL K H a (ns.map V.int) ∧ 0 ≤ k ∧ Q (.int (cell ns k)) H
section
variable {P : Program} {w : World} {K : PySem.W.Frag} {mg : Str → Option Value} {base : Heap}
theorem ok_law_cell_at {f : Addr} {fd : FuncData} (F : Fun K "_law_cell_at" "_law_cell_at" s_law_cell_at f fd) (B : Bi mg) : FnOk P w K mg base (L2.CX P w) 1 f fd ["script", "k"] (sp_law_cell_at K mg) := by
  refine F.okX sc_law_cell_at (fun vs H Q E h => ?_) (fun cdv A outer s H vs Q E hr h => ?_)
  · obtain ⟨a, ns, k, rfl, _⟩ := h
    rfl
  · obtain ⟨a, ns, k, rfl, hS, h0, q⟩ := h
    refine ⟨_, (pss_cons (ps_if (pt_cmpR op_lt (pv 1) (pe_callB call_len_seq (by rfl) B.len PySem.boot_len (pa_cons (pv 0) pa_nil)) (nomark _)) (pss_one (ps_ret (pe_ix ix_list (pv 0) (pv 1) (fun _ _ => rfl)))) pss_nil)
  (pss_one (ps_ret pe_int))), ?_⟩
    refine ⟨_, rfl, _, rfl, a, _, rfl, .inl hS, _, _, rfl, rfl, _, rfl, ite2 (fun e => ?_) (fun e => ?_)⟩
    · have e1 := of_decide_eq_true e
      rw [List.length_map] at e1
      have hk : k.toNat < ns.length := by omega
      refine ⟨_, rfl, _, rfl, a, _, _, .int (cell ns k), rfl, rfl, hS, ?_, q⟩
      refine at_of (j := k.toNat) (by omega) (map_get ?_)
      unfold cell
      rw [List.getElem?_eq_getElem hk, List.getD_eq_getElem?_getD, List.getElem?_eq_getElem hk]
      all_goals rfl
    · have hk : ¬ k.toNat < ns.length := fun z => e (decide_eq_true (by rw [List.length_map]; omega))
      have e0 : cell ns k = 0 := by
        unfold cell
        rw [List.getD_eq_getElem?_getD, List.getElem?_eq_none (by omega)]
        all_goals rfl
      rw [e0] at q
      exact q
end
end CB
namespace CB
open PySem PySem.Spec PyProof.Rows L2
abbrev s_law_whole : Stmt := top 9
abbrev N_law_whole : List Str := ["found"]
theorem sc_law_whole : FnScope N_law_whole ["found"] (defScope s_law_whole) := ⟨rfl, rfl, rfl, by decide +kernel, rfl, by decide +kernel, by decide +kernel⟩
end CB

namespace CB
open PySem PySem.Spec PyProof.Rows L2
def sp_law_whole (_ : PySem.W.Frag) (_ : Str → Option Value) : Sp := fun vs H Q _ => ∃ (k : Int), vs = [.int k] ∧ Q (.bl true) H
section
variable {P : Program} {w : World} {K : PySem.W.Frag} {mg : Str → Option Value} {base : Heap}
theorem ok_law_whole {f : Addr} {fd : FuncData} (F : Fun K "_law_whole" "_law_whole" s_law_whole f fd) (B : Bi mg) : FnOk P w K mg base (L2.CX P w) 1 f fd ["found"] (sp_law_whole K mg) := by
  refine F.okX sc_law_whole (fun vs H Q E h => ?_) (fun cdv A outer s H vs Q E hr h => ?_)
  · obtain ⟨k, rfl, _⟩ := h
    rfl
  · obtain ⟨k, rfl, q⟩ := h
    refine ⟨_, (pss_one (ps_ret (pe_and (pe_callB call_isi (by rfl) B.isinstance (by decide +kernel) (pa_cons (pv 0) (pa_cons (pe_bltn (v := .ty "int") (by rfl) B.int (by decide +kernel) rfl) pa_nil))) (pe_one (pe_not (pe_callB call_isi (by rfl) B.isinstance (by decide +kernel) (pa_cons (pv 0) (pa_cons (pe_bltn (v := .ty "bool") (by rfl) B.bool (by decide +kernel) rfl) pa_nil)))))))), ?_⟩
    refine ⟨_, rfl, _, _, .type "int", _, true, rfl, .ty _, .base (.int _), kit_ty (by decide +kernel), _, rfl, ite_t rfl ?_⟩
    exact ⟨_, rfl, _, _, .type "int", _, false, rfl, .ty _, .base (.int _), kit_ty (by decide +kernel), _, rfl, q⟩
end
end CB
namespace CB
open PySem PySem.Spec PyProof.Rows L2
abbrev s_law_frame_by : Stmt := top 10
abbrev N_law_frame_by : List Str := ["script", "lines", "k"]
theorem sc_law_frame_by : FnScope N_law_frame_by ["script"] (defScope s_law_frame_by) := ⟨rfl, rfl, rfl, by decide +kernel, rfl, by decide +kernel, by decide +kernel⟩
end CB

namespace CB
open PySem PySem.Spec PyProof.Rows L2
def sp_law_frame_by (K : PySem.W.Frag) (_ : Str → Option Value) : Sp := fun vs H Q _ => ∃ (a : Addr) (ns : List Int), vs = [.ref a] ∧ SqL K H a (ns.map V.int) ∧ ∀ rs : List Int, GF rs → TellL H Q (rs.map V.int)
theorem frame_gf (g : Nat → Int) (n : Nat) (hn : n ≤ 11) : GF ((List.range n).map fun i => 2 + g i % 11) := by
  refine ⟨by rw [List.length_map, List.length_range]; exact hn, fun r hr => ?_⟩
  obtain ⟨i, _, rfl⟩ := List.mem_map.mp hr
  omega
section
variable {P : Program} {w : World} {K : PySem.W.Frag} {mg : Str → Option Value} {base : Heap}
theorem ok_law_frame_by {f : Addr} {fd : FuncData} (F : Fun K "_law_frame_by" "_law_frame_by" s_law_frame_by f fd) (B : Bi mg) (c_law_cell_at : Callee P w K mg base 1 "_law_cell_at" ["script", "k"] (sp_law_cell_at K mg)) :
    FnOk P w K mg base (L2.CX P w) 2 f fd ["script"] (sp_law_frame_by K mg) := by
  refine F.okX sc_law_frame_by (fun vs H Q E h => ?_) (fun cdv A outer s H vs Q E hr h => ?_)
  · obtain ⟨a, ns, rfl, _⟩ := h
    rfl
  · obtain ⟨a, ns, rfl, hS, k⟩ := h
    refine ⟨_, (pss_cons (ps_set (i := 1) sc_law_frame_by.nd rfl (Or.inl rfl) (pe_op op_mod (pe_f c_law_cell_at hr (by decide) takes0 (pa_cons (pv 0) (pa_cons pe_int pa_nil))) pe_int))
  (pss_cons (ps_if (pt_cmpR op_eq (pe_op op_mod (pe_op op_fdiv (pe_f c_law_cell_at hr (by decide) takes0 (pa_cons (pv 0) (pa_cons pe_int pa_nil))) pe_int) pe_int) pe_int (nomark _)) (pss_one (ps_set (i := 1) sc_law_frame_by.nd rfl (Or.inl rfl) (pe_op op_mod (pe_op op_fdiv (pe_f c_law_cell_at hr (by decide) takes0 (pa_cons (pv 0) (pa_cons pe_int pa_nil))) pe_int) pe_int))) pss_nil)
  (pss_one (ps_ret (pe_lc (own := [("k", 2)]) (g := gName 2) (tt := tYes) rfl sc_law_frame_by.nd (pi_range1 (by rfl) B.range (pa_cons (pv 1) pa_nil)) (blkOk_by (own := [("k", 2)]) (N := N_law_frame_by) (sc := defScope s_law_frame_by) (by decide +kernel)) (fun _ _ _ _ _ => pg_name (i := 2) sc_law_frame_by.nd rfl (Or.inl rfl)) (fun _ _ _ _ _ => pts_nil) (fun _ _ _ _ _ => (pe_op op_add pe_int (pe_op op_mod (pe_f c_law_cell_at hr (by decide) takes0 (pa_cons (pv 0) (pa_cons (pe_op op_add pe_int (pv 2)) pa_nil))) pe_int)))))))), ?_⟩
    -- the tail, whatever lines is
    have tail : ∀ (z : Int), 0 ≤ z → z ≤ 11 → tRet (tLc (iRng1 (tCons (tVar 1) tNil)) (gName 2) tYes (tOp (rI0 fun i j => .int (i + j)) (tC (.int 2)) (tOp (rI (fun _ j => 0 < j) fun i j => .int (i % j)) (tCallS (sp_law_cell_at K mg) (WE fun _ _ _ _ => False) (tCons (tVar 0) (tCons (tOp (rI0 fun i j => .int (i + j)) (tC (.int 2)) (tVar 2)) tNil))) (tC (.int 11)))) [2])
        { nx := fun _ H' => Q .non H', rt := Q } [some (.ref a), some (.int z), none] H := by
      intro z h0 h1
      refine ⟨_, rfl, _, rfl, by omega, by omega, fun D hD => ?_⟩
      refine lc_range (lo := 0) (n := z.toNat) (fun i H' => Same H H' ∧ H' D = some (.lst (((List.range i).map fun j : Nat => 2 + cell ns (2 + (0 + (j : Int))) % 11).map V.int))) ⟨same_upd hD, upd_same⟩ ?_ ?_
      · rintro i H' hi ⟨sm, hD'⟩
        refine ⟨rfl, .ref a, rfl, _, rfl, _, _, rfl, rfl, a, ns, _, rfl, sm.seq hS, by omega, _, _, rfl, rfl, (show (0 : Int) < 11 by decide), _, _, rfl, rfl, _, hD', ?_, fun b o e => ?_, ?_⟩
        · rw [List.length_map, List.length_map, List.length_range]
          exact small64 (by omega)
        · rw [upd_ne (ne_of_none e hD)]
          exact sm b o e
        · rw [upd_same, List.range_succ, List.map_append, List.map_append]
          all_goals rfl
      · rintro H' ⟨sm, hD'⟩
        exact k _ (frame_gf (fun j => cell ns (2 + (0 + (j : Int)))) z.toNat (by omega)) H' D sm hD hD'
    refine ⟨.ref a, rfl, a, ns, 0, rfl, hS, by decide, _, _, rfl, rfl, (show (0 : Int) < 6 by decide), ?_⟩
    refine ⟨.ref a, rfl, a, ns, 0, rfl, hS, by decide, _, _, rfl, rfl, ⟨by decide, by decide⟩, _, _, rfl, rfl, (show (0 : Int) < 4 by decide), rfl, _, rfl, ite2 (fun _ => ?_) (fun _ => ?_)⟩
    · refine ⟨.ref a, rfl, a, ns, 0, rfl, hS, by decide, _, _, rfl, rfl, ⟨by decide, by decide⟩, _, _, rfl, rfl, (show (0 : Int) < 12 by decide), ?_⟩
      exact tail _ (by omega) (by omega)
    · exact tail _ (by omega) (by omega)
end
end CB
namespace CB
open PySem PySem.Spec PyProof.Rows L2
abbrev s_law_is_list : Stmt := top 11
abbrev N_law_is_list : List Str := ["found", "due", "k"]
theorem sc_law_is_list : FnScope N_law_is_list ["found", "due"] (defScope s_law_is_list) := ⟨rfl, rfl, rfl, by decide +kernel, rfl, by decide +kernel, by decide +kernel⟩
end CB

namespace CB
open PySem PySem.Spec PyProof.Rows L2
def sp_law_is_list (K : PySem.W.Frag) (_ : Str → Option Value) : Sp := fun vs H Q _ => ∃ (a b : Addr) (xs : List Int), vs = [.ref a, .ref b] ∧ H a = some (.lst (xs.map V.int)) ∧ SqL K H b (xs.map V.int) ∧ xs.length ≤ 100000 ∧ Q (.bl true) H
section
variable {P : Program} {w : World} {K : PySem.W.Frag} {mg : Str → Option Value} {base : Heap}
theorem ok_law_is_list {f : Addr} {fd : FuncData} (F : Fun K "_law_is_list" "_law_is_list" s_law_is_list f fd) (B : Bi mg) (c_law_whole : Callee P w K mg base 1 "_law_whole" ["found"] (sp_law_whole K mg)) :
    FnOk P w K mg base (L2.CX P w) 2 f fd ["found", "due"] (sp_law_is_list K mg) := by
  refine F.okX sc_law_is_list (fun vs H Q E h => ?_) (fun cdv A outer s H vs Q E hr h => ?_)
  · obtain ⟨a, b, xs, rfl, _⟩ := h
    rfl
  · obtain ⟨a, b, xs, rfl, hA, hB, hl, q⟩ := h
    refine ⟨_, (pss_cons (ps_if (pw_or (pt_not (pt_val (pe_callB call_isi (by rfl) B.isinstance (by decide +kernel) (pa_cons (pv 0) (pa_cons (pe_bltn (v := .ty "list") (by rfl) B.list (by decide +kernel) rfl) pa_nil))))) (pw_or1 (pt_cmpR op_ne (pe_callB call_len_seq (by rfl) B.len PySem.boot_len (pa_cons (pv 0) pa_nil)) (pe_callB call_len_seq (by rfl) B.len PySem.boot_len (pa_cons (pv 1) pa_nil)) (nomark _)))).pt (pss_one (ps_ret pe_bl)) pss_nil)
  (pss_cons (ps_for (passes_of rfl) rfl (pi_range1 (by rfl) B.range (pa_cons (pe_callB call_len_seq (by rfl) B.len PySem.boot_len (pa_cons (pv 1) pa_nil)) pa_nil)) (pg_name (i := 2) sc_law_is_list.nd rfl (Or.inl rfl)) (pss_one (ps_if (pw_or (pt_not (pt_val (pe_f c_law_whole hr (by decide) takes0 (pa_cons (pe_ix ix_list (pv 0) (pv 2) (fun _ _ => rfl)) pa_nil)))) (pw_or1 (pt_cmpR op_ne (pe_ix ix_list (pv 0) (pv 2) (fun _ _ => rfl)) (pe_ix ix_list (pv 1) (pv 2) (fun _ _ => rfl)) (nomark _)))).pt (pss_one (ps_ret pe_bl)) pss_nil)))
  (pss_one (ps_ret pe_bl)))), ?_⟩
    refine ⟨_, rfl, _, _, .type "list", _, true, rfl, .ty _, .base (.lst hA), kit_ty (by decide +kernel), _, rfl, ite_f rfl ?_⟩
    refine ⟨_, rfl, a, _, rfl, .inl (SqL.of hA), _, rfl, b, _, rfl, .inl hB, rfl, _, rfl, ite_f (by simp) ?_⟩
    refine ⟨_, rfl, b, _, rfl, .inl hB, _, rfl, by rw [List.length_map]; omega, by rw [List.length_map]; omega, ?_⟩
    rw [List.length_map, Int.toNat_natCast]
    refine for_range (fun i σ H' => H' = H ∧ ∃ v, σ = [some (.ref a), some (.ref b), v]) ⟨rfl, none, rfl⟩ ?_ ?_
    · rintro i σ H' hi ⟨rfl, v, rfl⟩
      have h0 : xs[i]? = some xs[i] := List.getElem?_eq_getElem hi
      have h1 : atI (xs.map V.int) (0 + (i : Int)) = some (.int xs[i]) := at_of (j := i) (by omega) (map_get h0)
      refine ⟨_, rfl, _, rfl, a, _, _, _, rfl, rfl, SqL.of hA, h1, _, rfl, _, rfl, ite_f rfl ?_⟩
      refine ⟨_, rfl, _, rfl, a, _, _, _, rfl, rfl, SqL.of hA, h1, _, rfl, _, rfl, b, _, _, _, rfl, rfl, hB, h1, rfl, _, rfl, ite_f (by simp) ?_⟩
      exact ⟨rfl, _, rfl⟩
    · rintro σ H' ⟨rfl, v, rfl⟩
      exact q
end
end CB
namespace CB
open PySem PySem.Spec PyProof.Rows L2
theorem no_err (P : Program) (w : World) (H : Hp) (s : Shared) (e : Value) (s' : Shared) : L2.CX P w [] H s (fun _ _ _ => False) e s' → False := fun h => by
  obtain ⟨_, _, _, _, _, _, _, _, _, _, _, _, z⟩ := h
  exact z
end CB
namespace CB
open PySem PySem.Spec PyProof.Rows L2
abbrev s_law : Stmt := top 12
abbrev N_law : List Str := ["script", "ratios", "due", "one", "ratio", "handed", "found"]
theorem sc_law : FnScope N_law ["script"] (defScope s_law) := ⟨rfl, rfl, rfl, by decide +kernel, rfl, by decide +kernel, by decide +kernel⟩
end CB

namespace CB
open PySem PySem.Spec PyProof.Rows L2
def sp_law (K : PySem.W.Frag) : Sp := fun vs H Q _ => ∃ (a : Addr) (ns : List Int), vs = [.ref a] ∧ SqL K H a (ns.map V.int) ∧ ns.length ≤ 63 ∧ ∀ H', Q (.bl true) H'
def pre1 (rs : List Int) (i : Nat) : List Int := (List.range i).map fun k => prodL (rs.take k)
theorem pre1_succ (rs : List Int) (i : Nat) : pre1 rs (i + 1) = pre1 rs i ++ [prodL (rs.take i)] := by
  unfold pre1
  rw [List.range_succ, List.map_append]
  all_goals rfl
theorem pre1_len (rs : List Int) (i : Nat) : (pre1 rs i).length = i := by
  unfold pre1
  rw [List.length_map, List.length_range]
section
variable {P : Program} {w : World} {K : PySem.W.Frag} {mg : Str → Option Value} {base : Heap}
theorem ok_law {f : Addr} {fd : FuncData} (F : Fun K "law" "law" s_law f fd) (B : Bi mg) (c_law_frame_by : Callee P w K mg base 2 "_law_frame_by" ["script"] (sp_law_frame_by K mg))
    (c_worths : Callee P w K mg base 2 "worths" ["ratios"] (sp_worths K mg)) (c_law_is_list : Callee P w K mg base 2 "_law_is_list" ["found", "due"] (sp_law_is_list K mg)) :
    FnOk P w K mg base (L2.CX P w) 3 f fd ["script"] (sp_law K) := by
  refine F.okX sc_law (fun vs H Q E h => ?_) (fun cdv A outer s H vs Q E hr h => ?_)
  · obtain ⟨a, ns, rfl, _⟩ := h
    rfl
  · obtain ⟨a, ns, rfl, hS, _, q⟩ := h
    refine ⟨_, (pss_cons (ps_set (i := 1) sc_law.nd rfl (Or.inl rfl) (pe_f c_law_frame_by hr (by decide) takes0 (pa_cons (pv 0) pa_nil)))
  (pss_cons (ps_set (i := 2) sc_law.nd rfl (Or.inl rfl) (pe_lst pa_nil))
  (pss_cons (ps_set (i := 3) sc_law.nd rfl (Or.inl rfl) pe_int)
  (pss_cons (ps_for (passes_of rfl) rfl (pi_list (pv 1)) (pg_name (i := 4) sc_law.nd rfl (Or.inl rfl)) (pss_cons (ps_expr (pe_bm PySem.F.plainAttrs_list PySem.F.slot_list_append PySem.F.type_list_append mt_append (pv 2) (pa_cons (pv 3) pa_nil)))
  (pss_one (ps_set (i := 3) sc_law.nd rfl (Or.inl rfl) (pe_op op_mulW (pv 3) (pv 4))))))
  (pss_cons (ps_expr (pe_bm PySem.F.plainAttrs_list PySem.F.slot_list_append PySem.F.type_list_append mt_append (pv 2) (pa_cons (pv 3) pa_nil)))
  (pss_cons (ps_set (i := 5) sc_law.nd rfl (Or.inl rfl) (pe_callTy call_list_of (by rfl) B.list (by decide +kernel) (pa_cons (pv 1) pa_nil)))
  (pss_cons (ps_set (i := 6) sc_law.nd rfl (Or.inl rfl) (pe_f c_worths hr (by decide) takes0 (pa_cons (pv 5) pa_nil)))
  (pss_cons (ps_if (pw_or (pt_not (pt_val (pe_f c_law_is_list hr (by decide) takes0 (pa_cons (pv 6) (pa_cons (pv 2) pa_nil))))) (pw_or1 (pt_cmpR (op_neD hr.units) (pv 5) (pv 1) (nomark _)))).pt (pss_one (ps_ret pe_bl)) pss_nil)
  (pss_cons (ps_asg pe_int (pg_sub (pv 6) pe_int set_list))
  (pss_one (ps_ret (pe_f c_law_is_list hr (by decide) takes0 (pa_cons (pe_f c_worths hr (by decide) takes0 (pa_cons (pv 5) pa_nil)) (pa_cons (pv 2) pa_nil)))))))))))))), ?_⟩
    refine ⟨.ref a, rfl, a, ns, rfl, hS, fun rs g H1 p1 s1 n1 h1 => ?_⟩
    -- due = []
    refine ⟨by show 0 ≤ sizeLine; decide, fun p2 n2 => ?_⟩
    have d12 : p1 ≠ p2 := ne_of_none h1 n2
    refine ⟨_, rfl, p1, rfl, ⟨_, SqL.of (by rw [upd_ne d12]; exact h1)⟩, for_list (K := K) (a := p1) (xs := rs.map V.int)
      (fun i σ H' => ∃ v, σ = [some (.ref a), some (.ref p1), some (.ref p2), some (.int (prodL (rs.take i))), v, none, none] ∧ H' p1 = some (.lst (rs.map V.int)) ∧ H' p2 = some (.lst ((pre1 rs i).map V.int)))
      ⟨none, rfl, by rw [upd_ne d12]; exact h1, upd_same⟩ (fun i σ H' _ ⟨_, _, e, _⟩ => SqL.of e) ?_ ?_⟩
    · rintro i y σ H' hi ⟨v, rfl, e1, e2⟩
      obtain ⟨z, hz, rfl⟩ := get_map hi
      obtain ⟨hil, _⟩ := List.getElem?_eq_some_iff.mp hz
      have hil' : i ≤ 11 := by have := g.1; omega
      have gz := g.2 z (List.mem_of_getElem? hz)
      have gp := prodL_lt (l := rs.take i) (fun r hr => g.2 r (List.mem_of_mem_take hr)) (by rw [List.length_take]; omega)
      refine ⟨_, rfl, .inl ⟨rfl, _, SqL.of e2⟩, _, rfl, p2, _, _, rfl, rfl, e2, by rw [List.length_map, pre1_len]; exact small64 (by omega), ?_⟩
      refine ⟨_, rfl, _, rfl, _, _, rfl, rfl, wide_mul (a := 40) (b := 40) (abs_lt_pow (by omega) gp.2) (abs_lt_pow (by omega) (by omega)) (by decide) (by decide) (by decide), ?_⟩
      refine ⟨some (.int z), ?_, by rw [upd_ne d12]; exact e1, ?_⟩
      · rw [take_more hz, prodL_snoc]
        rfl
      · rw [upd_same, pre1_succ, List.map_append]
        rfl
    · rintro σ H' ⟨v, rfl, e1, e2⟩
      rw [List.length_map] at e2
      rw [List.length_map, List.take_length]
      -- due.append(one)
      refine ⟨_, rfl, .inl ⟨rfl, _, SqL.of e2⟩, _, rfl, p2, _, _, rfl, rfl, e2, by rw [List.length_map, pre1_len]; have := g.1; exact small64 (by omega), ?_⟩
      have e3 : (upd H' p2 (.lst ((pre1 rs rs.length).map V.int ++ [.int (prodL rs)]))) p2 = some (.lst ((worthsL rs).map V.int)) := by
        rw [upd_same]
        have := worths_take rs rs.length (Nat.le_refl _)
        rw [List.take_length] at this
        rw [this, List.map_append]
        rfl
      have e4 : (upd H' p2 (.lst ((pre1 rs rs.length).map V.int ++ [.int (prodL rs)]))) p1 = some (.lst (rs.map V.int)) := by
        rw [upd_ne d12]
        exact e1
      generalize upd H' p2 (.lst ((pre1 rs rs.length).map V.int ++ [.int (prodL rs)])) = H2 at e3 e4
      -- handed = list(ratios)
      refine ⟨_, rfl, p1, _, rfl, .inl (SqL.of e4), fun p3 n3 => ?_⟩
      have e5 := (same_upd (o := .lst (rs.map V.int)) n3) _ _ e3
      have e6 := (same_upd (o := .lst (rs.map V.int)) n3) _ _ e4
      have e7 : (upd H2 p3 (.lst (rs.map V.int))) p3 = some (.lst (rs.map V.int)) := upd_same
      generalize upd H2 p3 (.lst (rs.map V.int)) = H3 at e5 e6 e7
      -- found = worths(handed)
      refine ⟨_, rfl, p3, rs, rfl, SqL.of e7, fun _ H4 p4 s4 n4 e8 => ?_, fun z => absurd g z⟩
      have e9 := s4 _ _ e5
      have e10 := s4 _ _ e6
      have e11 := s4 _ _ e7
      have hlen : (worthsL rs).length ≤ 100000 := by rw [worths_len]; have := g.1; omega
      refine ⟨_, rfl, _, rfl, p4, p2, _, rfl, e8, SqL.of e9, hlen, _, rfl, ite_f rfl ?_⟩
      refine ⟨_, rfl, _, rfl, dL rs, dL rs, dp_L (SqL.of e11), dp_L (SqL.of e10), shaped_dL _, shaped_dL _, _, rfl, ite_f (by rw [eqv_dL]; simp) ?_⟩
      -- found[0] = 2
      obtain ⟨y, ys, hy⟩ : ∃ y ys, worthsL rs = y :: ys := by
        cases h : worthsL rs with
        | nil => have := worths_len rs; rw [h] at this; cases this
        | cons y ys => exact ⟨y, ys, rfl⟩
      have d43 : p3 ≠ p4 := ne_of_none e7 n4
      have d42 : p2 ≠ p4 := ne_of_none e5 n4
      refine ⟨_, rfl, p4, _, 0, 0, rfl, rfl, e8, ix_of rfl (by rw [List.length_map, worths_len]; omega), ?_⟩
      refine ⟨_, rfl, p3, rs, rfl, SqL.of (by rw [upd_ne d43]; exact e11), fun _ H5 p5 s5 n5 e12 => ?_, fun z => absurd g z⟩
      refine ⟨_, rfl, p5, p2, _, rfl, e12, SqL.of (s5 _ _ (by rw [upd_ne d42]; exact e9)), hlen, ?_⟩
      exact q _
end
end CB
namespace CB
open PySem PySem.Spec PyProof.Rows L2
theorem all_mk {l : PySem.W.OpenLaw} {w : World} {K : PySem.W.Frag} {h : Heap} {mg : Str → Option Value} {fa : Addr} (X : K.In h) (G : h.Ns mainGlobals mg) (hfa : mg "law" = some (.ref fa))
    {t_MOST : Tok}
    {C_NoFrame : Addr}
    {f_asked_frame : Addr} {od_asked_frame an_asked_frame : Option Addr} {sl_asked_frame : Array (Option Value)} {oc_asked_frame kV_asked_frame dc_asked_frame pm_asked_frame cd_asked_frame ct_asked_frame : Value}
    {f_worths : Addr} {od_worths an_worths : Option Addr} {sl_worths : Array (Option Value)} {oc_worths kV_worths dc_worths pm_worths cd_worths ct_worths : Value}
    {f_law_cell_at : Addr} {od_law_cell_at an_law_cell_at : Option Addr} {sl_law_cell_at : Array (Option Value)} {oc_law_cell_at kV_law_cell_at dc_law_cell_at pm_law_cell_at cd_law_cell_at ct_law_cell_at : Value}
    {f_law_whole : Addr} {od_law_whole an_law_whole : Option Addr} {sl_law_whole : Array (Option Value)} {oc_law_whole kV_law_whole dc_law_whole pm_law_whole cd_law_whole ct_law_whole : Value}
    {f_law_frame_by : Addr} {od_law_frame_by an_law_frame_by : Option Addr} {sl_law_frame_by : Array (Option Value)} {oc_law_frame_by kV_law_frame_by dc_law_frame_by pm_law_frame_by cd_law_frame_by ct_law_frame_by : Value}
    {f_law_is_list : Addr} {od_law_is_list an_law_is_list : Option Addr} {sl_law_is_list : Array (Option Value)} {oc_law_is_list kV_law_is_list dc_law_is_list pm_law_is_list cd_law_is_list ct_law_is_list : Value}
    {f_law : Addr} {od_law an_law : Option Addr} {sl_law : Array (Option Value)} {oc_law kV_law dc_law pm_law cd_law ct_law : Value}
    (z_len : PySem.W.nsIn K mainGlobals "len" = some none)
    (z_list : PySem.W.nsIn K mainGlobals "list" = some none)
    (z_range : PySem.W.nsIn K mainGlobals "range" = some none)
    (z_isinstance : PySem.W.nsIn K mainGlobals "isinstance" = some none)
    (z_zip : PySem.W.nsIn K mainGlobals "zip" = some none)
    (z_reversed : PySem.W.nsIn K mainGlobals "reversed" = some none)
    (z_sum : PySem.W.nsIn K mainGlobals "sum" = some none)
    (z_all : PySem.W.nsIn K mainGlobals "all" = some none)
    (z_abs : PySem.W.nsIn K mainGlobals "abs" = some none)
    (z_max : PySem.W.nsIn K mainGlobals "max" = some none)
    (z_min : PySem.W.nsIn K mainGlobals "min" = some none)
    (z_str : PySem.W.nsIn K mainGlobals "str" = some none)
    (z_int : PySem.W.nsIn K mainGlobals "int" = some none)
    (z_bool : PySem.W.nsIn K mainGlobals "bool" = some none)
    (z_tuple : PySem.W.nsIn K mainGlobals "tuple" = some none)
    (g_MOST : PySem.W.nsIn K mainGlobals "MOST" = some (some (.int 11 t_MOST)))
    (g_NoFrame : PySem.W.nsIn K mainGlobals "NoFrame" = some (some (.ref C_NoFrame)))
    (x_NoFrame : PySem.W.excIn K C_NoFrame [.type "ValueError", .type "Exception", .type "BaseException", .type "object"] "ValueError.__new__" = true)
    (k_NoFrame : PySem.W.keepIn K (.ref C_NoFrame) = true)
    (b_NoFrame : PySem.W.subIn K (.ref C_NoFrame) (.type "BaseException") = some true)
    (t_NoFrame : PySem.W.typeIn K (.ref C_NoFrame) = some (.type "type"))
    (a_asked_frame : PySem.W.nsIn K mainGlobals "asked_frame" = some (some (.ref f_asked_frame)))
    (l_asked_frame : K.lookup f_asked_frame = some ⟨oc_asked_frame, od_asked_frame, .func (PySem.W.fnOf "asked_frame" "asked_frame" (defArgs s_asked_frame) (defBody s_asked_frame) (defScope s_asked_frame) .none kV_asked_frame dc_asked_frame pm_asked_frame an_asked_frame cd_asked_frame ct_asked_frame), sl_asked_frame⟩)
    (c_asked_frame : PySem.W.codeIn K cd_asked_frame "asked_frame" = true)
    (p_asked_frame : PySem.W.keepIn K (.ref f_asked_frame) = true)
    (a_worths : PySem.W.nsIn K mainGlobals "worths" = some (some (.ref f_worths)))
    (l_worths : K.lookup f_worths = some ⟨oc_worths, od_worths, .func (PySem.W.fnOf "worths" "worths" (defArgs s_worths) (defBody s_worths) (defScope s_worths) .none kV_worths dc_worths pm_worths an_worths cd_worths ct_worths), sl_worths⟩)
    (c_worths : PySem.W.codeIn K cd_worths "worths" = true)
    (p_worths : PySem.W.keepIn K (.ref f_worths) = true)
    (a_law_cell_at : PySem.W.nsIn K mainGlobals "_law_cell_at" = some (some (.ref f_law_cell_at)))
    (l_law_cell_at : K.lookup f_law_cell_at = some ⟨oc_law_cell_at, od_law_cell_at, .func (PySem.W.fnOf "_law_cell_at" "_law_cell_at" (defArgs s_law_cell_at) (defBody s_law_cell_at) (defScope s_law_cell_at) .none kV_law_cell_at dc_law_cell_at pm_law_cell_at an_law_cell_at cd_law_cell_at ct_law_cell_at), sl_law_cell_at⟩)
    (c_law_cell_at : PySem.W.codeIn K cd_law_cell_at "_law_cell_at" = true)
    (p_law_cell_at : PySem.W.keepIn K (.ref f_law_cell_at) = true)
    (a_law_whole : PySem.W.nsIn K mainGlobals "_law_whole" = some (some (.ref f_law_whole)))
    (l_law_whole : K.lookup f_law_whole = some ⟨oc_law_whole, od_law_whole, .func (PySem.W.fnOf "_law_whole" "_law_whole" (defArgs s_law_whole) (defBody s_law_whole) (defScope s_law_whole) .none kV_law_whole dc_law_whole pm_law_whole an_law_whole cd_law_whole ct_law_whole), sl_law_whole⟩)
    (c_law_whole : PySem.W.codeIn K cd_law_whole "_law_whole" = true)
    (p_law_whole : PySem.W.keepIn K (.ref f_law_whole) = true)
    (a_law_frame_by : PySem.W.nsIn K mainGlobals "_law_frame_by" = some (some (.ref f_law_frame_by)))
    (l_law_frame_by : K.lookup f_law_frame_by = some ⟨oc_law_frame_by, od_law_frame_by, .func (PySem.W.fnOf "_law_frame_by" "_law_frame_by" (defArgs s_law_frame_by) (defBody s_law_frame_by) (defScope s_law_frame_by) .none kV_law_frame_by dc_law_frame_by pm_law_frame_by an_law_frame_by cd_law_frame_by ct_law_frame_by), sl_law_frame_by⟩)
    (c_law_frame_by : PySem.W.codeIn K cd_law_frame_by "_law_frame_by" = true)
    (p_law_frame_by : PySem.W.keepIn K (.ref f_law_frame_by) = true)
    (a_law_is_list : PySem.W.nsIn K mainGlobals "_law_is_list" = some (some (.ref f_law_is_list)))
    (l_law_is_list : K.lookup f_law_is_list = some ⟨oc_law_is_list, od_law_is_list, .func (PySem.W.fnOf "_law_is_list" "_law_is_list" (defArgs s_law_is_list) (defBody s_law_is_list) (defScope s_law_is_list) .none kV_law_is_list dc_law_is_list pm_law_is_list an_law_is_list cd_law_is_list ct_law_is_list), sl_law_is_list⟩)
    (c_law_is_list : PySem.W.codeIn K cd_law_is_list "_law_is_list" = true)
    (p_law_is_list : PySem.W.keepIn K (.ref f_law_is_list) = true)
    (a_law : PySem.W.nsIn K mainGlobals "law" = some (some (.ref f_law)))
    (l_law : K.lookup f_law = some ⟨oc_law, od_law, .func (PySem.W.fnOf "law" "law" (defArgs s_law) (defBody s_law) (defScope s_law) .none kV_law dc_law pm_law an_law cd_law ct_law), sl_law⟩)
    (c_law : PySem.W.codeIn K cd_law "law" = true)
    (p_law : PySem.W.keepIn K (.ref f_law) = true) :
    ∃ fd : FuncData, (∀ (s : Shared) (v : Value), BindsTo s fd ⟨[v], []⟩ [("script", v)]) ∧ ∀ base : Heap, K.In base → base.Ns mainGlobals mg → FnOk l.prog w K mg base (L2.CX l.prog w) 3 fa fd ["script"] (sp_law K) := by
  have e := hfa.symm.trans (PySem.W.mg_of X G a_law)
  cases e
  have B : Bi mg := ⟨PySem.W.mg_none_of X G z_len, PySem.W.mg_none_of X G z_list, PySem.W.mg_none_of X G z_range, PySem.W.mg_none_of X G z_isinstance, PySem.W.mg_none_of X G z_zip, PySem.W.mg_none_of X G z_reversed, PySem.W.mg_none_of X G z_sum, PySem.W.mg_none_of X G z_all, PySem.W.mg_none_of X G z_abs, PySem.W.mg_none_of X G z_max, PySem.W.mg_none_of X G z_min, PySem.W.mg_none_of X G z_str, PySem.W.mg_none_of X G z_int, PySem.W.mg_none_of X G z_bool, PySem.W.mg_none_of X G z_tuple⟩
  have m_MOST : ∃ t, mg "MOST" = some (.int 11 t) := ⟨_, PySem.W.mg_of X G g_MOST⟩
  have e_NoFrame : Er K mg "NoFrame" := er_mk (PySem.W.mg_of X G g_NoFrame) x_NoFrame k_NoFrame b_NoFrame t_NoFrame
  have F_asked_frame := fun_mk (st := s_asked_frame) l_asked_frame c_asked_frame p_asked_frame
  have b_asked_frame := F_asked_frame.binds (ps := ["ratios"]) fun _ _ _ _ _ _ us hl => match us, hl with | [_], _ => rfl
  have F_worths := fun_mk (st := s_worths) l_worths c_worths p_worths
  have b_worths := F_worths.binds (ps := ["ratios"]) fun _ _ _ _ _ _ us hl => match us, hl with | [_], _ => rfl
  have F_law_cell_at := fun_mk (st := s_law_cell_at) l_law_cell_at c_law_cell_at p_law_cell_at
  have b_law_cell_at := F_law_cell_at.binds (ps := ["script", "k"]) fun _ _ _ _ _ _ us hl => match us, hl with | [_, _], _ => rfl
  have F_law_whole := fun_mk (st := s_law_whole) l_law_whole c_law_whole p_law_whole
  have b_law_whole := F_law_whole.binds (ps := ["found"]) fun _ _ _ _ _ _ us hl => match us, hl with | [_], _ => rfl
  have F_law_frame_by := fun_mk (st := s_law_frame_by) l_law_frame_by c_law_frame_by p_law_frame_by
  have b_law_frame_by := F_law_frame_by.binds (ps := ["script"]) fun _ _ _ _ _ _ us hl => match us, hl with | [_], _ => rfl
  have F_law_is_list := fun_mk (st := s_law_is_list) l_law_is_list c_law_is_list p_law_is_list
  have b_law_is_list := F_law_is_list.binds (ps := ["found", "due"]) fun _ _ _ _ _ _ us hl => match us, hl with | [_, _], _ => rfl
  have F_law := fun_mk (st := s_law) l_law c_law p_law
  refine ⟨PySem.W.fnOf "law" "law" (defArgs s_law) (defBody s_law) (defScope s_law) .none kV_law dc_law pm_law an_law cd_law ct_law, fun s v => .of_eq rfl, fun base _ _ => ?_⟩
  have c_asked_frame : Callee l.prog w K mg base 1 "asked_frame" ["ratios"] (sp_asked_frame K mg) := Callee.mk' (ok_asked_frame F_asked_frame B m_MOST e_NoFrame) (PySem.W.mg_of X G a_asked_frame) p_asked_frame b_asked_frame
  have c_worths : Callee l.prog w K mg base 2 "worths" ["ratios"] (sp_worths K mg) := Callee.mk' (ok_worths F_worths B c_asked_frame) (PySem.W.mg_of X G a_worths) p_worths b_worths
  have c_law_cell_at : Callee l.prog w K mg base 1 "_law_cell_at" ["script", "k"] (sp_law_cell_at K mg) := Callee.mk' (ok_law_cell_at F_law_cell_at B) (PySem.W.mg_of X G a_law_cell_at) p_law_cell_at b_law_cell_at
  have c_law_whole : Callee l.prog w K mg base 1 "_law_whole" ["found"] (sp_law_whole K mg) := Callee.mk' (ok_law_whole F_law_whole B) (PySem.W.mg_of X G a_law_whole) p_law_whole b_law_whole
  have c_law_frame_by : Callee l.prog w K mg base 2 "_law_frame_by" ["script"] (sp_law_frame_by K mg) := Callee.mk' (ok_law_frame_by F_law_frame_by B c_law_cell_at) (PySem.W.mg_of X G a_law_frame_by) p_law_frame_by b_law_frame_by
  have c_law_is_list : Callee l.prog w K mg base 2 "_law_is_list" ["found", "due"] (sp_law_is_list K mg) := Callee.mk' (ok_law_is_list F_law_is_list B c_law_whole) (PySem.W.mg_of X G a_law_is_list) p_law_is_list b_law_is_list
  exact ok_law F_law B c_law_frame_by c_worths c_law_is_list
end CB
open PySem PySem.W PyProof.Rows
set_option maxRecDepth 100000 in
set_option maxHeartbeats 0 in
theorem PySem.Challenge.cw_countboard_k01_worths_holds : PySem.Challenge.rw_countboard_k01_worths.Holds := by
  w_on; o_law; k_head; (case hw => w_witness2)
  k_fill
  refine L2.walk_of (l := PySem.Challenge.rw_countboard_k01_worths) (n := 63) (k := 3) (x := "script") (CX := fun w => L2.CX PySem.Challenge.rw_countboard_k01_worths.prog w) (sp := fun w => CB.sp_law _) rfl (by decide) rfl ⟨rfl, by decide, by decide⟩ (fun w h Y => PySem.W.kIn_of Y) ?F (fun _ _ a ns hl _ hS => ⟨a, ns, rfl, hS, hl, fun _ => rfl⟩) (CB.no_err _)
  case F =>
    intro w mg fa h KX G hmg
    refine' CB.all_mk KX G hmg ?z_len ?z_list ?z_range ?z_isinstance ?z_zip ?z_reversed ?z_sum ?z_all ?z_abs ?z_max ?z_min ?z_str ?z_int ?z_bool ?z_tuple ?g_MOST ?g_NoFrame ?x_NoFrame ?k_NoFrame ?b_NoFrame ?t_NoFrame ?a_asked_frame ?l_asked_frame ?c_asked_frame ?p_asked_frame ?a_worths ?l_worths ?c_worths ?p_worths ?a_law_cell_at ?l_law_cell_at ?c_law_cell_at ?p_law_cell_at ?a_law_whole ?l_law_whole ?c_law_whole ?p_law_whole ?a_law_frame_by ?l_law_frame_by ?c_law_frame_by ?p_law_frame_by ?a_law_is_list ?l_law_is_list ?c_law_is_list ?p_law_is_list ?a_law ?l_law ?c_law ?p_law
    (case z_len => k_is)
    (case z_list => k_is)
    (case z_range => k_is)
    (case z_isinstance => k_is)
    (case z_zip => k_is)
    (case z_reversed => k_is)
    (case z_sum => k_is)
    (case z_all => k_is)
    (case z_abs => k_is)
    (case z_max => k_is)
    (case z_min => k_is)
    (case z_str => k_is)
    (case z_int => k_is)
    (case z_bool => k_is)
    (case z_tuple => k_is)
    (case g_MOST => k_is)
    (case g_NoFrame => k_is)
    (case x_NoFrame => k_exc)
    (case k_NoFrame => k_is)
    (case b_NoFrame => k_is)
    (case t_NoFrame => k_is)
    (case a_asked_frame => k_is)
    (case l_asked_frame => k_is)
    (case c_asked_frame => k_is)
    (case p_asked_frame => k_is)
    (case a_worths => k_is)
    (case l_worths => k_is)
    (case c_worths => k_is)
    (case p_worths => k_is)
    (case a_law_cell_at => k_is)
    (case l_law_cell_at => k_is)
    (case c_law_cell_at => k_is)
    (case p_law_cell_at => k_is)
    (case a_law_whole => k_is)
    (case l_law_whole => k_is)
    (case c_law_whole => k_is)
    (case p_law_whole => k_is)
    (case a_law_frame_by => k_is)
    (case l_law_frame_by => k_is)
    (case c_law_frame_by => k_is)
    (case p_law_frame_by => k_is)
    (case a_law_is_list => k_is)
    (case l_law_is_list => k_is)
    (case c_law_is_list => k_is)
    (case p_law_is_list => k_is)
    (case a_law => k_is)
    (case l_law => k_is)
    (case c_law => k_is)
    (case p_law => k_is)
