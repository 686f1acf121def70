import PyProof.Rows.All
import Wide.All
import OpenK.AllK
import Wide.FinOn
import HandS.ForMost
import HandS.ForExc
import HandS.Wide
import HandS.IsInst
import HandS.RevRange
import HandS.Zip
import HandS.Deep
import HandS.Conv
import HandS.Rev
import HandS.HotCalls
import HandS.ExcIs
import KE.RegKIsAll
import KE.RegKTryMore
import PySem.Challenge.RW_countboard_k10_whole_ways
set_option Elab.async false
set_option linter.all false
set_option maxRecDepth 100000
set_option maxHeartbeats 4000000
set_option pp.maxSteps 500
namespace CB
open PySem
def top (i : Nat) : Stmt := PySem.Challenge.pw_countboard_k10_whole_ways.main.body.getD i (.Pass ⟨0, 0, 0, 0⟩)
end CB
namespace CB
open PySem PySem.Spec PyProof.Rows L2
/-! ### a def that stands at its name and keeps its promise; the built-in names; the classes of errors -/
structure Callee (P : Program) (w : World) (K : PySem.W.Frag) (mg : Str → Option Value) (base : Heap) (k : Nat) (x : Str) (ps : List Str) (sp : Sp) : Prop where
  ex : ∃ (f : Addr) (fd : FuncData), FnOk P w K mg base (L2.CX P w) k f fd ps sp ∧ mg x = some (.ref f) ∧ PySem.W.keepIn K (.ref f) = true ∧ Binds K fd ps []
def ErA (mg : Str → Option Value) (x : Str) : Addr := match mg x with
  | some (.ref a) => a
  | _ => 0
structure Er (K : PySem.W.Frag) (mg : Str → Option Value) (x : Str) : Prop where
  gC : mg x = some (.ref (ErA mg x))
  xP : PySem.W.excIn K (ErA mg x) [.type "ValueError", .type "Exception", .type "BaseException", .type "object"] "ValueError.__new__" = true
  kP : PySem.W.keepIn K (.ref (ErA mg x)) = true
  bP : PySem.W.subIn K (.ref (ErA mg x)) (.type "BaseException") = some true
  tP : PySem.W.typeIn K (.ref (ErA mg x)) = some (.type "type")
theorem er_mk {K : PySem.W.Frag} {mg : Str → Option Value} {x : Str} {C : Addr} (g : mg x = some (.ref C)) (x1 : PySem.W.excIn K C [.type "ValueError", .type "Exception", .type "BaseException", .type "object"] "ValueError.__new__" = true)
    (k : PySem.W.keepIn K (.ref C) = true) (b : PySem.W.subIn K (.ref C) (.type "BaseException") = some true) (t : PySem.W.typeIn K (.ref C) = some (.type "type")) : Er K mg x := by
  have e : ErA mg x = C := by unfold ErA; rw [g]
  exact ⟨by rw [e]; exact g, by rw [e]; exact x1, by rw [e]; exact k, by rw [e]; exact b, by rw [e]; exact t⟩
structure Bi (mg : Str → Option Value) : Prop where
  len : mg "len" = none
  list : mg "list" = none
  range : mg "range" = none
  isinstance : mg "isinstance" = none
  zip : mg "zip" = none
  reversed : mg "reversed" = none
  sum : mg "sum" = none
  all : mg "all" = none
  abs : mg "abs" = none
  max : mg "max" = none
  min : mg "min" = none
  str : mg "str" = none
  int : mg "int" = none
  bool : mg "bool" = none
  tuple : mg "tuple" = none
  ValueError : mg "ValueError" = none
section
variable {X : Cx}
theorem pe_f {W : WX} {j k : Nat} {x : Str} {ps : List Str} {sp : Sp} {e : Expr} {es : List Expr} {t : TA} {p pos : Pos} (c : Callee X.prog X.w X.K X.mg X.base k x ps sp) (hr : Room j X.A) (hk : k ≤ j) (tk : Takes X W)
    (ha : PA X (e :: es) t) (hg : Gl X x := by rfl) (hdb : (x == ("__debug__" : Str)) = false := by decide) (he : starEach (e :: es) X.env = (false, eval e X.env) :: starEach es X.env := by rfl) (hpl : (backTo pos (starEach es X.env)).any (·.1) = false := by rfl) :
    PE X (.Call (.Name x p) (e :: es) [] pos) (tCallS sp (WE W) t) := by
  obtain ⟨f, fd, F, hm, hkp, hb⟩ := c
  exact pe_callS F (hr.mono hk) hg hm hkp hb (fun σ => passAt tk σ) ha hdb he hpl
end
theorem ix_listK {X : Cx} (K : PySem.W.Frag) (h : X.K = K) : IxR X (rIxL K) := h ▸ ix_list
theorem ix_tupK {X : Cx} (K : PySem.W.Frag) (h : X.K = K) : IxR X (rIxT K) := h ▸ ix_tup
theorem Callee.mk' {P : Program} {w : World} {K : PySem.W.Frag} {mg : Str → Option Value} {base : Heap} {k : Nat} {x : Str} {ps : List Str} {sp : Sp} {f : Addr} {fd : FuncData} (F : FnOk P w K mg base (L2.CX P w) k f fd ps sp) (hm : mg x = some (.ref f)) (hk : PySem.W.keepIn K (.ref f) = true) (hb : Binds K fd ps []) :
    Callee P w K mg base k x ps sp := ⟨f, fd, F, hm, hk, hb⟩
/-! ### what a def tells: a number, a truth, a text, a new list -/
def TellV (H : Hp) (Q : VK) (v : V) : Prop := ∀ H', Same H H' → Q v H'
def TellL (H : Hp) (Q : VK) (xs : List V) : Prop := ∀ (H' : Hp) (p : Addr), Same H H' → H p = none → H' p = some (.lst xs) → Q (.ref p) H'
def Raise (mg : Str → Option Value) (x : Str) (H : Hp) (E : XK) : Prop := ∀ H', Same H H' → E (.ref (ErA mg x)) none H'
theorem same_upd {H : Hp} {p : Addr} {o : HO} (h : H p = none) : Same H (upd H p o) := fun b u e => by
  rw [upd_ne (ne_of_none e h)]
  exact e
theorem get_map {xs : List Int} {i : Nat} {x : V} (h : (xs.map V.int)[i]? = some x) : ∃ z, xs[i]? = some z ∧ x = .int z := by
  rw [List.getElem?_map] at h
  cases e : xs[i]? with
  | none => rw [e] at h; cases h
  | some z => rw [e] at h; exact ⟨z, rfl, (Option.some.inj h).symm⟩
theorem map_get {xs : List Int} {i : Nat} {z : Int} (h : xs[i]? = some z) : (xs.map V.int)[i]? = some (.int z) := by
  rw [List.getElem?_map, h]
  all_goals rfl
theorem ix_of {n : Nat} {z : Int} {j : Nat} (e : z = (j : Int)) (h : j < n) : ixN n z = some j := by
  subst e
  unfold ixN
  rw [if_pos (by omega), if_pos (by omega), Int.toNat_natCast]
theorem take_more {α : Type} {l : List α} {i : Nat} {x : α} (h : l[i]? = some x) : l.take (i + 1) = l.take i ++ [x] := by
  rw [List.take_add_one, h]
  all_goals rfl
theorem small64 {n : Nat} (h : n ≤ 100000) : n < sizeLine := Nat.lt_of_le_of_lt h (by decide)
theorem small64' {n : Nat} (h : n ≤ 100000) : n ≤ sizeLine := Nat.le_of_lt (small64 h)
theorem ite_t {A B : Prop} {c : Bool} (hc : c = true) (h : A) : if c = true then A else B := by
  rw [if_pos hc]
  exact h
theorem ite_f {A B : Prop} {c : Bool} (hc : c = false) (h : B) : if c = true then A else B := by
  rw [hc, if_neg Bool.false_ne_true]
  exact h
end CB
namespace CB
open PySem PySem.Spec PyProof.Rows L2
/-- what a frame is -/
def GF (rs : List Int) : Prop := rs.length ≤ 11 ∧ ∀ r ∈ rs, 2 ≤ r ∧ r ≤ 12
/-! ### the mathematics: worths -/
def prodL (l : List Int) : Int := l.foldl (· * ·) 1
def worthsL (rs : List Int) : List Int := (List.range (rs.length + 1)).map fun k => prodL (rs.take k)
theorem prodL_snoc (l : List Int) (r : Int) : prodL (l ++ [r]) = prodL l * r := by
  unfold prodL
  rw [List.foldl_append]
  rfl
theorem foldl_mul (l : List Int) (x : Int) : l.foldl (· * ·) x = x * l.foldl (· * ·) 1 := by
  induction l generalizing x with
  | nil => simp
  | cons a l ih =>
    rw [List.foldl_cons, List.foldl_cons, ih (x * a), ih (1 * a), Int.one_mul, Int.mul_assoc]
theorem prodL_cons (r : Int) (l : List Int) : prodL (r :: l) = r * prodL l := by
  unfold prodL
  rw [List.foldl_cons, Int.one_mul, foldl_mul]
theorem prodL_bound {l : List Int} (h : ∀ r ∈ l, 2 ≤ r ∧ r ≤ 12) : 1 ≤ prodL l ∧ prodL l ≤ ((12 ^ l.length : Nat) : Int) := by
  induction l with
  | nil => exact ⟨by decide, by decide⟩
  | cons a l ih =>
    obtain ⟨h1, h2⟩ := ih fun r hr => h r (List.mem_cons_of_mem _ hr)
    obtain ⟨h3, h4⟩ := h a List.mem_cons_self
    rw [prodL_cons, List.length_cons, Nat.pow_succ, Nat.mul_comm, Int.natCast_mul]
    refine ⟨?_, ?_⟩
    · have := Int.mul_le_mul (show (1 : Int) ≤ a by omega) h1 (by decide) (by omega)
      omega
    · exact Int.mul_le_mul h4 h2 (by omega) (by decide)
theorem prodL_lt {l : List Int} (h : ∀ r ∈ l, 2 ≤ r ∧ r ≤ 12) (hl : l.length ≤ 11) : 1 ≤ prodL l ∧ prodL l < 2 ^ 40 := by
  obtain ⟨h1, h2⟩ := prodL_bound h
  refine ⟨h1, ?_⟩
  have h3 : 12 ^ l.length ≤ 12 ^ 11 := Nat.pow_le_pow_right (by decide) hl
  have h4 : 12 ^ 11 < 2 ^ 40 := by decide
  omega
theorem abs_lt_pow {z : Int} {n : Nat} (h0 : 0 ≤ z) (h : z < 2 ^ n) : z.natAbs < 2 ^ n := by
  have e : (z.natAbs : Int) = z := Int.natAbs_of_nonneg h0
  have : (z.natAbs : Int) < ((2 ^ n : Nat) : Int) := by
    rw [e]
    simpa using h
  omega
theorem frame_gf (g : Nat → Int) (n : Nat) (hn : n ≤ 11) : GF ((List.range n).map fun i => 2 + g i % 11) := by
  refine ⟨by rw [List.length_map, List.length_range]; exact hn, fun r hr => ?_⟩
  obtain ⟨i, _, rfl⟩ := List.mem_map.mp hr
  omega
end CB
namespace CB
open PySem PySem.Spec PyProof.Rows L2
/-! ### the mathematics: boards -/
def W : List Int → List Int → Int
  | r :: rs, b :: bs => b + r * W rs bs
  | [], b :: _ => b
  | _, [] => 0
/-- a board's lines -/
def GB (rs bs : List Int) : Prop := bs.length = rs.length + 1 ∧ ∀ b ∈ bs, 0 ≤ b
theorem GB.tail {r b : Int} {rs bs : List Int} (h : GB (r :: rs) (b :: bs)) : GB rs bs := ⟨by have := h.1; simpa using this, fun x hx => h.2 x (List.mem_cons_of_mem _ hx)⟩
def BS (bs : List Int) : Prop := ∀ b ∈ bs, b < 2 ^ 200
def Rat (rs : List Int) : Prop := ∀ r ∈ rs, 2 ≤ r ∧ r ≤ 12
theorem Rat.tail {r : Int} {rs : List Int} (h : Rat (r :: rs)) : Rat rs := fun x hx => h x (List.mem_cons_of_mem _ hx)
theorem Rat.head {r : Int} {rs : List Int} (h : Rat (r :: rs)) : 2 ≤ r ∧ r ≤ 12 := h r List.mem_cons_self
/-- the plain board of n -/
def D : List Int → Int → List Int
  | [], n => [n]
  | r :: rs, n => n % r :: D rs (n / r)
theorem D_len (rs : List Int) (n : Int) : (D rs n).length = rs.length + 1 := by
  induction rs generalizing n with
  | nil => rfl
  | cons r rs ih => simp [D, ih]
/-- how often each line is raised -/
def R : List Int → List Int → Int → List Int
  | r :: rs, b :: bs, c => (b + c) / r :: R rs bs ((b + c) / r)
  | _, _, _ => []
theorem worths_cons (r : Int) (rs : List Int) : worthsL (r :: rs) = 1 :: (worthsL rs).map (r * ·) := by
  unfold worthsL
  rw [List.length_cons, List.range_succ_eq_map, List.map_cons, List.map_map, List.map_map]
  refine congr (congrArg _ rfl) (List.map_congr_left fun k _ => ?_)
  show prodL ((r :: rs).take (k + 1)) = r * prodL (rs.take k)
  rw [List.take_succ_cons, prodL_cons]
theorem zipW_map (r : Int) : ∀ bs os : List Int, (List.zipWith (· * ·) bs (os.map (r * ·))).sum = r * (List.zipWith (· * ·) bs os).sum
  | [], _ => by simp
  | _ :: _, [] => by simp
  | b :: bs, o :: os => by
    rw [List.map_cons, List.zipWith_cons_cons, List.zipWith_cons_cons, List.sum_cons, List.sum_cons, zipW_map r bs os, Int.mul_add, Int.mul_left_comm]
theorem W_sum : ∀ rs bs : List Int, bs.length = rs.length + 1 → (List.zipWith (· * ·) bs (worthsL rs)).sum = W rs bs
  | [], [b], _ => by simp [worthsL, prodL, W]
  | [], [], h => by cases h
  | [], _ :: _ :: _, h => by simp at h
  | _ :: _, [], h => by cases h
  | r :: rs, b :: bs, h => by
    rw [worths_cons, List.zipWith_cons_cons, List.sum_cons, zipW_map, W_sum rs bs (by simpa using h), Int.mul_one]
    rfl
theorem W_nonneg : ∀ (rs bs : List Int), Rat rs → (∀ b ∈ bs, 0 ≤ b) → 0 ≤ W rs bs
  | [], [], _, _ => by simp [W]
  | [], b :: _, _, h => h b List.mem_cons_self
  | _ :: _, [], _, _ => by simp [W]
  | r :: rs, b :: bs, hr, h => by
    have h1 := W_nonneg rs bs hr.tail fun x hx => h x (List.mem_cons_of_mem _ hx)
    have h2 := h b List.mem_cons_self
    have h3 := hr.head
    have h4 := Int.mul_nonneg (show (0 : Int) ≤ r by omega) h1
    show 0 ≤ b + r * W rs bs
    omega
theorem W_lt {B : Nat} : ∀ (rs bs : List Int), Rat rs → (∀ b ∈ bs, 0 ≤ b) → (∀ b ∈ bs, b < ((2 ^ B : Nat) : Int)) → W rs bs < ((13 ^ rs.length * 2 ^ B : Nat) : Int)
  | [], [], _, _, _ => by
    have : 0 < 2 ^ B := Nat.pow_pos (by decide)
    simp only [W, List.length_nil, Nat.pow_zero, Nat.one_mul]
    omega
  | [], b :: _, _, _, h => by
    have := h b List.mem_cons_self
    simp only [W, List.length_nil, Nat.pow_zero, Nat.one_mul]
    exact this
  | r :: rs, [], _, _, _ => by
    have : 0 < 13 ^ (r :: rs).length * 2 ^ B := Nat.mul_pos (Nat.pow_pos (by decide)) (Nat.pow_pos (by decide))
    simp only [W]
    omega
  | r :: rs, b :: bs, hr, h0, h => by
    have h1 := W_nonneg rs bs hr.tail fun x hx => h0 x (List.mem_cons_of_mem _ hx)
    have h2 := W_lt rs bs hr.tail (fun x hx => h0 x (List.mem_cons_of_mem _ hx)) fun x hx => h x (List.mem_cons_of_mem _ hx)
    have h3 := h b List.mem_cons_self
    have h4 := hr.head
    have h5 : r * W rs bs ≤ 12 * W rs bs := Int.mul_le_mul_of_nonneg_right h4.2 h1
    have h6 : 2 ^ B ≤ 13 ^ rs.length * 2 ^ B := Nat.le_mul_of_pos_left _ (Nat.pow_pos (by decide))
    have h7 : 13 ^ (r :: rs).length * 2 ^ B = 13 * (13 ^ rs.length * 2 ^ B) := by rw [List.length_cons, Nat.pow_succ, Nat.mul_comm (13 ^ rs.length) 13, Nat.mul_assoc]
    show b + r * W rs bs < _
    rw [h7]
    omega
theorem W_small {rs bs : List Int} (g : GF rs) (h0 : ∀ b ∈ bs, 0 ≤ b) (h : ∀ b ∈ bs, b < 2 ^ 200) : 0 ≤ W rs bs ∧ W rs bs < 2 ^ 250 := by
  refine ⟨W_nonneg rs bs g.2 h0, ?_⟩
  have h1 := W_lt (B := 200) rs bs g.2 h0 fun b hb => by have := h b hb; rw [Int.natCast_pow]; exact this
  have h2 : 13 ^ rs.length ≤ 13 ^ 11 := Nat.pow_le_pow_right (by decide) g.1
  have h3 : 13 ^ rs.length * 2 ^ 200 ≤ 13 ^ 11 * 2 ^ 200 := Nat.mul_le_mul_right _ h2
  have h4 : 13 ^ 11 * 2 ^ 200 < 2 ^ 250 := by decide
  have h5 : ((13 ^ rs.length * 2 ^ 200 : Nat) : Int) < ((2 ^ 250 : Nat) : Int) := by omega
  have h6 : ((2 ^ 250 : Nat) : Int) = 2 ^ 250 := by rw [Int.natCast_pow]; rfl
  rw [h6] at h5
  omega
theorem D_W : ∀ (rs : List Int) (n : Int), Rat rs → W rs (D rs n) = n
  | [], n, _ => rfl
  | r :: rs, n, h => by
    show n % r + r * W rs (D rs (n / r)) = n
    rw [D_W rs (n / r) h.tail]
    exact Int.emod_add_mul_ediv n r
theorem D_nonneg : ∀ (rs : List Int) (n : Int), Rat rs → 0 ≤ n → ∀ b ∈ D rs n, 0 ≤ b
  | [], n, _, h0, b, hb => by
    have : b = n := by simpa [D] using hb
    omega
  | r :: rs, n, h, h0, b, hb => by
    have h3 := h.head
    rcases List.mem_cons.mp hb with e | hb
    · rw [e]
      exact Int.emod_nonneg n (by omega)
    · exact D_nonneg rs (n / r) h.tail (Int.ediv_nonneg h0 (by omega)) b hb
theorem D_GB (rs : List Int) (n : Int) (h : Rat rs) (h0 : 0 ≤ n) : GB rs (D rs n) := ⟨D_len rs n, D_nonneg rs n h h0⟩
theorem D_le : ∀ (rs : List Int) (n : Int), Rat rs → 0 ≤ n → ∀ b ∈ D rs n, b ≤ n
  | [], n, _, h0, b, hb => by
    have : b = n := by simpa [D] using hb
    omega
  | r :: rs, n, h, h0, b, hb => by
    have h3 := h.head
    have h4 : n / r ≤ n := Int.ediv_le_self _ h0
    rcases List.mem_cons.mp hb with e | hb
    · rw [e]
      have := Int.emod_add_mul_ediv n r
      have h5 := Int.mul_nonneg (show (0 : Int) ≤ r by omega) (Int.ediv_nonneg h0 (show (0 : Int) ≤ r by omega))
      omega
    · have := D_le rs (n / r) h.tail (Int.ediv_nonneg h0 (by omega)) b hb
      omega
/-- fewer counters than its ratio on each line but the last -/
def Pl : List Int → List Int → Prop
  | r :: rs, b :: bs => b < r ∧ Pl rs bs
  | _, _ => True
theorem D_Pl : ∀ (rs : List Int) (n : Int), Rat rs → Pl rs (D rs n)
  | [], _, _ => trivial
  | r :: rs, n, h => by
    have h3 := h.head
    exact ⟨Int.emod_lt_of_pos n (by omega), D_Pl rs (n / r) h.tail⟩
/-- there is just one plain board of a worth -/
theorem D_uniq : ∀ (rs bs : List Int), Rat rs → GB rs bs → Pl rs bs → D rs (W rs bs) = bs
  | [], [b], _, _, _ => rfl
  | [], [], _, h, _ => by cases h.1
  | [], _ :: _ :: _, _, h, _ => by have := h.1; simp at this
  | _ :: _, [], _, h, _ => by cases h.1
  | r :: rs, b :: bs, hr, h, p => by
    have h3 := hr.head
    have h0 := h.2 b List.mem_cons_self
    have e1 : (b + r * W rs bs) % r = b := by
      rw [Int.add_mul_emod_self_left]
      exact Int.emod_eq_of_lt h0 p.1
    have e2 : (b + r * W rs bs) / r = W rs bs := by
      rw [Int.add_mul_ediv_left _ _ (by omega), Int.ediv_eq_zero_of_lt h0 p.1, Int.zero_add]
    show (b + r * W rs bs) % r :: D rs ((b + r * W rs bs) / r) = b :: bs
    rw [e1, e2, D_uniq rs bs hr.tail h.tail p.2]
theorem R_len : ∀ (rs bs : List Int) (c : Int), bs.length = rs.length + 1 → (R rs bs c).length = rs.length
  | [], [], _, _ => rfl
  | [], _ :: _, _, _ => rfl
  | _ :: _, [], _, h => by cases h
  | r :: rs, b :: bs, c, h => by
    show (R rs bs ((b + c) / r)).length + 1 = rs.length + 1
    rw [R_len rs bs _ (by simpa using h)]
end CB
namespace CB
open PySem PySem.Spec PyProof.Rows L2
theorem Pl_iff : ∀ rs bs : List Int, Pl rs bs ↔ ∀ (j : Nat) (r b : Int), rs[j]? = some r → bs[j]? = some b → b < r
  | [], bs => by simp [Pl]
  | r :: rs, [] => by simp [Pl]
  | r :: rs, b :: bs => by
    have ih := Pl_iff rs bs
    constructor
    · rintro ⟨h1, h2⟩ j r' b' hr hb
      cases j with
      | zero =>
        cases hr
        cases hb
        exact h1
      | succ j => exact ih.mp h2 j r' b' hr hb
    · intro h
      exact ⟨h 0 r b rfl rfl, ih.mpr fun j r' b' hr hb => h (j + 1) r' b' hr hb⟩
theorem bs_of20 {bs : List Int} (h : ∀ x ∈ bs, x < 10 ^ 20) : BS bs := fun b hb => by
  have h1 := h b hb
  have h2 : (10 : Int) ^ 20 < 2 ^ 200 := by decide
  omega
theorem and_true {a b : Bool} (h1 : a = true) (h2 : b = true) : (a && b) = true := by rw [h1, h2]; rfl
end CB
namespace CB
open PySem PySem.Spec PyProof.Rows L2
theorem W_step : ∀ (rs fs : List Int) (L : Nat) (r x y m : Int), fs.length = rs.length + 1 → rs[L]? = some r → fs[L]? = some x → fs[L + 1]? = some y → W rs ((fs.set (L + 1) (y - m)).set L (x + m * r)) = W rs fs
  | [], _, _, _, _, _, _, _, h, _, _ => by simp at h
  | r0 :: rs, [], _, _, _, _, _, h, _, _, _ => by cases h
  | r0 :: rs, [_], _, _, _, _, _, h, _, _, _ => by simp at h
  | r0 :: rs, f :: f2 :: fs, 0, r, x, y, m, h, hr, hx, hy => by
    cases hr
    cases hx
    cases hy
    show (f + m * r0) + r0 * W rs ((f2 - m) :: fs) = f + r0 * W rs (f2 :: fs)
    have e : W rs ((f2 - m) :: fs) = W rs (f2 :: fs) - m := by
      cases rs with
      | nil => rfl
      | cons s rs => show f2 - m + s * W rs fs = f2 + s * W rs fs - m; omega
    rw [e, Int.mul_sub, Int.mul_comm m r0]
    omega
  | r0 :: rs, f :: f2 :: fs, L + 1, r, x, y, m, h, hr, hx, hy => by
    have ih := W_step rs (f2 :: fs) L r x y m (by simpa using h) hr hx hy
    show f + r0 * W rs (((f2 :: fs).set (L + 1) (y - m)).set L (x + m * r)) = f + r0 * W rs (f2 :: fs)
    rw [ih]
theorem set_comm' {α : Type} {l : List α} {i j : Nat} {x y : α} (h : i ≠ j) : (l.set i x).set j y = (l.set j y).set i x := by
  refine List.ext_getElem? fun k => ?_
  rw [List.getElem?_set, List.getElem?_set, List.getElem?_set, List.getElem?_set]
  simp only [List.length_set]
  by_cases h1 : j = k <;> by_cases h2 : i = k
  · exact absurd (h2.trans h1.symm) h
  · simp [h1, h2]
  · simp [h1, h2]
  · simp [h1, h2]
theorem W_head (rs : List Int) (b c : Int) (bs : List Int) : W rs ((b + c) :: bs) = W rs (b :: bs) + c := by
  cases rs with
  | nil => rfl
  | cons r rs => show b + c + r * W rs bs = b + r * W rs bs + c; omega
/-- raising once for all on the lowest line -/
theorem D_carry (r : Int) (rs : List Int) (b b2 : Int) (bs : List Int) (h : 0 < r) : D (r :: rs) (W (r :: rs) (b :: b2 :: bs)) = b % r :: D rs (W rs ((b2 + b / r) :: bs)) := by
  show (b + r * W rs (b2 :: bs)) % r :: D rs ((b + r * W rs (b2 :: bs)) / r) = _
  rw [Int.add_mul_emod_self_left, Int.add_mul_ediv_left _ _ (by omega), W_head, Int.add_comm (b / r)]
theorem sumD : ∀ rs bs : List Int, Rat rs → GB rs bs → (D rs (W rs bs)).sum ≤ bs.sum ∧ ((D rs (W rs bs)).sum = bs.sum → D rs (W rs bs) = bs)
  | [], [b], _, _ => ⟨Int.le_refl _, fun _ => rfl⟩
  | [], [], _, h => by cases h.1
  | [], _ :: _ :: _, _, h => by have := h.1; simp at this
  | _ :: _, [], _, h => by cases h.1
  | _ :: _, [_], _, h => by have := h.1; simp at this
  | r :: rs, b :: b2 :: bs, hr, h => by
    have h3 := hr.head
    have hb := h.2 b List.mem_cons_self
    have hb2 := h.2 b2 (List.mem_cons_of_mem _ List.mem_cons_self)
    have hq : 0 ≤ b / r := Int.ediv_nonneg hb (by omega)
    have hg : GB rs ((b2 + b / r) :: bs) := ⟨by have := h.1; simpa using this, fun x hx => by
      rcases List.mem_cons.mp hx with e | hx
      · omega
      · exact h.2 x (List.mem_cons_of_mem _ (List.mem_cons_of_mem _ hx))⟩
    obtain ⟨i1, i2⟩ := sumD rs ((b2 + b / r) :: bs) hr.tail hg
    have e := Int.emod_add_mul_ediv b r
    have e2 : 2 * (b / r) ≤ r * (b / r) := Int.mul_le_mul_of_nonneg_right h3.1 hq
    rw [D_carry r rs b b2 bs (by omega)]
    rw [List.sum_cons] at i1 i2
    rw [List.sum_cons, List.sum_cons, List.sum_cons]
    refine ⟨by omega, fun hs => ?_⟩
    have hz : b / r = 0 := by omega
    rw [hz] at i2 hs e ⊢
    rw [Int.mul_zero, Int.add_zero] at e
    rw [Int.add_zero] at i2
    rw [Int.add_zero] at hs ⊢
    rw [i2 (by omega), e]
end CB
namespace CB
open PySem PySem.Spec PyProof.Rows L2
/-- the nets -/
def N (rs bs cs : List Int) : List Int := List.zipWith (· - ·) (R rs bs 0) (R rs cs 0)
def abs' (i : Int) : Int := if i < 0 then -i else i
def Nabs (rs bs cs : List Int) : Int := ((N rs bs cs).map abs').sum
theorem N_len {rs bs cs : List Int} (h1 : bs.length = rs.length + 1) (h2 : cs.length = rs.length + 1) : (N rs bs cs).length = rs.length := by
  unfold N
  rw [List.length_zipWith, R_len rs bs 0 h1, R_len rs cs 0 h2, Nat.min_self]
def Du : List Int → List Int → List Int → Int → List Int
  | r :: rs, b :: bs, b' :: cs, c => (b - b' + c) / r :: Du rs bs cs ((b - b' + c) / r)
  | _, _, _, _ => []
theorem N_due : ∀ (rs bs cs : List Int) (c1 c2 : Int), Rat rs → bs.length = rs.length + 1 → cs.length = rs.length + 1 → W rs bs + c1 = W rs cs + c2 → List.zipWith (· - ·) (R rs bs c1) (R rs cs c2) = Du rs bs cs (c1 - c2)
  | [], bs, cs, c1, c2, _, _, _, _ => by simp [R, Du]
  | r :: rs, [], cs, c1, c2, _, h, _, _ => by cases h
  | r :: rs, b :: bs, [], c1, c2, _, _, h, _ => by cases h
  | r :: rs, b :: bs, b' :: cs, c1, c2, hr, h1, h2, hw => by
    have hw' : b + r * W rs bs + c1 = b' + r * W rs cs + c2 := hw
    have h3 := hr.head
    have e1 : (b + c1) / r = (b' + c2) / r + (W rs cs - W rs bs) := by
      have : b + c1 = b' + c2 + r * (W rs cs - W rs bs) := by rw [Int.mul_sub]; omega
      rw [this, Int.add_mul_ediv_left _ _ (by omega)]
    have e2 : (b - b' + (c1 - c2)) / r = W rs cs - W rs bs := by
      have : b - b' + (c1 - c2) = r * (W rs cs - W rs bs) := by rw [Int.mul_sub]; omega
      rw [this, Int.mul_ediv_cancel_left _ (by omega)]
    have ih := N_due rs bs cs ((b + c1) / r) ((b' + c2) / r) hr.tail (by simpa using h1) (by simpa using h2) (by omega)
    show ((b + c1) / r - (b' + c2) / r) :: List.zipWith (· - ·) (R rs bs ((b + c1) / r)) (R rs cs ((b' + c2) / r)) = (b - b' + (c1 - c2)) / r :: Du rs bs cs ((b - b' + (c1 - c2)) / r)
    rw [ih, e2]
    have e3 : (b + c1) / r - (b' + c2) / r = W rs cs - W rs bs := by omega
    rw [e3]
theorem N_is {rs bs cs : List Int} (hr : Rat rs) (h1 : bs.length = rs.length + 1) (h2 : cs.length = rs.length + 1) (hw : W rs bs = W rs cs) : N rs bs cs = Du rs bs cs 0 := by
  have := N_due rs bs cs 0 0 hr h1 h2 (by omega)
  exact this
theorem N_swap (rs bs cs : List Int) : N rs cs bs = (N rs bs cs).map (0 - ·) := by
  unfold N
  generalize R rs bs 0 = xs
  generalize R rs cs 0 = ys
  induction xs generalizing ys with
  | nil => cases ys <;> rfl
  | cons x xs ih =>
    cases ys with
    | nil => rfl
    | cons y ys =>
      rw [List.zipWith_cons_cons, List.zipWith_cons_cons, List.map_cons, ih ys]
      congr 1
      omega
end CB
namespace CB
open PySem PySem.Spec PyProof.Rows L2
/-! ### equality of lists of numbers, of lists of such, of lists of steps -/
def dL (xs : List Int) : PyData := .list (xs.map .int)
def dStep (p : Int × Bool) : PyData := .tuple [.int p.1, .bool p.2]
theorem layAll {ds : List PyData} {n : Nat} (h : ∀ d ∈ ds, d.canLay0 = true ∧ d.depth ≤ n) : PyData.canLayAll0 ds = true ∧ PyData.depthAll ds ≤ n := by
  induction ds with
  | nil => exact ⟨rfl, by simp [PyData.depthAll]⟩
  | cons d ds ih =>
    obtain ⟨h1, h2⟩ := ih fun x hx => h x (List.mem_cons_of_mem _ hx)
    obtain ⟨h3, h4⟩ := h d List.mem_cons_self
    refine ⟨by simp [PyData.canLayAll0, h1, h3], ?_⟩
    simp only [PyData.depthAll]
    omega
theorem lay_int (i : Int) : (PyData.int i).canLay0 = true ∧ (PyData.int i).depth ≤ 0 := ⟨by simp [PyData.canLay0], by simp [PyData.depth]⟩
theorem lay_list {ds : List PyData} {n : Nat} (h : ∀ d ∈ ds, d.canLay0 = true ∧ d.depth ≤ n) : (PyData.list ds).canLay0 = true ∧ (PyData.list ds).depth ≤ n + 1 := by
  obtain ⟨h1, h2⟩ := layAll h
  refine ⟨by simpa [PyData.canLay0] using h1, ?_⟩
  simp only [PyData.depth]
  omega
theorem lay_dL (xs : List Int) : (dL xs).canLay0 = true ∧ (dL xs).depth ≤ 1 := lay_list (n := 0) fun d hd => by
  obtain ⟨i, _, rfl⟩ := List.mem_map.mp hd
  exact lay_int i
theorem lay_dStep (p : Int × Bool) : (dStep p).canLay0 = true ∧ (dStep p).depth ≤ 1 := ⟨by simp [dStep, PyData.canLay0, PyData.canLayAll0], by simp [dStep, PyData.depth, PyData.depthAll]⟩
theorem shaped_of {d : PyData} {n : Nat} (h : d.canLay0 = true ∧ d.depth ≤ n) (hn : n ≤ 64) : SeqAt.shaped d = true := by
  unfold SeqAt.shaped
  rw [h.1, Bool.true_and]
  exact decide_eq_true (Nat.le_trans h.2 hn)
theorem shaped_dL (xs : List Int) : SeqAt.shaped (dL xs) = true := shaped_of (lay_dL xs) (by decide)
theorem shaped_dLL (xss : List (List Int)) : SeqAt.shaped (.list (xss.map dL)) = true := shaped_of (lay_list (n := 1) fun d hd => by
  obtain ⟨xs, _, rfl⟩ := List.mem_map.mp hd
  exact lay_dL xs) (by decide)
theorem shaped_dStep (p : Int × Bool) : SeqAt.shaped (dStep p) = true := shaped_of (lay_dStep p) (by decide)
theorem shaped_dLT (ps : List (Int × Bool)) : SeqAt.shaped (.list (ps.map dStep)) = true := shaped_of (lay_list (n := 1) fun d hd => by
  obtain ⟨p, _, rfl⟩ := List.mem_map.mp hd
  exact lay_dStep p) (by decide)
theorem eqvAll_map {α : Type} [DecidableEq α] {f : α → PyData} (h : ∀ a b, PyData.eqv (f a) (f b) = decide (a = b)) : ∀ xs ys : List α, PyData.eqvAll (xs.map f) (ys.map f) = decide (xs = ys)
  | [], [] => by simp [PyData.eqvAll]
  | [], _ :: _ => by simp [PyData.eqvAll]
  | _ :: _, [] => by simp [PyData.eqvAll]
  | x :: xs, y :: ys => by
    simp only [List.map_cons, PyData.eqvAll, h, eqvAll_map h xs ys]
    by_cases e1 : x = y <;> by_cases e2 : xs = ys <;> simp [e1, e2]
theorem eqv_int (a b : Int) : PyData.eqv (.int a) (.int b) = decide (a = b) := by simp only [PyData.eqv]; exact Bool.beq_eq_decide_eq _ _
theorem eqv_dL (xs ys : List Int) : PyData.eqv (dL xs) (dL ys) = decide (xs = ys) := by
  unfold dL
  simp only [PyData.eqv]
  exact eqvAll_map eqv_int xs ys
theorem eqv_dLL (xs ys : List (List Int)) : PyData.eqv (.list (xs.map dL)) (.list (ys.map dL)) = decide (xs = ys) := by
  simp only [PyData.eqv]
  exact eqvAll_map eqv_dL xs ys
theorem eqv_dStep (p q : Int × Bool) : PyData.eqv (dStep p) (dStep q) = decide (p = q) := by
  obtain ⟨a, b⟩ := p
  obtain ⟨c, d⟩ := q
  unfold dStep
  simp only [PyData.eqv, PyData.eqvAll, Bool.and_true]
  by_cases e1 : a = c <;> by_cases e2 : b = d <;> simp [e1, e2]
theorem eqv_dLT (xs ys : List (Int × Bool)) : PyData.eqv (.list (xs.map dStep)) (.list (ys.map dStep)) = decide (xs = ys) := by
  simp only [PyData.eqv]
  exact eqvAll_map eqv_dStep xs ys
section
variable {K : PySem.W.Frag} {H : Hp}
theorem dpAll_int : ∀ xs : List Int, DpAll K H (xs.map V.int) (xs.map PyData.int)
  | [] => .nil
  | x :: xs => .cons (.int x) (dpAll_int xs)
theorem dp_L {a : Addr} {xs : List Int} (h : SqL K H a (xs.map V.int)) : Dp K H (.ref a) (dL xs) := .lst h (dpAll_int xs)
theorem dp_L2 {a p q : Addr} {xs ys : List Int} (h : SqL K H a [.ref p, .ref q]) (hp : SqL K H p (xs.map V.int)) (hq : SqL K H q (ys.map V.int)) : Dp K H (.ref a) (.list ([xs, ys].map dL)) :=
  .lst h (.cons (dp_L hp) (.cons (dp_L hq) .nil))
theorem dp_L3 {a p q r : Addr} {xs ys zs : List Int} (h : SqL K H a [.ref p, .ref q, .ref r]) (hp : SqL K H p (xs.map V.int)) (hq : SqL K H q (ys.map V.int)) (hr : SqL K H r (zs.map V.int)) : Dp K H (.ref a) (.list ([xs, ys, zs].map dL)) :=
  .lst h (.cons (dp_L hp) (.cons (dp_L hq) (.cons (dp_L hr) .nil)))
end
end CB
namespace CB
open PySem PySem.Spec PyProof.Rows L2
/-! ### a list that grows; walks over zip of any two lists -/
def Gr (H : Hp) (D : Addr) (out : List V) (i : Nat) (H' : Hp) : Prop := Same H H' ∧ H' D = some (.lst (out.take i))
theorem Gr.zero {H : Hp} {D : Addr} (out : List V) (h : H D = none) : Gr H D out 0 (upd H D (.lst [])) := ⟨same_upd h, upd_same⟩
theorem Gr.step {H H' H'' : Hp} {D : Addr} {out : List V} {i : Nat} {y : V} (g : Gr H D out i H') (h : H D = none) (hl : out.length ≤ 100000) (hy : out[i]? = some y) (s : Same H' H'') :
    H'' D = some (.lst (out.take i)) ∧ (out.take i).length < sizeLine ∧ Gr H D out (i + 1) (upd H'' D (.lst (out.take i ++ [y]))) := by
  refine ⟨s _ _ g.2, small64 (by rw [List.length_take]; omega), fun b o e => ?_, ?_⟩
  · rw [upd_ne (ne_of_none e h)]
    exact s _ _ (g.1 _ _ e)
  · rw [upd_same, take_more hy]
theorem Gr.done {H H' : Hp} {D : Addr} {out : List V} {i : Nat} (g : Gr H D out i H') (h : out.length ≤ i) : H' D = some (.lst out) := by
  have := g.2
  rw [List.take_of_length_le h] at this
  exact this
theorem lc_zip {K : PySem.W.Frag} {a b : Addr} {xs ys : List V} {g : TG} {tt : TT} {te : TE} {vs : List Nat} {σ : L2.St} {H1 : Hp} {D : Addr} {Qd : Hp → Prop} (n : Nat) (hn : n = min xs.length ys.length) (Pv : Nat → Hp → Prop) (h0 : Pv 0 (upd H1 D (.lst [])))
    (hq : ∀ i H, Pv i H → SqL K H a xs ∧ SqL K H b ys)
    (hs : ∀ (i : Nat) (x y : V) (T : Addr) (H : Hp), xs[i]? = some x → ys[i]? = some y → Pv i H → H T = none → g (.ref T) (wipe σ vs) (upd H T (.tup [x, y])) fun σ2 H2 => wipe σ2 vs = wipe σ vs ∧ tt σ2 H2 fun b H3 =>
      if b = true then te σ2 H3 fun y H4 => ∃ acc, H4 D = some (.lst acc) ∧ acc.length < sizeLine ∧ Pv (i + 1) (upd H4 D (.lst (acc ++ [y]))) else Pv (i + 1) H3) (hd : ∀ H, Pv n H → Qd H) :
    ∃ W : Nat → Nat → Hp → Prop, (∃ m, W 0 m (upd H1 D (.lst []))) ∧ ∀ i m H, W i m H →
      ((Itz K a b).stop i H ∧ Qd H) ∨ ((Itz K a b).go i H ∧ ∃ Nx : Hp → Prop, (∀ H', Nx H' → ∃ m', m' < m ∧ W (i + 1) m' H') ∧ ∀ x H', (Itz K a b).yld i H x H' → g x (wipe σ vs) H' fun σ2 H2 => wipe σ2 vs = wipe σ vs ∧ tt σ2 H2 fun b H3 =>
        if b = true then te σ2 H3 fun y H4 => ∃ acc, H4 D = some (.lst acc) ∧ acc.length < sizeLine ∧ Nx (upd H4 D (.lst (acc ++ [y]))) else Nx H3) := by
  refine ⟨fun i m H => m = n - i ∧ i ≤ n ∧ Pv i H, ⟨n, by simp, Nat.zero_le _, h0⟩, ?_⟩
  rintro i m H ⟨rfl, hi, p⟩
  obtain ⟨qx, qy⟩ := hq i H p
  by_cases hlt : i < n
  · have hl1 : i < xs.length := by omega
    have hl2 : i < ys.length := by omega
    refine .inr ⟨⟨xs, ys, _, _, qx, qy, List.getElem?_eq_getElem hl1, List.getElem?_eq_getElem hl2⟩, Pv (i + 1), fun H' p' => ⟨n - (i + 1), by omega, rfl, hlt, p'⟩, fun v H' y => ?_⟩
    obtain ⟨T, x', y', rfl, hT, rfl, f1, f2⟩ := y
    exact hs i x' y' T H (f1 xs qx) (f2 ys qy) p hT
  · have e : i = n := by omega
    subst e
    exact .inl ⟨⟨xs, ys, qx, qy, by omega⟩, hd H p⟩
theorem for_zip {K : PySem.W.Frag} {a b : Addr} {xs ys : List V} {g : TG} {tb : TS} {D : Ends} {σ : L2.St} {H : Hp} (n : Nat) (hn : n = min xs.length ys.length) (Pv : Nat → L2.St → Hp → Prop) (h0 : Pv 0 σ H) (hq : ∀ i σ H, Pv i σ H → SqL K H a xs ∧ SqL K H b ys)
    (hs : ∀ (i : Nat) (x y : V) (T : Addr) (σ : L2.St) (H : Hp), xs[i]? = some x → ys[i]? = some y → Pv i σ H → H T = none → g (.ref T) σ (upd H T (.tup [x, y])) fun σ2 H2 => tb { D with nx := Pv (i + 1), ct := Pv (i + 1), bk := D.nx } σ2 H2) (hd : ∀ σ H, Pv n σ H → D.nx σ H) :
    ∃ W : Nat → Nat → L2.St → Hp → Prop, (∃ m, W 0 m σ H) ∧ ∀ i m σ H, W i m σ H →
      ((Itz K a b).stop i H ∧ D.nx σ H) ∨ ((Itz K a b).go i H ∧ ∃ N : L2.St → Hp → Prop, (∀ σ' H', N σ' H' → ∃ m', m' < m ∧ W (i + 1) m' σ' H') ∧ ∀ v H', (Itz K a b).yld i H v H' → g v σ H' fun σ2 H2 => tb { D with nx := N, ct := N, bk := D.nx } σ2 H2) := by
  refine ⟨fun i m σ H => m = n - i ∧ i ≤ n ∧ Pv i σ H, ⟨n, rfl, Nat.zero_le _, h0⟩, ?_⟩
  rintro i m σ H ⟨rfl, hi, p⟩
  obtain ⟨qx, qy⟩ := hq i σ H p
  by_cases hlt : i < n
  · have hl1 : i < xs.length := by omega
    have hl2 : i < ys.length := by omega
    refine .inr ⟨⟨xs, ys, _, _, qx, qy, List.getElem?_eq_getElem hl1, List.getElem?_eq_getElem hl2⟩, Pv (i + 1), fun σ' H' p' => ⟨n - (i + 1), by omega, rfl, hlt, p'⟩, fun v H' y => ?_⟩
    obtain ⟨T, x', y', rfl, hT, rfl, f1, f2⟩ := y
    exact hs i x' y' T σ H (f1 xs qx) (f2 ys qy) p hT
  · have e : i = n := by omega
    subst e
    exact .inl ⟨⟨xs, ys, qx, qy, by omega⟩, hd σ H p⟩
end CB
namespace CB
open PySem PySem.Spec PyProof.Rows L2
/-! ### steps -/
def sg (up : Bool) : Int := if up then 1 else -1
def goesB (rs bs : List Int) (L : Nat) (up : Bool) : Bool := if up then decide (rs.getD L 0 ≤ bs.getD L 0) else decide (1 ≤ bs.getD (L + 1) 0)
def stepL (rs bs : List Int) (L : Nat) (up : Bool) : List Int := (bs.set L (bs.getD L 0 - sg up * rs.getD L 0)).set (L + 1) (bs.getD (L + 1) 0 + sg up)
def optP (rs bs : List Int) (L : Nat) (up : Bool) : List (Int × Bool) := if goesB rs bs L up = true then [((L : Int), up)] else []
def canP (rs bs : List Int) (i : Nat) : List (Int × Bool) := (List.range i).flatMap fun L => optP rs bs L true ++ optP rs bs L false
def canL (rs bs : List Int) : List (Int × Bool) := canP rs bs rs.length
theorem canP_succ (rs bs : List Int) (i : Nat) : canP rs bs (i + 1) = (canP rs bs i ++ optP rs bs i true) ++ optP rs bs i false := by
  unfold canP
  rw [List.range_succ, List.flatMap_append, List.flatMap_cons, List.flatMap_nil, List.append_nil, List.append_assoc]
theorem optP_len (rs bs : List Int) (L : Nat) (up : Bool) : (optP rs bs L up).length ≤ 1 := by
  unfold optP
  split <;> simp
theorem canP_len (rs bs : List Int) (i : Nat) : (canP rs bs i).length ≤ 2 * i := by
  induction i with
  | zero => exact Nat.le_refl _
  | succ i ih =>
    rw [canP_succ, List.length_append, List.length_append]
    have := optP_len rs bs i true
    have := optP_len rs bs i false
    omega
theorem mem_opt {rs bs : List Int} {L : Nat} {up : Bool} {p : Int × Bool} : p ∈ optP rs bs L up ↔ p = ((L : Int), up) ∧ goesB rs bs L up = true := by
  unfold optP
  split
  · rename_i h
    simp [h]
  · rename_i h
    simp [h]
theorem mem_can {rs bs : List Int} {p : Int × Bool} : p ∈ canL rs bs ↔ ∃ L : Nat, L < rs.length ∧ p.1 = (L : Int) ∧ goesB rs bs L p.2 = true := by
  unfold canL canP
  rw [List.mem_flatMap]
  constructor
  · rintro ⟨L, hL, hp⟩
    rcases List.mem_append.mp hp with h | h
    · obtain ⟨e, g⟩ := mem_opt.mp h
      subst e
      exact ⟨L, List.mem_range.mp hL, rfl, g⟩
    · obtain ⟨e, g⟩ := mem_opt.mp h
      subst e
      exact ⟨L, List.mem_range.mp hL, rfl, g⟩
  · rintro ⟨L, hL, e, g⟩
    obtain ⟨l, up⟩ := p
    simp only at e g
    subst e
    refine ⟨L, List.mem_range.mpr hL, List.mem_append.mpr ?_⟩
    cases up with
    | true => exact .inl (mem_opt.mpr ⟨rfl, g⟩)
    | false => exact .inr (mem_opt.mpr ⟨rfl, g⟩)
theorem stepL_len (rs bs : List Int) (L : Nat) (up : Bool) : (stepL rs bs L up).length = bs.length := by
  unfold stepL
  rw [List.length_set, List.length_set]
theorem stepL_get {rs bs : List Int} {L j : Nat} {up : Bool} (h : L + 1 < bs.length) : (stepL rs bs L up)[j]? = if j = L then some (bs.getD L 0 - sg up * rs.getD L 0) else if j = L + 1 then some (bs.getD (L + 1) 0 + sg up) else bs[j]? := by
  unfold stepL
  rw [List.getElem?_set, List.getElem?_set, List.length_set]
  by_cases h1 : j = L
  · subst h1
    rw [if_pos rfl, if_neg (by omega), if_pos rfl, if_pos (by omega)]
  · rw [if_neg h1]
    by_cases h2 : j = L + 1
    · subst h2
      rw [if_pos rfl, if_pos rfl, if_pos h]
    · rw [if_neg h2, if_neg (by omega), if_neg (by omega)]
theorem getD_of {l : List Int} {i : Nat} (h : i < l.length) : l[i]? = some (l.getD i 0) := by
  rw [List.getD_eq_getElem?_getD, List.getElem?_eq_getElem h]
  rfl
theorem W_stepL {rs bs : List Int} {L : Nat} (up : Bool) (hb : bs.length = rs.length + 1) (h : L < rs.length) : W rs (stepL rs bs L up) = W rs bs := by
  have := W_step rs bs L (rs.getD L 0) (bs.getD L 0) (bs.getD (L + 1) 0) (-(sg up)) hb (getD_of h) (getD_of (by omega)) (getD_of (by omega))
  unfold stepL
  rw [set_comm' (by omega)]
  rw [← this]
  congr 2
  · congr 1
    omega
  · rw [Int.neg_mul]
    omega
theorem GB_stepL {rs bs : List Int} {L : Nat} {up : Bool} (hr : Rat rs) (gb : GB rs bs) (h : L < rs.length) (hg : goesB rs bs L up = true) : GB rs (stepL rs bs L up) := by
  have hb := gb.1
  refine ⟨by rw [stepL_len]; exact hb, fun x hx => ?_⟩
  obtain ⟨j, hj⟩ := List.getElem?_of_mem hx
  rw [stepL_get (by omega)] at hj
  have hr0 := hr (rs.getD L 0) (List.mem_of_getElem? (getD_of h))
  have hb0 := gb.2 (bs.getD L 0) (List.mem_of_getElem? (getD_of (by omega)))
  have hb1 := gb.2 (bs.getD (L + 1) 0) (List.mem_of_getElem? (getD_of (by omega)))
  by_cases h1 : j = L
  · rw [if_pos h1] at hj
    have e := Option.some.inj hj
    cases up with
    | true =>
      have := of_decide_eq_true (show decide (rs.getD L 0 ≤ bs.getD L 0) = true from hg)
      simp only [sg, if_true, Int.one_mul] at e
      omega
    | false =>
      have e' : bs.getD L 0 - -1 * rs.getD L 0 = x := e
      omega
  · rw [if_neg h1] at hj
    by_cases h2 : j = L + 1
    · rw [if_pos h2] at hj
      have e := Option.some.inj hj
      cases up with
      | true =>
        have e' : bs.getD (L + 1) 0 + 1 = x := e
        omega
      | false =>
        have := of_decide_eq_true (show decide (1 ≤ bs.getD (L + 1) 0) = true from hg)
        have e' : bs.getD (L + 1) 0 + -1 = x := e
        omega
    · rw [if_neg h2] at hj
      exact gb.2 x (List.mem_of_getElem? hj)
theorem sg_not (up : Bool) : sg (!up) = - sg up := by cases up <;> rfl
theorem stepL_getD {rs bs : List Int} {L : Nat} {up : Bool} (h : L + 1 < bs.length) : (stepL rs bs L up).getD L 0 = bs.getD L 0 - sg up * rs.getD L 0 ∧ (stepL rs bs L up).getD (L + 1) 0 = bs.getD (L + 1) 0 + sg up := by
  constructor
  · rw [List.getD_eq_getElem?_getD, stepL_get h, if_pos rfl]
    rfl
  · rw [List.getD_eq_getElem?_getD, stepL_get h, if_neg (by omega), if_pos rfl]
    rfl
/-- the contrary step can be done and leads back -/
theorem step_back {rs bs : List Int} {L : Nat} {up : Bool} (hr : Rat rs) (gb : GB rs bs) (h : L < rs.length) : goesB rs (stepL rs bs L up) L (!up) = true ∧ stepL rs (stepL rs bs L up) L (!up) = bs := by
  have hb := gb.1
  have hl : L + 1 < bs.length := by omega
  have hb0 := gb.2 (bs.getD L 0) (List.mem_of_getElem? (getD_of (by omega)))
  have hb1 := gb.2 (bs.getD (L + 1) 0) (List.mem_of_getElem? (getD_of (by omega)))
  obtain ⟨e1, e2⟩ := stepL_getD (rs := rs) (bs := bs) (L := L) (up := up) hl
  constructor
  · cases up with
    | true =>
      show decide (1 ≤ (stepL rs bs L true).getD (L + 1) 0) = true
      rw [e2]
      exact decide_eq_true (show 1 ≤ bs.getD (L + 1) 0 + 1 by omega)
    | false =>
      show decide (rs.getD L 0 ≤ (stepL rs bs L false).getD L 0) = true
      rw [e1]
      exact decide_eq_true (show rs.getD L 0 ≤ bs.getD L 0 - -1 * rs.getD L 0 by omega)
  · refine List.ext_getElem? fun j => ?_
    rw [stepL_get (by rw [stepL_len]; exact hl), e1, e2, sg_not]
    by_cases h1 : j = L
    · rw [if_pos h1, h1, getD_of (show L < bs.length by omega)]
      congr 1
      rw [Int.neg_mul]
      omega
    · rw [if_neg h1]
      by_cases h2 : j = L + 1
      · rw [if_pos h2, h2, getD_of hl]
        congr 1
        omega
      · rw [if_neg h2, stepL_get hl, if_neg h1, if_neg h2]
/-! ### steps in the heap -/
def Tups (H : Hp) : List Addr → List (Int × Bool) → Prop
  | [], [] => True
  | t :: ts, s :: ss => H t = some (.tup [.int s.1, .bl s.2]) ∧ Tups H ts ss
  | _, _ => False
theorem Tups.imp {H H' : Hp} (k : ∀ t xs, H t = some (.tup xs) → H' t = some (.tup xs)) : ∀ {ts : List Addr} {ss : List (Int × Bool)}, Tups H ts ss → Tups H' ts ss
  | [], [], _ => trivial
  | [], _ :: _, h => h.elim
  | _ :: _, [], h => h.elim
  | t :: ts, s :: ss, h => ⟨k _ _ h.1, Tups.imp k h.2⟩
theorem Tups.same {H H' : Hp} {ts : List Addr} {ss : List (Int × Bool)} (h : Tups H ts ss) (s : Same H H') : Tups H' ts ss := h.imp fun t xs e => s _ _ e
theorem Tups.upd {H : Hp} {p : Addr} {xs : List V} {o : HO} {ts : List Addr} {ss : List (Int × Bool)} (h : Tups H ts ss) (e : H p = some (.lst xs)) : Tups (L2.upd H p o) ts ss := h.imp fun t ys e' => by
  rw [upd_ne (ne_of e' e (fun z => by cases z))]
  exact e'
theorem Tups.len {H : Hp} : ∀ {ts : List Addr} {ss : List (Int × Bool)}, Tups H ts ss → ts.length = ss.length
  | [], [], _ => rfl
  | [], _ :: _, h => h.elim
  | _ :: _, [], h => h.elim
  | t :: ts, s :: ss, h => by rw [List.length_cons, List.length_cons, Tups.len h.2]
theorem Tups.append {H : Hp} : ∀ {ts us : List Addr} {ss rr : List (Int × Bool)}, Tups H ts ss → Tups H us rr → Tups H (ts ++ us) (ss ++ rr)
  | [], _, [], _, _, h => h
  | [], _, _ :: _, _, h, _ => h.elim
  | _ :: _, _, [], _, h, _ => h.elim
  | t :: ts, us, s :: ss, rr, h, h2 => ⟨h.1, Tups.append h.2 h2⟩
theorem Tups.get {H : Hp} : ∀ {ts : List Addr} {ss : List (Int × Bool)} {i : Nat} {s : Int × Bool}, Tups H ts ss → ss[i]? = some s → ∃ t, ts[i]? = some t ∧ H t = some (.tup [.int s.1, .bl s.2])
  | [], [], i, s, _, e => by simp at e
  | [], _ :: _, _, _, h, _ => h.elim
  | _ :: _, [], _, _, h, _ => h.elim
  | t :: ts, s :: ss, 0, s', h, e => by
    cases e
    exact ⟨t, rfl, h.1⟩
  | t :: ts, s :: ss, i + 1, s', h, e => Tups.get (i := i) h.2 e
def TellT (H : Hp) (Q : VK) (ss : List (Int × Bool)) : Prop := ∀ (H' : Hp) (p : Addr) (ts : List Addr), Same H H' → H p = none → H' p = some (.lst (ts.map V.ref)) → Tups H' ts ss → Q (.ref p) H'
theorem dpAll_T {K : PySem.W.Frag} {H : Hp} : ∀ {ts : List Addr} {ss : List (Int × Bool)}, Tups H ts ss → DpAll K H (ts.map V.ref) (ss.map dStep)
  | [], [], _ => .nil
  | [], _ :: _, h => h.elim
  | _ :: _, [], h => h.elim
  | t :: ts, s :: ss, h => .cons (.tup (SqT.of h.1) (.cons (.int _) (.cons (.bl _) .nil))) (dpAll_T h.2)
theorem dp_LT {K : PySem.W.Frag} {H : Hp} {a : Addr} {ts : List Addr} {ss : List (Int × Bool)} (h : SqL K H a (ts.map V.ref)) (t : Tups H ts ss) : Dp K H (.ref a) (.list (ss.map dStep)) := .lst h (dpAll_T t)
theorem dp_T {K : PySem.W.Frag} {H : Hp} {a : Addr} {s : Int × Bool} (h : H a = some (.tup [.int s.1, .bl s.2])) : Dp K H (.ref a) (dStep s) := .tup (SqT.of h) (.cons (.int _) (.cons (.bl _) .nil))
theorem units65 {A : Around} {k : Nat} (hr : Room k A) : A.units + 65 < cLine := by
  have := hr.un
  omega
theorem any_step (ss : List (Int × Bool)) (s : Int × Bool) : ((ss.map dStep).any fun z => PyData.eqv z (dStep s)) = decide (s ∈ ss) := by
  induction ss with
  | nil => simp
  | cons x xs ih =>
    rw [List.map_cons, List.any_cons, ih, eqv_dStep]
    by_cases h : x = s
    · simp [h]
    · have h' : ¬ s = x := fun z => h z.symm
      simp [h, h']
end CB
namespace CB
open PySem PySem.Spec PyProof.Rows L2
theorem opt_t {rs bs : List Int} {i : Nat} {up : Bool} (h : goesB rs bs i up = true) : optP rs bs i up = [((i : Int), up)] := by unfold optP; rw [if_pos h]
theorem opt_f {rs bs : List Int} {i : Nat} {up : Bool} (h : goesB rs bs i up = false) : optP rs bs i up = [] := by unfold optP; rw [h, if_neg Bool.false_ne_true]
/-- one more step at the end of a list of steps -/
theorem tup_app {H : Hp} {p t : Addr} {ts : List Addr} {ss : List (Int × Bool)} (s : Int × Bool) (hP : H p = some (.lst (ts.map V.ref))) (ht : Tups H ts ss) (nt : H t = none) :
    Tups (upd (upd H t (.tup [.int s.1, .bl s.2])) p (.lst (ts.map V.ref ++ [.ref t]))) (ts ++ [t]) (ss ++ [s]) ∧ (upd (upd H t (.tup [.int s.1, .bl s.2])) p (.lst (ts.map V.ref ++ [.ref t]))) p = some (.lst ((ts ++ [t]).map V.ref)) ∧
      ∀ H0, Same H0 H → H0 p = none → Same H0 (upd (upd H t (.tup [.int s.1, .bl s.2])) p (.lst (ts.map V.ref ++ [.ref t]))) := by
  have s1 := same_upd (o := .tup [.int s.1, .bl s.2]) nt
  have hp1 := s1 _ _ hP
  have dtp : p ≠ t := ne_of_none hP nt
  refine ⟨?_, by rw [upd_same, List.map_append]; rfl, fun H0 s0 n0 c o z => ?_⟩
  · refine Tups.append ((ht.same s1).upd hp1) ⟨?_, trivial⟩
    rw [upd_ne dtp.symm, upd_same]
  · rw [upd_ne (ne_of_none z n0)]
    exact s1 _ _ (s0 _ _ z)
end CB
namespace CB
open PySem PySem.Spec PyProof.Rows L2
/-! ### the way: lowering from the last lines down, then raising from the lowest up -/
def downP (ns : List Int) : Nat → List (Int × Bool)
  | 0 => []
  | i + 1 => downP ns i ++ List.replicate (0 - ns.getD (ns.length - 1 - i) 0).toNat (((ns.length - 1 - i : Nat) : Int), false)
def upP (ns : List Int) : Nat → List (Int × Bool)
  | 0 => []
  | i + 1 => upP ns i ++ List.replicate (ns.getD i 0).toNat ((i : Int), true)
def wayL (ns : List Int) : List (Int × Bool) := downP ns ns.length ++ upP ns ns.length
theorem abs'_split (x : Int) : abs' x = ((0 - x).toNat : Int) + (x.toNat : Int) := by
  unfold abs'
  split <;> omega
def posS (ns : List Int) (i : Nat) : Int := ((ns.take i).map fun x => (x.toNat : Int)).sum
theorem sum_append' (xs ys : List Int) : (xs ++ ys).sum = xs.sum + ys.sum := by
  induction xs with
  | nil => rw [List.nil_append, List.sum_nil]; omega
  | cons x xs ih => rw [List.cons_append, List.sum_cons, List.sum_cons, ih]; omega
theorem upP_len (ns : List Int) : ∀ i, i ≤ ns.length → ((upP ns i).length : Int) = ((ns.take i).map fun x => (x.toNat : Int)).sum
  | 0, _ => by simp [upP]
  | i + 1, h => by
    show ((upP ns i ++ _).length : Int) = _
    rw [List.length_append, List.length_replicate, take_more (getD_of (show i < ns.length by omega)), List.map_append, sum_append', ← upP_len ns i (by omega)]
    simp
theorem drop_more {α : Type} {l : List α} {i : Nat} {x : α} (h : l[i]? = some x) : l.drop i = x :: l.drop (i + 1) := by
  obtain ⟨hi, e⟩ := List.getElem?_eq_some_iff.mp h
  rw [List.drop_eq_getElem_cons hi, e]
theorem downP_len (ns : List Int) : ∀ i, i ≤ ns.length → ((downP ns i).length : Int) = ((ns.drop (ns.length - i)).map fun x => ((0 - x).toNat : Int)).sum
  | 0, _ => by simp [downP]
  | i + 1, h => by
    show ((downP ns i ++ _).length : Int) = _
    have e : ns.length - (i + 1) = ns.length - 1 - i := by omega
    rw [List.length_append, List.length_replicate, e, drop_more (getD_of (show ns.length - 1 - i < ns.length by omega)), List.map_cons, List.sum_cons, show ns.length - 1 - i + 1 = ns.length - i by omega, ← downP_len ns i (by omega)]
    omega
theorem wayL_len (ns : List Int) : ((wayL ns).length : Int) = (ns.map abs').sum := by
  have h1 := upP_len ns ns.length (Nat.le_refl _)
  have h2 := downP_len ns ns.length (Nat.le_refl _)
  rw [List.take_length] at h1
  rw [Nat.sub_self, List.drop_zero] at h2
  unfold wayL
  rw [List.length_append, Int.natCast_add, h1, h2]
  clear h1 h2
  induction ns with
  | nil => rfl
  | cons x xs ih =>
    rw [List.map_cons, List.map_cons, List.map_cons, List.sum_cons, List.sum_cons, List.sum_cons, ← ih, abs'_split]
    omega
theorem abs_le_sum {ns : List Int} {x : Int} (h : x ∈ ns) : abs' x ≤ (ns.map abs').sum := by
  induction ns with
  | nil => cases h
  | cons y ys ih =>
    rw [List.map_cons, List.sum_cons]
    have nn : ∀ zs : List Int, 0 ≤ (zs.map abs').sum := fun zs => by
      induction zs with
      | nil => exact Int.le_refl _
      | cons z zs ih => rw [List.map_cons, List.sum_cons]; have : 0 ≤ abs' z := by unfold abs'; split <;> omega
                        omega
    have h0 : 0 ≤ abs' y := by unfold abs'; split <;> omega
    rcases List.mem_cons.mp h with rfl | h
    · have := nn ys; omega
    · have := ih h; omega
theorem downP_le (ns : List Int) (i : Nat) : (downP ns i).length ≤ (downP ns (i + 1)).length := by
  show _ ≤ (downP ns i ++ _).length
  rw [List.length_append]
  omega
theorem downP_mono (ns : List Int) {i j : Nat} (h : i ≤ j) : (downP ns i).length ≤ (downP ns j).length := by
  induction j with
  | zero => rw [show i = 0 by omega]; exact Nat.le_refl _
  | succ j ih =>
    rcases Nat.lt_or_ge i (j + 1) with h1 | h1
    · exact Nat.le_trans (ih (by omega)) (downP_le ns j)
    · rw [show i = j + 1 by omega]; exact Nat.le_refl _
theorem upP_mono (ns : List Int) {i j : Nat} (h : i ≤ j) : (upP ns i).length ≤ (upP ns j).length := by
  induction j with
  | zero => rw [show i = 0 by omega]; exact Nat.le_refl _
  | succ j ih =>
    rcases Nat.lt_or_ge i (j + 1) with h1 | h1
    · refine Nat.le_trans (ih (by omega)) ?_
      show _ ≤ (upP ns j ++ _).length
      rw [List.length_append]
      omega
    · rw [show i = j + 1 by omega]; exact Nat.le_refl _
end CB
namespace CB
open PySem PySem.Spec PyProof.Rows L2
/-! ### how often each line was raised, and what is left -/
def Rel : List Int → List Int → List Int → List Int → Int → Prop
  | r :: rs, b :: bs, l :: ls, q :: qs, c => l = b + c - r * q ∧ Rel rs bs ls qs q
  | [], [b], [l], [], c => l = b + c
  | _, _, _, _, _ => False
theorem Rel.start : ∀ (rs bs : List Int), bs.length = rs.length + 1 → Rel rs bs bs (rs.map fun _ => 0) 0
  | [], [b], _ => by show b = b + 0; omega
  | [], [], h => by cases h
  | [], _ :: _ :: _, h => by simp at h
  | _ :: _, [], h => by cases h
  | r :: rs, b :: bs, h => ⟨by show b = b + 0 - r * 0; rw [Int.mul_zero]; omega, Rel.start rs bs (by simpa using h)⟩
/-- the first line's carry may be shifted -/
theorem Rel.shift : ∀ {rs bs ls qs : List Int} {l c d : Int}, Rel rs bs (l :: ls) qs c → Rel rs bs ((l + d) :: ls) qs (c + d)
  | [], [b], ls, [], l, c, d, h => by
    cases ls with
    | nil =>
      have h' : l = b + c := h
      show l + d = b + (c + d)
      omega
    | cons x xs => exact (show False from h).elim
  | r :: rs, b :: bs, ls, q :: qs, l, c, d, h => by
    obtain ⟨h1, h2⟩ := h
    exact ⟨by omega, h2⟩
  | [], [], _, _, _, _, _, h => h.elim
  | [], _ :: _ :: _, _, _, _, _, _, h => h.elim
  | [], [_], ls, _ :: _, _, _, _, h => by cases ls <;> exact (show False from h).elim
  | _ :: _, [], _, _, _, _, _, h => h.elim
  | _ :: _, _ :: _, _, [], _, _, _, h => h.elim
theorem Rel.step : ∀ {rs bs ls qs : List Int} {c : Int} {L : Nat} (up : Bool), Rel rs bs ls qs c → L < rs.length → Rel rs bs (stepL rs ls L up) (qs.set L (qs.getD L 0 + sg up)) c
  | [], _, _, _, _, _, _, _, h => by cases h
  | _ :: _, [], _, _, _, _, _, h, _ => h.elim
  | _ :: _, _ :: _, [], _, _, _, _, h, _ => h.elim
  | _ :: _, _ :: _, _ :: _, [], _, _, _, h, _ => h.elim
  | r :: rs, b :: bs, l :: ls, q :: qs, c, 0, up, h, _ => by
    obtain ⟨h1, h2⟩ := h
    cases ls with
    | nil => cases rs with
      | nil => cases bs with
        | nil => exact h2.elim
        | cons x xs => cases xs <;> exact h2.elim
      | cons x xs => cases bs <;> exact h2.elim
    | cons l2 ls =>
      refine ⟨?_, Rel.shift h2⟩
      show l - sg up * r = b + c - r * (q + sg up)
      rw [h1, Int.mul_add, Int.mul_comm (sg up) r]
      omega
  | r :: rs, b :: bs, l :: ls, q :: qs, c, L + 1, up, h, hL => ⟨h.1, Rel.step (L := L) up h.2 (by simpa using hL)⟩
theorem Rel.is_R : ∀ {rs bs ls qs : List Int} {c : Int}, Rat rs → Rel rs bs ls qs c → (∀ x ∈ ls, 0 ≤ x) → Pl rs ls → R rs bs c = qs
  | [], [], _, _, _, _, h, _, _ => h.elim
  | [], [b], [l], [], _, _, _, _, _ => rfl
  | [], [_], [], _, _, _, h, _, _ => h.elim
  | [], [_], [_], _ :: _, _, _, h, _, _ => h.elim
  | [], [_], _ :: _ :: _, _, _, _, h, _, _ => h.elim
  | [], _ :: _ :: _, _, _, _, _, h, _, _ => h.elim
  | _ :: _, [], _, _, _, _, h, _, _ => h.elim
  | _ :: _, _ :: _, [], _, _, _, h, _, _ => h.elim
  | _ :: _, _ :: _, _ :: _, [], _, _, h, _, _ => h.elim
  | r :: rs, b :: bs, l :: ls, q :: qs, c, hr, h, h0, hp => by
    obtain ⟨h1, h2⟩ := h
    have h3 := hr.head
    have hl := h0 l List.mem_cons_self
    have e : (b + c) / r = q := by
      have : b + c = l + r * q := by omega
      rw [this, Int.add_mul_ediv_left _ _ (by omega), Int.ediv_eq_zero_of_lt hl hp.1, Int.zero_add]
    show (b + c) / r :: R rs bs ((b + c) / r) = q :: qs
    rw [e, Rel.is_R hr.tail h2 (fun x hx => h0 x (List.mem_cons_of_mem _ hx)) hp.2]
theorem Rel.net : ∀ {rs bs ls qs : List Int} {c1 c2 : Int}, Rat rs → Rel rs bs ls qs (c1 - c2) → List.zipWith (· - ·) (R rs bs c1) (R rs ls c2) = qs
  | [], [], _, _, _, _, _, h => h.elim
  | [], [b], [l], [], _, _, _, _ => rfl
  | [], [_], [], _, _, _, _, h => h.elim
  | [], [_], [_], _ :: _, _, _, _, h => h.elim
  | [], [_], _ :: _ :: _, _, _, _, _, h => h.elim
  | [], _ :: _ :: _, _, _, _, _, _, h => h.elim
  | _ :: _, [], _, _, _, _, _, h => h.elim
  | _ :: _, _ :: _, [], _, _, _, _, h => h.elim
  | _ :: _, _ :: _, _ :: _, [], _, _, _, h => h.elim
  | r :: rs, b :: bs, l :: ls, q :: qs, c1, c2, hr, h => by
    obtain ⟨h1, h2⟩ := h
    have h3 := hr.head
    have e : (l + c2) / r = (b + c1) / r - q := by
      have : l + c2 = b + c1 + r * (-q) := by rw [Int.mul_neg]; omega
      rw [this, Int.add_mul_ediv_left _ _ (by omega)]
      omega
    show ((b + c1) / r - (l + c2) / r) :: List.zipWith (· - ·) (R rs bs ((b + c1) / r)) (R rs ls ((l + c2) / r)) = q :: qs
    have e2 : (b + c1) / r - (l + c2) / r = q := by omega
    rw [e2, Rel.net hr.tail (by rw [e2]; exact h2)]
theorem Rel.qlen : ∀ {rs bs ls qs : List Int} {c : Int}, Rel rs bs ls qs c → qs.length = rs.length
  | [], [], _, _, _, h => h.elim
  | [], [b], [l], [], _, _ => rfl
  | [], [_], [], _, _, h => h.elim
  | [], [_], [_], _ :: _, _, h => h.elim
  | [], [_], _ :: _ :: _, _, _, h => h.elim
  | [], _ :: _ :: _, _, _, _, h => h.elim
  | _ :: _, [], _, _, _, h => h.elim
  | _ :: _, _ :: _, [], _, _, h => h.elim
  | _ :: _, _ :: _, _ :: _, [], _, h => h.elim
  | r :: rs, b :: bs, l :: ls, q :: qs, c, h => by
    show qs.length + 1 = rs.length + 1
    rw [Rel.qlen h.2]
theorem sum_set' : ∀ {l : List Int} {j : Nat} {y : Int}, j < l.length → (l.set j y).sum = l.sum - l.getD j 0 + y
  | [], j, y, h => by cases h
  | a :: r, 0, y, _ => by
    show (y :: r).sum = (a :: r).sum - a + y
    rw [List.sum_cons, List.sum_cons]
    omega
  | a :: r, j + 1, y, h => by
    have ih := sum_set' (l := r) (j := j) (y := y) (by simpa using h)
    show (a :: r.set j y).sum = (a :: r).sum - r.getD j 0 + y
    rw [List.sum_cons, List.sum_cons, ih]
    omega
theorem stepL_sum {rs bs : List Int} {L : Nat} {up : Bool} (h : L + 1 < bs.length) : (stepL rs bs L up).sum = bs.sum - sg up * rs.getD L 0 + sg up := by
  unfold stepL
  rw [sum_set' (by rw [List.length_set]; exact h), sum_set' (by omega)]
  have e : (bs.set L (bs.getD L 0 - sg up * rs.getD L 0)).getD (L + 1) 0 = bs.getD (L + 1) 0 := by
    rw [List.getD_eq_getElem?_getD, List.getElem?_set_ne (by omega), ← List.getD_eq_getElem?_getD]
  rw [e]
  omega
theorem sum_le {M : Int} : ∀ (bs : List Int), (∀ b ∈ bs, b ≤ M) → bs.sum ≤ M * bs.length
  | [], _ => by simp
  | b :: bs, h => by
    have h1 := h b List.mem_cons_self
    have h2 := sum_le bs fun x hx => h x (List.mem_cons_of_mem _ hx)
    rw [List.sum_cons, List.length_cons, Int.natCast_add, Int.mul_add]
    omega
theorem sum_nonneg' : ∀ (bs : List Int), (∀ b ∈ bs, 0 ≤ b) → 0 ≤ bs.sum
  | [], _ => by simp
  | b :: bs, h => by
    have h1 := h b List.mem_cons_self
    have h2 := sum_nonneg' bs fun x hx => h x (List.mem_cons_of_mem _ hx)
    rw [List.sum_cons]
    omega
end CB
namespace CB
open PySem PySem.Spec PyProof.Rows L2
/-! ### the way can be walked -/
def Walk (rs : List Int) : List Int → List Int → List (Int × Bool) → List Int → List Int → Prop
  | ls, lf, [], ls', lf' => ls = ls' ∧ lf = lf'
  | ls, lf, s :: ss, ls', lf' => ∃ L : Nat, s.1 = (L : Int) ∧ L < rs.length ∧ GB rs (stepL rs ls L s.2) ∧ Walk rs (stepL rs ls L s.2) (lf.set L (lf.getD L 0 - sg s.2)) ss ls' lf'
theorem Walk.append {rs : List Int} : ∀ {ss tt : List (Int × Bool)} {l1 f1 l2 f2 l3 f3 : List Int}, Walk rs l1 f1 ss l2 f2 → Walk rs l2 f2 tt l3 f3 → Walk rs l1 f1 (ss ++ tt) l3 f3
  | [], _, _, _, _, _, _, _, h1, h2 => by obtain ⟨rfl, rfl⟩ := h1; exact h2
  | s :: ss, tt, _, _, _, _, _, _, h1, h2 => by
    obtain ⟨L, e, hL, g, h⟩ := h1
    exact ⟨L, e, hL, g, Walk.append h h2⟩
theorem Rel.of_W : ∀ {rs bs os : List Int} {c : Int}, Rat rs → bs.length = rs.length + 1 → os.length = rs.length + 1 → W rs bs + c = W rs os → Rel rs bs os (Du rs bs os c) c
  | [], [b], [o], c, _, _, _, h => by
    have h' : b + c = o := h
    show o = b + c
    omega
  | [], [], _, _, _, h, _, _ => by cases h
  | [], _ :: _ :: _, _, _, _, h, _, _ => by simp at h
  | [], [_], [], _, _, _, h, _ => by cases h
  | [], [_], _ :: _ :: _, _, _, _, h, _ => by simp at h
  | _ :: _, [], _, _, _, h, _, _ => by cases h
  | _ :: _, _ :: _, [], _, _, _, h, _ => by cases h
  | r :: rs, b :: bs, o :: os, c, hr, h1, h2, hw => by
    have hw' : b + r * W rs bs + c = o + r * W rs os := hw
    have h3 := hr.head
    have e2 : (b - o + c) / r = W rs os - W rs bs := by
      have : b - o + c = r * (W rs os - W rs bs) := by rw [Int.mul_sub]; omega
      rw [this, Int.mul_ediv_cancel_left _ (by omega)]
    refine ⟨?_, Rel.of_W hr.tail (by simpa using h1) (by simpa using h2) ?_⟩
    · show o = b + c - r * ((b - o + c) / r)
      rw [e2, Int.mul_sub]
      omega
    · show W rs bs + (b - o + c) / r = W rs os
      omega
theorem Rel.uniq : ∀ {rs bs l1 l2 qs : List Int} {c : Int}, Rel rs bs l1 qs c → Rel rs bs l2 qs c → l1 = l2
  | [], [], _, _, _, _, h, _ => h.elim
  | [], [b], [l], [m], [], c, h1, h2 => by
    have e1 : l = b + c := h1
    have e2 : m = b + c := h2
    rw [e1, e2]
  | [], [_], [], _, _, _, h, _ => h.elim
  | [], [_], [_], _, _ :: _, _, h, _ => h.elim
  | [], [_], _ :: _ :: _, _, _, _, h, _ => h.elim
  | [], [_], [_], [], [], _, _, h => h.elim
  | [], [_], [_], _ :: _ :: _, [], _, _, h => h.elim
  | [], _ :: _ :: _, _, _, _, _, h, _ => h.elim
  | _ :: _, [], _, _, _, _, h, _ => h.elim
  | _ :: _, _ :: _, [], _, _, _, h, _ => h.elim
  | _ :: _, _ :: _, _ :: _, _, [], _, h, _ => h.elim
  | _ :: _, _ :: _, _ :: _, [], _ :: _, _, _, h => h.elim
  | r :: rs, b :: bs, l :: ls, m :: ms, q :: qs, c, h1, h2 => by
    have e1 : l = b + c - r * q := h1.1
    have e2 : m = b + c - r * q := h2.1
    rw [e1, e2, Rel.uniq h1.2 h2.2]
theorem Rel.at : ∀ {rs bs ls qs : List Int} {c : Int} (M : Nat), Rel rs bs ls qs c → M ≤ rs.length → ls.getD M 0 = bs.getD M 0 + (if M = 0 then c else qs.getD (M - 1) 0) - rs.getD M 0 * qs.getD M 0
  | [], [], _, _, _, _, h, _ => h.elim
  | [], [b], [l], [], c, 0, h, _ => by
    have e : l = b + c := h
    show l = b + c - 0 * 0
    omega
  | [], [_], [_], [], _, M + 1, _, h => by simp at h
  | [], [_], [], _, _, _, h, _ => h.elim
  | [], [_], [_], _ :: _, _, _, h, _ => h.elim
  | [], [_], _ :: _ :: _, _, _, _, h, _ => h.elim
  | [], _ :: _ :: _, _, _, _, _, h, _ => h.elim
  | _ :: _, [], _, _, _, _, h, _ => h.elim
  | _ :: _, _ :: _, [], _, _, _, h, _ => h.elim
  | _ :: _, _ :: _, _ :: _, [], _, _, h, _ => h.elim
  | r :: rs, b :: bs, l :: ls, q :: qs, c, 0, h, _ => h.1
  | r :: rs, b :: bs, l :: ls, q :: qs, c, M + 1, h, hM => by
    have ih := Rel.at M h.2 (by simpa using hM)
    show ls.getD M 0 = bs.getD M 0 + (q :: qs).getD M 0 - rs.getD M 0 * qs.getD M 0
    rw [ih]
    cases M with
    | zero => rfl
    | succ M => rfl
theorem Rel.llen : ∀ {rs bs ls qs : List Int} {c : Int}, Rel rs bs ls qs c → ls.length = rs.length + 1
  | [], [], _, _, _, h => h.elim
  | [], [b], [l], [], _, _ => rfl
  | [], [_], [], _, _, h => h.elim
  | [], [_], [_], _ :: _, _, h => h.elim
  | [], [_], _ :: _ :: _, _, _, h => h.elim
  | [], _ :: _ :: _, _, _, _, h => h.elim
  | _ :: _, [], _, _, _, h => h.elim
  | _ :: _, _ :: _, [], _, _, h => h.elim
  | _ :: _, _ :: _, _ :: _, [], _, h => h.elim
  | r :: rs, b :: bs, l :: ls, q :: qs, c, h => by
    show ls.length + 1 = rs.length + 1 + 1
    rw [Rel.llen h.2]
/-! tables -/
def tab (n : Nat) (f : Nat → Int) : List Int := (List.range n).map f
theorem tab_len (n : Nat) (f : Nat → Int) : (tab n f).length = n := by unfold tab; simp
theorem tab_get {n : Nat} {f : Nat → Int} {i : Nat} (h : i < n) : (tab n f)[i]? = some (f i) := by
  unfold tab
  rw [List.getElem?_map, List.getElem?_range h]
  rfl
theorem tab_getD {n : Nat} {f : Nat → Int} (i : Nat) : (tab n f).getD i 0 = if i < n then f i else 0 := by
  rw [List.getD_eq_getElem?_getD]
  by_cases h : i < n
  · rw [tab_get h, if_pos h]; rfl
  · rw [List.getElem?_eq_none (by rw [tab_len]; omega), if_neg h]; rfl
theorem tab_ext {n : Nat} {f g : Nat → Int} (h : ∀ i, i < n → f i = g i) : tab n f = tab n g := by
  unfold tab
  exact List.map_congr_left fun i hi => h i (List.mem_range.mp hi)
theorem tab_set {n : Nat} {f : Nat → Int} {L : Nat} {v : Int} : (tab n f).set L v = tab n fun M => if M = L then v else f M := by
  refine List.ext_getElem? fun i => ?_
  rw [List.getElem?_set, tab_len]
  by_cases hi : i < n
  · rw [tab_get (f := fun M => if M = L then v else f M) hi]
    by_cases h : L = i
    · subst h
      rw [if_pos rfl, if_pos hi, if_pos rfl]
    · rw [if_neg h, if_neg (show ¬ i = L from fun z => h z.symm), tab_get hi]
  · have e : (tab n fun M => if M = L then v else f M)[i]? = none := List.getElem?_eq_none (by rw [tab_len]; omega)
    rw [e]
    by_cases h : L = i
    · rw [if_pos h, if_neg (by omega)]
    · rw [if_neg h, List.getElem?_eq_none (by rw [tab_len]; omega)]
theorem tab_of (xs : List Int) : tab xs.length (fun i => xs.getD i 0) = xs := by
  refine List.ext_getElem? fun i => ?_
  by_cases hi : i < xs.length
  · rw [tab_get hi, getD_of hi]
  · rw [List.getElem?_eq_none (by rw [tab_len]; omega), List.getElem?_eq_none (by omega)]
/-! how far each line was raised, at any time of the way -/
def ng (x : Int) : Int := -((0 - x).toNat : Int)
/-- a line's number of raisings q and that of the line beneath p, when the nets are n and n' -/
def Fine (p n' q n : Int) : Prop := (ng n' ≤ p ∧ q ≤ ng n) ∨ (p = n' ∧ q ≤ n) ∨ (0 ≤ p ∧ q ≤ 0)
theorem Fine.nonneg {p n' q n b o r : Int} (h : Fine p n' q n) (hr : 0 ≤ r) (hb : 0 ≤ b) (ho : 0 ≤ o) (eo : o = b + n' - r * n) : 0 ≤ b + p - r * q := by
  have key : ∀ x y : Int, x ≤ y → r * x ≤ r * y := fun x y h => Int.mul_le_mul_of_nonneg_left h hr
  have key0 : ∀ x : Int, x ≤ 0 → r * x ≤ 0 := fun x h => by have := key x 0 h; rw [Int.mul_zero] at this; exact this
  unfold Fine ng at h
  rcases h with ⟨h1, h2⟩ | ⟨h1, h2⟩ | ⟨h1, h2⟩
  · by_cases hn : 0 ≤ n'
    · have := key0 q (by omega)
      omega
    · have := key q n (by omega)
      omega
  · have := key q n h2
    omega
  · have := key0 q h2
    omega
def pv' (f : Nat → Int) (M : Nat) : Int := if M = 0 then 0 else f (M - 1)
def FineAt (n : Nat) (nu f : Nat → Int) : Prop := ∀ M, M ≤ n → Fine (pv' f M) (pv' nu M) (if M < n then f M else 0) (if M < n then nu M else 0)
section
variable {rs bs os ns : List Int} {n : Nat}
theorem fine_GB {nu f : Nat → Int} {ls : List Int} (hr : Rat rs) (hn : n = rs.length) (gb : GB rs bs) (go : GB rs os) (ho : Rel rs bs os (tab n nu) 0) (hl : Rel rs bs ls (tab n f) 0) (hf : FineAt n nu f) : GB rs ls := by
  refine ⟨hl.llen, fun x hx => ?_⟩
  obtain ⟨M, hM⟩ := List.getElem?_of_mem hx
  have hMl := (List.getElem?_eq_some_iff.mp hM).1
  have hll := hl.llen
  have hM2 : M ≤ rs.length := by omega
  rw [getD_of hMl] at hM
  have e1 := hl.at M hM2
  have e2 := ho.at M hM2
  have hbM := gb.2 (bs.getD M 0) (List.mem_of_getElem? (getD_of (by have := gb.1; omega)))
  have hoM := go.2 (os.getD M 0) (List.mem_of_getElem? (getD_of (by have := go.1; omega)))
  have hrM : 0 ≤ rs.getD M 0 := by
    by_cases h : M < rs.length
    · have := hr (rs.getD M 0) (List.mem_of_getElem? (getD_of h))
      omega
    · rw [List.getD_eq_getElem?_getD, List.getElem?_eq_none (by omega)]
      exact Int.le_refl _
  have h := hf M (by omega)
  have p1 : (if M = 0 then (0 : Int) else (tab n f).getD (M - 1) 0) = pv' f M := by
    unfold pv'
    by_cases h : M = 0
    · rw [if_pos h, if_pos h]
    · rw [if_neg h, if_neg h, tab_getD, if_pos (by omega)]
  have p2 : (if M = 0 then (0 : Int) else (tab n nu).getD (M - 1) 0) = pv' nu M := by
    unfold pv'
    by_cases h : M = 0
    · rw [if_pos h, if_pos h]
    · rw [if_neg h, if_neg h, tab_getD, if_pos (by omega)]
  rw [p1, tab_getD] at e1
  rw [p2, tab_getD] at e2
  have := h.nonneg hrM hbM hoM e2
  have e := Option.some.inj hM
  omega
theorem walk_block {nu : Nat → Int} (hr : Rat rs) (hn : n = rs.length) (gb : GB rs bs) (go : GB rs os) (ho : Rel rs bs os (tab n nu) 0) (L : Nat) (up : Bool) (hL : L < n) : ∀ (m : Nat) (f : Nat → Int) (ls : List Int), Rel rs bs ls (tab n f) 0 →
    (∀ j : Nat, 1 ≤ j → j ≤ m → FineAt n nu fun M => if M = L then f L + (j : Int) * sg up else f M) →
    ∃ ls', Walk rs ls (tab n fun M => nu M - f M) (List.replicate m ((L : Int), up)) ls' (tab n fun M => nu M - (if M = L then f L + (m : Int) * sg up else f M)) ∧ Rel rs bs ls' (tab n fun M => if M = L then f L + (m : Int) * sg up else f M) 0
  | 0, f, ls, hl, _ => by
    refine ⟨ls, ⟨rfl, tab_ext fun i _ => ?_⟩, ?_⟩
    · split
      · rename_i h; subst h; simp
      · rfl
    · have e : (tab n fun M => if M = L then f L + ((0 : Nat) : Int) * sg up else f M) = tab n f := tab_ext fun i _ => by
        split
        · rename_i h; subst h; simp
        · rfl
      rw [e]
      exact hl
  | m + 1, f, ls, hl, hf => by
    have st := Rel.step up hl (by omega : L < rs.length)
    rw [tab_getD, if_pos hL, tab_set] at st
    have h1 := hf 1 (Nat.le_refl _) (by omega)
    have e1 : (fun M => if M = L then f L + ((1 : Nat) : Int) * sg up else f M) = fun M => if M = L then f L + sg up else f M := by
      funext M
      rw [show ((1 : Nat) : Int) * sg up = sg up from Int.one_mul _]
    rw [e1] at h1
    have gs := fine_GB hr hn gb go ho st h1
    have e2 : ∀ j : Nat, (fun M => if M = L then (if L = L then f L + sg up else f L) + (j : Int) * sg up else (if M = L then f L + sg up else f M)) = fun M => if M = L then f L + ((j + 1 : Nat) : Int) * sg up else f M := fun j => by
      funext M
      by_cases h : M = L
      · rw [if_pos h, if_pos h, if_pos rfl, Int.natCast_add, Int.add_mul]
        show _ = f L + (_ + 1 * sg up)
        rw [Int.one_mul]
        omega
      · rw [if_neg h, if_neg h, if_neg h]
    obtain ⟨ls', w, r⟩ := walk_block hr hn gb go ho L up hL m (fun M => if M = L then f L + sg up else f M) (stepL rs ls L up) st (fun j h1 h2 => by
      have := hf (j + 1) (by omega) (by omega)
      rw [← e2 j] at this
      exact this)
    refine ⟨ls', ⟨L, rfl, by omega, gs, ?_⟩, ?_⟩
    · have ee : (tab n fun M => nu M - f M).set L ((tab n fun M => nu M - f M).getD L 0 - sg up) = tab n fun M => nu M - (if M = L then f L + sg up else f M) := by
        rw [tab_getD, if_pos hL, tab_set]
        refine tab_ext fun i _ => ?_
        by_cases h : i = L
        · subst h; rw [if_pos rfl, if_pos rfl]; omega
        · rw [if_neg h, if_neg h]
      show Walk rs (stepL rs ls L up) ((tab n fun M => nu M - f M).set L ((tab n fun M => nu M - f M).getD L 0 - sg up)) (List.replicate m ((L : Int), up)) ls' _
      rw [ee]
      have e4 := congrArg (fun g : Nat → Int => tab n fun M => nu M - g M) (e2 m).symm
      rw [e4]
      exact w
    · rw [← e2 m]
      exact r
theorem fine_down {nu : Nat → Int} {i L j : Nat} (hi : L + i + 1 = n) (hj : (j : Int) ≤ ((0 - nu L).toNat : Int)) (f : Nat → Int) (hf : ∀ M, f M = if n - i ≤ M then ng (nu M) else 0) : FineAt n nu fun M => if M = L then f L + (j : Int) * sg false else f M := by
  have hfL : f L = 0 := by rw [hf, if_neg (by omega)]
  have hs : (j : Int) * sg false = -(j : Int) := by show (j : Int) * -1 = _; omega
  have lo : ∀ M, M < L → f M = 0 := fun M h => by rw [hf, if_neg (by omega)]
  have hi' : ∀ M, L < M → f M = ng (nu M) := fun M h => by rw [hf, if_pos (by omega)]
  have g0 : ng 0 = 0 := rfl
  have gl : ng (nu L) ≤ -(j : Int) := by unfold ng; omega
  intro M hM
  unfold Fine pv'
  simp only [hfL, hs]
  by_cases h1 : M < L
  · have e1 : (if M < n then (if M = L then 0 + -(j : Int) else f M) else 0) = 0 := by rw [if_pos (by omega), if_neg (by omega), lo M h1]
    rw [e1]
    refine .inr (.inr ⟨?_, Int.le_refl _⟩)
    by_cases h0 : M = 0
    · rw [if_pos h0]; exact Int.le_refl _
    · rw [if_neg h0, if_neg (by omega), lo _ (by omega)]; exact Int.le_refl _
  · by_cases h2 : M = L
    · subst h2
      rw [if_pos (show M < n by omega), if_pos rfl]
      refine .inr (.inr ⟨?_, by omega⟩)
      by_cases h0 : M = 0
      · rw [if_pos h0]; exact Int.le_refl _
      · rw [if_neg h0, if_neg (by omega), lo _ (by omega)]; exact Int.le_refl _
    · have eq' : (if M < n then (if M = L then 0 + -(j : Int) else f M) else 0) ≤ ng (if M < n then nu M else 0) := by
        by_cases h3 : M < n
        · rw [if_pos h3, if_neg h2, if_pos h3, hi' M (by omega)]; exact Int.le_refl _
        · rw [if_neg h3, if_neg h3, g0]; exact Int.le_refl _
      refine .inl ⟨?_, eq'⟩
      rw [if_neg (show ¬ M = 0 by omega), if_neg (show ¬ M = 0 by omega)]
      by_cases h4 : M - 1 = L
      · rw [if_pos h4, h4]
        omega
      · rw [if_neg h4, hi' _ (by omega)]
        exact Int.le_refl _
theorem fine_up {nu : Nat → Int} {i j : Nat} (hi : i < n) (hj : (j : Int) ≤ ((nu i).toNat : Int)) (f : Nat → Int) (hf : ∀ M, f M = if M < i then nu M else ng (nu M)) : FineAt n nu fun M => if M = i then f i + (j : Int) * sg true else f M := by
  have hfL : f i = ng (nu i) := by rw [hf, if_neg (by omega)]
  have hs : (j : Int) * sg true = (j : Int) := Int.mul_one _
  have lo : ∀ M, M < i → f M = nu M := fun M h => by rw [hf, if_pos h]
  have hi' : ∀ M, i < M → f M = ng (nu M) := fun M h => by rw [hf, if_neg (by omega)]
  have g0 : ng 0 = 0 := rfl
  have gl : ng (nu i) + (j : Int) ≤ nu i := by unfold ng; omega
  intro M hM
  unfold Fine pv'
  simp only [hfL, hs]
  by_cases h1 : M ≤ i
  · refine .inr (.inl ⟨?_, ?_⟩)
    · by_cases h0 : M = 0
      · rw [if_pos h0, if_pos h0]
      · rw [if_neg h0, if_neg h0, if_neg (by omega), lo _ (by omega)]
    · rw [if_pos (show M < n by omega), if_pos (show M < n by omega)]
      by_cases h2 : M = i
      · rw [if_pos h2, h2]; exact gl
      · rw [if_neg h2, lo _ (by omega)]; exact Int.le_refl _
  · have eq' : (if M < n then (if M = i then ng (nu i) + (j : Int) else f M) else 0) ≤ ng (if M < n then nu M else 0) := by
      by_cases h3 : M < n
      · rw [if_pos h3, if_neg (by omega), if_pos h3, hi' M (by omega)]; exact Int.le_refl _
      · rw [if_neg h3, if_neg h3, g0]; exact Int.le_refl _
    refine .inl ⟨?_, eq'⟩
    rw [if_neg (show ¬ M = 0 by omega), if_neg (show ¬ M = 0 by omega)]
    by_cases h4 : M - 1 = i
    · rw [if_pos h4, h4]
      omega
    · rw [if_neg h4, hi' _ (by omega)]
      exact Int.le_refl _
theorem walk_down (hr : Rat rs) (hn : ns.length = rs.length) (gb : GB rs bs) (go : GB rs os) (ho : Rel rs bs os ns 0) : ∀ i, i ≤ ns.length →
    ∃ ls, Walk rs bs ns (downP ns i) ls (tab ns.length fun M => ns.getD M 0 - (if ns.length - i ≤ M then ng (ns.getD M 0) else 0)) ∧ Rel rs bs ls (tab ns.length fun M => if ns.length - i ≤ M then ng (ns.getD M 0) else 0) 0
  | 0, _ => by
    refine ⟨bs, ⟨rfl, ?_⟩, ?_⟩
    · have e := tab_of ns
      rw [← e]
      have el : (tab ns.length fun i => ns.getD i 0).length = ns.length := tab_len _ _
      rw [el]
      refine tab_ext fun M hM => ?_
      rw [if_neg (by omega), e]
      omega
    · have e : (tab ns.length fun M => if ns.length - 0 ≤ M then ng (ns.getD M 0) else 0) = rs.map fun _ => 0 := by
        refine List.ext_getElem? fun M => ?_
        by_cases hM : M < ns.length
        · rw [tab_get hM, if_neg (by omega), List.getElem?_map, List.getElem?_eq_getElem (by omega)]
          rfl
        · rw [List.getElem?_eq_none (by rw [tab_len]; omega), List.getElem?_eq_none (by rw [List.length_map]; omega)]
      rw [e]
      exact Rel.start rs bs gb.1
  | i + 1, h => by
    obtain ⟨ls, w, r⟩ := walk_down hr hn gb go ho i (by omega)
    have ho' : Rel rs bs os (tab ns.length fun M => ns.getD M 0) 0 := by rw [tab_of]; exact ho
    obtain ⟨L, hL⟩ : ∃ L, L = ns.length - 1 - i := ⟨_, rfl⟩
    obtain ⟨ls', w', r'⟩ := walk_block (nu := fun M => ns.getD M 0) hr hn gb go ho' L false (by omega) (0 - ns.getD L 0).toNat (fun M => if ns.length - i ≤ M then ng (ns.getD M 0) else 0) ls r
      (fun j _ hj => fine_down (i := i) (by omega) (by omega) _ fun M => rfl)
    have ef : (fun M => if M = L then (if ns.length - i ≤ L then ng (ns.getD L 0) else 0) + ((0 - ns.getD L 0).toNat : Int) * sg false else (if ns.length - i ≤ M then ng (ns.getD M 0) else 0)) = fun M => if ns.length - (i + 1) ≤ M then ng (ns.getD M 0) else 0 := by
      funext M
      by_cases h1 : M = L
      · subst h1
        rw [if_pos rfl, if_neg (by omega), if_pos (by omega)]
        show 0 + ((0 - ns.getD M 0).toNat : Int) * -1 = ng (ns.getD M 0)
        unfold ng
        omega
      · rw [if_neg h1]
        by_cases h2 : ns.length - i ≤ M
        · rw [if_pos h2, if_pos (by omega)]
        · rw [if_neg h2, if_neg (by omega)]
    have ef2 := congrArg (fun g : Nat → Int => tab ns.length fun M => ns.getD M 0 - g M) ef
    rw [ef] at r'
    rw [ef2] at w'
    refine ⟨ls', ?_, r'⟩
    show Walk rs bs ns (downP ns i ++ List.replicate (0 - ns.getD (ns.length - 1 - i) 0).toNat (((ns.length - 1 - i : Nat) : Int), false)) _ _
    rw [← hL]
    exact w.append w'
theorem walk_up (hr : Rat rs) (hn : ns.length = rs.length) (gb : GB rs bs) (go : GB rs os) (ho : Rel rs bs os ns 0) {l0 : List Int} (h0 : Rel rs bs l0 (tab ns.length fun M => ng (ns.getD M 0)) 0) : ∀ i, i ≤ ns.length →
    ∃ ls, Walk rs l0 (tab ns.length fun M => ns.getD M 0 - ng (ns.getD M 0)) (upP ns i) ls (tab ns.length fun M => ns.getD M 0 - (if M < i then ns.getD M 0 else ng (ns.getD M 0))) ∧ Rel rs bs ls (tab ns.length fun M => if M < i then ns.getD M 0 else ng (ns.getD M 0)) 0
  | 0, _ => ⟨l0, ⟨rfl, rfl⟩, h0⟩
  | i + 1, h => by
    obtain ⟨ls, w, r⟩ := walk_up hr hn gb go ho h0 i (by omega)
    have ho' : Rel rs bs os (tab ns.length fun M => ns.getD M 0) 0 := by rw [tab_of]; exact ho
    obtain ⟨ls', w', r'⟩ := walk_block (nu := fun M => ns.getD M 0) hr hn gb go ho' i true (by omega) (ns.getD i 0).toNat (fun M => if M < i then ns.getD M 0 else ng (ns.getD M 0)) ls r
      (fun j _ hj => fine_up (by omega) (by omega) _ fun M => rfl)
    have ef : (fun M => if M = i then (if i < i then ns.getD i 0 else ng (ns.getD i 0)) + ((ns.getD i 0).toNat : Int) * sg true else (if M < i then ns.getD M 0 else ng (ns.getD M 0))) = fun M => if M < i + 1 then ns.getD M 0 else ng (ns.getD M 0) := by
      funext M
      by_cases h1 : M = i
      · subst h1
        rw [if_pos rfl, if_neg (by omega), if_pos (by omega)]
        show ng (ns.getD M 0) + ((ns.getD M 0).toNat : Int) * 1 = ns.getD M 0
        unfold ng
        omega
      · rw [if_neg h1]
        by_cases h2 : M < i
        · rw [if_pos h2, if_pos (by omega)]
        · rw [if_neg h2, if_neg (by omega)]
    have ef2 := congrArg (fun g : Nat → Int => tab ns.length fun M => ns.getD M 0 - g M) ef
    rw [ef] at r'
    rw [ef2] at w'
    exact ⟨ls', w.append w', r'⟩
/-- the way leads from the one board to the other, and uses up the nets -/
theorem walk_way (hr : Rat rs) (gb : GB rs bs) (go : GB rs os) (hw : W rs bs = W rs os) : Walk rs bs (N rs bs os) (wayL (N rs bs os)) os (tab rs.length fun _ => 0) := by
  have hl := N_len gb.1 go.1
  have ho : Rel rs bs os (N rs bs os) 0 := by
    rw [N_is hr gb.1 go.1 hw]
    exact Rel.of_W hr gb.1 go.1 (by omega)
  generalize N rs bs os = ns at hl ho
  obtain ⟨l1, w1, r1⟩ := walk_down hr hl gb go ho ns.length (Nat.le_refl _)
  have e1 : (fun M => if ns.length - ns.length ≤ M then ng (ns.getD M 0) else 0) = fun M => ng (ns.getD M 0) := by
    funext M
    rw [if_pos (by omega)]
  have e2 := congrArg (fun g : Nat → Int => tab ns.length fun M => ns.getD M 0 - g M) e1
  rw [e1] at r1
  rw [e2] at w1
  obtain ⟨l2, w2, r2⟩ := walk_up hr hl gb go ho r1 ns.length (Nat.le_refl _)
  have e3 : (tab ns.length fun M => if M < ns.length then ns.getD M 0 else ng (ns.getD M 0)) = ns := Eq.trans (tab_ext (g := fun M => ns.getD M 0) fun M hM => by rw [if_pos hM]) (tab_of ns)
  rw [e3] at r2
  have e4 : l2 = os := r2.uniq ho
  have e5 : (tab ns.length fun M => ns.getD M 0 - (if M < ns.length then ns.getD M 0 else ng (ns.getD M 0))) = tab rs.length fun _ => 0 := by
    rw [← hl]
    refine tab_ext fun M hM => ?_
    rw [if_pos hM]
    omega
  rw [e4, e5] at w2
  exact w1.append w2
end
end CB
namespace CB
open PySem PySem.Spec PyProof.Rows L2
theorem small20 {rs bs : List Int} (g : GF rs) (gb : GB rs bs) (hb : ∀ x ∈ bs, x < 10 ^ 20) : 0 ≤ W rs bs ∧ W rs bs < 2 ^ 150 := by
  refine ⟨W_nonneg rs bs g.2 gb.2, ?_⟩
  have h1 := W_lt (B := 70) rs bs g.2 gb.2 fun b hb' => by
    have h2 := hb b hb'
    have h3 : (10 : Int) ^ 20 < ((2 ^ 70 : Nat) : Int) := by decide
    omega
  have h2 : 13 ^ rs.length ≤ 13 ^ 11 := Nat.pow_le_pow_right (by decide) g.1
  have h3 : 13 ^ rs.length * 2 ^ 70 ≤ 13 ^ 11 * 2 ^ 70 := Nat.mul_le_mul_right _ h2
  have h4 : 13 ^ 11 * 2 ^ 70 < 2 ^ 150 := by decide
  omega
theorem D_150 {rs : List Int} {n : Int} (g : GF rs) (h0 : 0 ≤ n) (h1 : n < 2 ^ 150) : ∀ x ∈ D rs n, x < 2 ^ 150 := fun x hx => by
  have := D_le rs n g.2 h0 x hx
  omega
theorem two151 : (2 : Int) ^ 150 + 361 < 2 ^ 200 := by decide
end CB
namespace CB
open PySem PySem.Spec PyProof.Rows L2
/-- what a def of two boards asks of them; P: what it tells of good ones -/
def Two (mg : Str → Option Value) (H : Hp) (E : XK) (rs bs cs : List Int) (P : Prop) : Prop :=
  (GF rs → GB rs bs → BS bs ∧ (GB rs cs → BS cs ∧ P) ∧ (¬ GB rs cs → Raise mg "NoBoard" H E)) ∧ (¬ GF rs → E (.ref (ErA mg "NoFrame")) none H) ∧ (GF rs → ¬ GB rs bs → E (.ref (ErA mg "NoBoard")) none H)
theorem Two.good {mg : Str → Option Value} {H : Hp} {E : XK} {rs bs cs : List Int} {P : Prop} (g : GF rs) (gb : GB rs bs) (gc : GB rs cs) (sb : BS bs) (sc : BS cs) (p : P) : Two mg H E rs bs cs P :=
  ⟨fun _ _ => ⟨sb, fun _ => ⟨sc, p⟩, fun z => absurd gc z⟩, fun z => absurd g z, fun _ z => absurd gb z⟩
end CB
namespace CB
open PySem PySem.Spec PyProof.Rows L2
/-! ### a def that is called on the exception that an except suite holds -/
/-- xs.count(y), flat items -/
def rCntV (K : PySem.W.Frag) : V → List V → Hp → VK → Prop := fun x xs H Q => ∃ (p : Addr) (ys : List V) (y : V), x = V.ref p ∧ xs = [y] ∧ SqL K H p ys ∧ flatV y = true ∧ ys.all flatV = true ∧ Q (.int (ys.countP (fun z => eqV z y) : Nat)) H
theorem count_eqU {y : V} : ∀ {xs : List V} {us : List Value}, Vals xs us → xs.all flatV = true → us.countP (eqU y) = xs.countP fun z => eqV z y
  | _, _, .nil, _ => rfl
  | _ :: _, _ :: _, .cons r t, f => by
    rw [List.all_cons, Bool.and_eq_true] at f
    rw [List.countP_cons, List.countP_cons, count_eqU t f.2, eqU_of r f.1]
theorem mt_countV {X : Cx} : MtR X "list.count" (rCntV X.K) := by
  intro pins s σ H x xs v us Q I rx rxs h
  obtain ⟨p, ys, y, rfl, rfl, hs, fy, fys, q⟩ := h
  cases rx
  obtain ⟨u, rfl, ru⟩ := rxs.one
  obtain ⟨its, rv, ⟨⟨cls, dd, data, sl⟩, n, ho, hc, hdn, hd⟩, hlen⟩ := I.list hs
  simp only at hc hd
  subst hc hd
  refine call_meets PySem.F.slot_list_count ⟨_, ho, rfl⟩ PySem.F.entry_list_count (PySem.F.args_list_count_2 _ _)
    (SeqAt.list_countAt p its.toArray n dd sl u (eqU y)) ⟨ho, fun w hw => mem_eqAt ru fy rv fys w (by simpa using hw), ?_⟩
  have ec : its.toArray.toList.countP (eqU y) = ys.countP fun z => eqV z y := count_eqU rv fys
  refine ⟨.int (ys.countP (fun z => eqV z y) : Nat), H, I.tok _, ⟨s.toks, ?_⟩, q⟩
  show Value.int ((its.toArray.toList.countP (eqU y) : Nat) : Int) s.toks = _
  rw [ec]
/-- isinstance of the exception that stands pinned -/
theorem call_isP {X : Cx} {a D : Addr} {oe : Obj} (hp : (a, oe) ∈ X.pn) (C : ExcC X.K D) (hz : Zc (.ref D) none oe) (hf : ∃ vs, oe.data = .fields vs) : CallR X (.builtin "isinstance") (rIsE X.K D a) := by
  intro pins s σ H xs us Q I r h
  obtain ⟨c, cv, b, rfl, hcv, e, q⟩ := h
  obtain ⟨u1, u2, rfl, r1, r2⟩ := vals2 r
  cases (show u1 = Value.ref a from r1)
  cases hcv _ r2
  obtain ⟨hget, _⟩ := I.pin (a, oe) (List.mem_append_left _ hp)
  obtain ⟨vs, hv⟩ := hf
  have J : PySem.W.InstAt s.heap a oe D none := by
    obtain ⟨oc, od, oda, osl⟩ := oe
    obtain ⟨h1, h2⟩ := hz
    dsimp only at h1 h2 hv
    subst h1 h2 hv
    exact ⟨hget, rfl, rfl, trivial⟩
  exact PySem.W.kia_one (PySem.W.handS_kitx_exc C.hg C.hk C.hs C.hd C.ha C.hn C.ht C.hm) I.kIn J e (fun z => nomatch z) fun tk => ⟨.bl b, H, I.kept (t' := tk) fun _ _ z => z, rfl, q⟩
/-- what such a def promises: of the exception at a, of the class at D -/
abbrev SpE := Addr → Addr → Sp
structure ExIs (D : Addr) (p : Addr × Obj) : Prop where
  z : Zc (.ref D) none p.2
  f : ∃ vs, p.2.data = .fields vs
structure FnE (P : Program) (w : World) (K : PySem.W.Frag) (mg : Str → Option Value) (base : Heap) (k : Nat) (f : Addr) (fd : FuncData) (ps : List Str) (sp : SpE) : Prop where
  len : ∀ a D vs H Q E, sp a D vs H Q E → vs.length = ps.length
  run : ∀ (A : Around) (outer : List Env) (s : Shared) (H : Hp) (args : Args) (us : List Value) (vs : List V) (Q : VK) (E : XK) (p : Addr × Obj) (D : Addr), L2H.RoomH k A → ExIs D p → L2H.PinOk outer H s p → Env0 P w K mg base A outer s H → BindsTo s fd args (ps.zip us) → Vals vs us → sp p.1 D vs H Q E →
    codeAny (model P w) A (.call (.ref f) args) (CR (L2.CX P w) outer P w H s Q E) s
theorem fn_ofE {P : Program} {w : World} {K : PySem.W.Frag} {mg : Str → Option Value} {base : Heap} {k : Nat} {f : Addr} {name qual : Str} {params : Arguments} {body : List Stmt} {scope : Scope} {dV kV doc pm cdv ct oc : Value} {an od : Option Addr}
    {osl : Array (Option Value)} {N ps : List Str} {sp : SpE} (lk : K.lookup f = some ⟨oc, od, .func (PySem.W.fnOf name qual params body scope dV kV doc pm an cdv ct), osl⟩) (hcd : PySem.W.codeIn K cdv qual = true) (S : FnScope N ps scope)
    (len : ∀ a D vs H Q E, sp a D vs H Q E → vs.length = ps.length)
    (hbody : ∀ (A : Around) (outer : List Env) (s : Shared) (H : Hp) (vs : List V) (Q : VK) (E : XK) (p : Addr × Obj) (D : Addr), ExIs D p → L2H.RoomH k (A.deeper (envOfC qual scope s.heap.objs.size f cdv)) → sp p.1 D vs H Q E →
      ∃ t, PSs (L2H.cxH (L2.CX P w) P w K mg base N qual scope f cdv A outer s H E p) body t ∧ t { nx := fun _ H' => Q .non H', rt := Q } (L2.start N vs) H) :
    FnE P w K mg base (k + 1) f (PySem.W.fnOf name qual params body scope dV kV doc pm an cdv ct) ps sp := by
  refine ⟨len, fun A outer s H args us vs Q E p D hr hex hpin e0 hb r hsp => ?_⟩
  have hl := len _ _ _ _ _ _ hsp
  have KX : K.In s.heap := e0.mod.kin.keeps fun b o e => (e0.bs b o e).1
  have lim : s.heap.NoLimit := e0.mod.nolimit.keeps fun b o e => (e0.bs b o e).1
  have hkind : ∀ y ∈ ps.zip us, scope.names.lookup y.1 = some .local ∨ (scope.names.lookup y.1 = some .cell ∧ ((cellsFrom (s.heap.objs.size + 1) scope.names []).lookup y.1).isSome = true) := fun ⟨n, v⟩ hy => by
    rcases S.par n (List.of_mem_zip hy).1 with q | q
    · exact .inl q
    · exact .inr ⟨q, PySem.W.cellsFrom_some _ _ _ (.inl q)⟩
  refine codeAny_call_function hr.depth (KX _ _ lk) rfl S.co S.gen rfl (PySem.W.codeRec_of KX hcd) (hb _ _ _ _ ?_)
  refine wpAny_newFunctionEnv_cells S.kind hkind fun env he s1 x => ?_
  subst he
  refine ⟨lim.keeps x.toInCall.keep, codeAny_func ?_⟩
  obtain ⟨t, ht, hq⟩ := hbody A outer s H vs Q E p D hex (hr.deeper _) hsp
  have I : Inv (L2H.cxH (L2.CX P w) P w K mg base N qual scope f cdv A outer s H E p) [] (L2.start N vs) H s1 := L2H.inv_startH S hpin e0 hl r x
  refine wpAny_mono (ht.run [] s1 (L2.start N vs) H _ I hq) (fun fl s' hs => ?_) fun e s' hs => hs
  have fin : ∀ {σ' : L2.St} {H' : Hp} {v : V} {u : Value}, Inv (L2H.cxH (L2.CX P w) P w K mg base N qual scope f cdv A outer s H E p) [] σ' H' s' → RelV v u → Q v H' → CE outer P w H s Q u s' :=
    fun {σ' H' v u} J rv q => ⟨v, H', J.os, J.bare, J.base, J.hok, rv, q⟩
  cases fl with
  | ret u =>
    obtain ⟨v, σ', H', J, rv, q⟩ := hs
    exact fin J rv q
  | next =>
    obtain ⟨σ', H', J, q⟩ := hs
    exact fin (v := V.non) (u := Value.none) J rfl q
  | brk =>
    obtain ⟨_, _, _, q⟩ := hs
    exact False.elim q
  | cont =>
    obtain ⟨_, _, _, q⟩ := hs
    exact False.elim q
theorem fun_okE {P : Program} {w : World} {K : PySem.W.Frag} {mg : Str → Option Value} {base : Heap} {x qual : Str} {st : Stmt} {f : Addr} {fd : FuncData} {N ps : List Str} {k : Nat} {sp : SpE} (F : Fun K x qual st f fd) (S : FnScope N ps (defScope st)) (len : ∀ a D vs H Q E, sp a D vs H Q E → vs.length = ps.length)
    (hbody : ∀ (cdv : Value) (A : Around) (outer : List Env) (s : Shared) (H : Hp) (vs : List V) (Q : VK) (E : XK) (p : Addr × Obj) (D : Addr), ExIs D p → L2H.RoomH k (A.deeper (envOfC qual (defScope st) s.heap.objs.size f cdv)) → sp p.1 D vs H Q E →
      ∃ t, PSs (L2H.cxH (L2.CX P w) P w K mg base N qual (defScope st) f cdv A outer s H E p) (defBody st) t ∧ t { nx := fun _ H' => Q .non H', rt := Q } (L2.start N vs) H) : FnE P w K mg base (k + 1) f fd ps sp := by
  obtain ⟨oc, od, kV, doc, pm, an, cdv, ct, osl, rfl, lk, hcd⟩ := F.ex
  exact fn_ofE lk hcd S len fun A outer s H vs Q E p D hex hr hsp => hbody cdv A outer s H vs Q E p D hex hr hsp
structure CalleeE (P : Program) (w : World) (K : PySem.W.Frag) (mg : Str → Option Value) (base : Heap) (k : Nat) (x : Str) (ps : List Str) (sp : SpE) : Prop where
  ex : ∃ (f : Addr) (fd : FuncData), FnE P w K mg base k f fd ps sp ∧ mg x = some (.ref f) ∧ PySem.W.keepIn K (.ref f) = true ∧ Binds K fd ps []
theorem CalleeE.mk' {P : Program} {w : World} {K : PySem.W.Frag} {mg : Str → Option Value} {base : Heap} {k : Nat} {x : Str} {ps : List Str} {sp : SpE} {f : Addr} {fd : FuncData} (F : FnE P w K mg base k f fd ps sp) (hm : mg x = some (.ref f)) (hk : PySem.W.keepIn K (.ref f) = true) (hb : Binds K fd ps []) :
    CalleeE P w K mg base k x ps sp := ⟨f, fd, F, hm, hk, hb⟩
/-- f(e) in the suite that holds the exception at a -/
def tCallE (a : Addr) (cls : Value) (d : Option Addr) (sp : SpE) (t : TA) : TE := fun σ H Q => t σ H fun vs H1 => ∃ D, cls = .ref D ∧ d = none ∧ sp a D vs H1 Q (fun _ _ _ => False)
theorem pe_callE {X : Cx} {j k : Nat} {x : Str} {ps : List Str} {sp : SpE} {e : Expr} {es : List Expr} {t : TA} {q pos : Pos} {a : Addr} {oe : Obj} {cls : Value} {d : Option Addr} {pn : List (Addr × Obj)} (c : CalleeE X.prog X.w X.K X.mg X.base k x ps sp) (hr : Room j X.A) (hk : k ≤ j)
    (hz : Zc cls d oe) (hf : ∃ vs, oe.data = .fields vs) (ha : PA (X.suite a ((a, oe) :: pn)) (e :: es) t) (hg : Gl X x := by rfl) (hdb : (x == ("__debug__" : Str)) = false := by decide)
    (he : starEach (e :: es) X.env = (false, eval e X.env) :: starEach es X.env := by rfl) (hpl : (backTo pos (starEach es X.env)).any (·.1) = false := by rfl) :
    PE (X.suite a ((a, oe) :: pn)) (.Call (.Name x q) (e :: es) [] pos) (tCallE a cls d sp t) := by
  obtain ⟨f, fd, F, hm, hkp, hb⟩ := c
  refine ⟨fun pins s σ H Q I h => ?_⟩
  refine wpAny_Call_Name_kw (ld_glob (X := X.suite a ((a, oe) :: pn)) I hg hm ?_ hdb)
  refine PySem.W.callWith_K (h₀ := X.base) I.ok.mod.kin hkp (thn (ha.run pos pins s σ H _ I h) fun us s1 ⟨vs, H1, I1, r, D, ec, ed, hsp⟩ => ⟨I1.kIn, ?_⟩) he hpl
  subst ec ed
  have hl : us.length = ps.length := by rw [← r.length]; exact F.len _ _ _ _ _ _ hsp
  have b := hb s1 us I1.kIn (by rw [List.append_nil]; exact hl)
  rw [List.append_nil] at b
  have P1 := I1.pin (a, oe) (List.mem_append_left _ List.mem_cons_self)
  have hpin : L2H.PinOk X.stack H1 s1 (a, oe) := ⟨P1.1, P1.2.1, fun hm => (List.mem_cons.mp (I1.stkSub a hm)).elim P1.2.2.1 P1.2.2.2.1, P1.2.2.2.2⟩
  have hrH : L2H.RoomH k (X.A.mark (some (.ref a))) := ⟨by have := hr.dp; show X.A.depth + 3 * k + 5 < _; omega, by have := hr.un; show X.A.units + 16 * k + 200 < _; omega⟩
  refine wpAny_call (codeAny_mono (F.run _ X.stack s1 H1 ⟨us, []⟩ us vs Q _ (a, oe) D hrH ⟨hz, hf⟩ hpin I1.env0 b r hsp) fun rr s' hq => ?_)
  cases rr with
  | error ee => exact passAt (X := X.suite a ((a, oe) :: pn)) (W := fun _ _ _ _ => False) takes0 σ pins H1 s1 ee s' I1 hq
  | ok fl =>
    cases fl with
    | ret u => exact I1.after hq
    | next => exact False.elim hq
    | brk => exact False.elim hq
    | cont => exact False.elim hq
end CB
namespace CB
open PySem PySem.Spec PyProof.Rows L2
abbrev s_asked_frame : Stmt := top 12
abbrev N_asked_frame : List Str := ["ratios", "ratio"]
theorem sc_asked_frame : FnScope N_asked_frame ["ratios"] (defScope s_asked_frame) := ⟨rfl, rfl, rfl, by decide +kernel, rfl, by decide +kernel, by decide +kernel⟩
end CB

namespace CB
open PySem PySem.Spec PyProof.Rows L2
def sp_asked_frame (K : PySem.W.Frag) (mg : Str → Option Value) : Sp := fun vs H Q E => ∃ (a : Addr) (rs : List Int), vs = [.ref a] ∧ SqL K H a (rs.map V.int) ∧
  (GF rs → Q .non H) ∧ (¬ GF rs → E (.ref (ErA mg "NoFrame")) none H)
section
variable {P : Program} {w : World} {K : PySem.W.Frag} {mg : Str → Option Value} {base : Heap}
theorem ok_asked_frame {f : Addr} {fd : FuncData} (F : Fun K "asked_frame" "asked_frame" s_asked_frame f fd) (B : Bi mg) (m_MOST : ∃ t, mg "MOST" = some (.int 11 t)) (e_NoFrame : Er K mg "NoFrame") :
    FnOk P w K mg base (L2.CX P w) 1 f fd ["ratios"] (sp_asked_frame K mg) := by
  obtain ⟨tM, m_MOST⟩ := m_MOST
  refine F.okX sc_asked_frame (fun vs H Q E h => ?_) (fun cdv A outer s H vs Q E hr h => ?_)
  · obtain ⟨a, rs, rfl, _⟩ := h
    rfl
  · obtain ⟨a, rs, rfl, hS, kG, kB⟩ := h
    have tk : Takes (cxOf (L2.CX P w) P w K mg base N_asked_frame "asked_frame" (defScope s_asked_frame) f cdv A outer s H E) (fun cls d _ H => E cls d H) := takes_of rfl rfl rfl rfl
    refine ⟨_, (pss_cons (ps_if (pt_cmpR op_gt (pe_callB call_len_seq (by rfl) B.len PySem.boot_len (pa_cons (pv 0) pa_nil)) (pe_glob (v := .int 11) (by rfl) m_MOST ⟨_, rfl⟩) (nomark _)) (pss_one (ps_raise rfl tk (pmk_own PySem.F.excBase_ValueError e_NoFrame.xP e_NoFrame.gC e_NoFrame.kP (raises_own e_NoFrame.bP e_NoFrame.tP) (by rfl)))) pss_nil)
  (pss_one (ps_for (passes_of rfl) rfl (pi_list (pv 0)) (pg_name (i := 1) sc_asked_frame.nd rfl (Or.inl rfl)) (pss_one (ps_if (pw_or (pt_cmpR op_lt (pv 1) pe_int (nomark _)) (pw_or1 (pt_cmpR op_gt (pv 1) pe_int (nomark _)))).pt (pss_one (ps_raise rfl tk (pmk_own PySem.F.excBase_ValueError e_NoFrame.xP e_NoFrame.gC e_NoFrame.kP (raises_own e_NoFrame.bP e_NoFrame.tP) (by rfl)))) pss_nil))))), ?_⟩
    refine ⟨_, rfl, a, _, rfl, .inl hS, _, _, rfl, rfl, _, rfl, ite2 (fun e => ?_) (fun e => ?_)⟩
    · refine kB fun g => ?_
      have e1 := of_decide_eq_true e
      rw [List.length_map] at e1
      have := g.1
      omega
    · have hl : rs.length ≤ 11 := by
        have e1 : ¬ (11 < ((rs.map V.int).length : Int)) := fun z => e (decide_eq_true z)
        rw [List.length_map] at e1
        omega
      refine ⟨_, rfl, a, rfl, ⟨_, hS⟩, for_list (K := K) (a := a) (xs := rs.map V.int) (fun i σ H' => ∃ v, σ = [some (.ref a), v] ∧ H' = H ∧ ∀ (j : Nat) (r : Int), j < i → rs[j]? = some r → 2 ≤ r ∧ r ≤ 12)
        ⟨none, rfl, rfl, fun j r hj => absurd hj (Nat.not_lt_zero _)⟩ (fun i σ H' _ ⟨_, _, e, _⟩ => by rw [e]; exact hS) ?_ ?_⟩
      · rintro i y σ H' hi ⟨v, rfl, rfl, hg⟩
        obtain ⟨z, hz, rfl⟩ := get_map hi
        have bad : ¬ (2 ≤ z ∧ z ≤ 12) → ¬ GF rs := fun h g => h (g.2 z (List.mem_of_getElem? hz))
        refine ⟨_, rfl, _, _, rfl, rfl, _, rfl, ite2 (fun e => ?_) (fun e => ?_)⟩
        · refine ite_t rfl (kB (bad ?_))
          have := of_decide_eq_true e
          omega
        · have h1 : ¬ z < 2 := fun q => e (decide_eq_true q)
          refine ⟨_, rfl, _, _, rfl, rfl, _, rfl, ite2 (fun e2 => ?_) (fun e2 => ?_)⟩
          · refine kB (bad ?_)
            have := of_decide_eq_true e2
            omega
          · have h2 : ¬ 12 < z := fun q => e2 (decide_eq_true q)
            refine ⟨_, rfl, rfl, fun j r hj hr => ?_⟩
            rcases Nat.lt_succ_iff_lt_or_eq.mp hj with q | q
            · exact hg j r q hr
            · subst q
              rw [hz] at hr
              cases hr
              omega
      · rintro σ H' ⟨v, rfl, rfl, hg⟩
        rw [List.length_map] at hg
        refine kG ⟨hl, fun r hr => ?_⟩
        obtain ⟨j, hj, e⟩ := List.getElem_of_mem hr
        exact hg j r hj (by rw [List.getElem?_eq_getElem hj, e])
end
end CB
namespace CB
open PySem PySem.Spec PyProof.Rows L2
abbrev s_asked_board : Stmt := top 13
abbrev N_asked_board : List Str := ["ratios", "board", "counters"]
theorem sc_asked_board : FnScope N_asked_board ["ratios", "board"] (defScope s_asked_board) := ⟨rfl, rfl, rfl, by decide +kernel, rfl, by decide +kernel, by decide +kernel⟩
end CB

namespace CB
open PySem PySem.Spec PyProof.Rows L2
def sp_asked_board (K : PySem.W.Frag) (mg : Str → Option Value) : Sp := fun vs H Q E => ∃ (a b : Addr) (rs bs : List Int), vs = [.ref a, .ref b] ∧ SqL K H a (rs.map V.int) ∧ SqL K H b (bs.map V.int) ∧
  (GF rs → GB rs bs → Q .non H) ∧ (¬ GF rs → E (.ref (ErA mg "NoFrame")) none H) ∧ (GF rs → ¬ GB rs bs → E (.ref (ErA mg "NoBoard")) none H)
section
variable {P : Program} {w : World} {K : PySem.W.Frag} {mg : Str → Option Value} {base : Heap}
theorem ok_asked_board {f : Addr} {fd : FuncData} (F : Fun K "asked_board" "asked_board" s_asked_board f fd) (B : Bi mg) (e_NoBoard : Er K mg "NoBoard") (c_asked_frame : Callee P w K mg base 1 "asked_frame" ["ratios"] (sp_asked_frame K mg)) :
    FnOk P w K mg base (L2.CX P w) 2 f fd ["ratios", "board"] (sp_asked_board K mg) := by
  refine F.okX sc_asked_board (fun vs H Q E h => ?_) (fun cdv A outer s H vs Q E hr h => ?_)
  · obtain ⟨a, b, rs, bs, rfl, _⟩ := h
    rfl
  · obtain ⟨a, b, rs, bs, rfl, hA, hB, kG, kF, kB⟩ := h
    have tk : Takes (cxOf (L2.CX P w) P w K mg base N_asked_board "asked_board" (defScope s_asked_board) f cdv A outer s H E) (fun cls d _ H => E cls d H) := takes_of rfl rfl rfl rfl
    refine ⟨_, (pss_cons (ps_expr (pe_f c_asked_frame hr (by decide) tk (pa_cons (pv 0) pa_nil)))
  (pss_cons (ps_if (pt_cmpR op_ne (pe_callB call_len_seq (by rfl) B.len PySem.boot_len (pa_cons (pv 1) pa_nil)) (pe_op op_add (pe_callB call_len_seq (by rfl) B.len PySem.boot_len (pa_cons (pv 0) pa_nil)) pe_int) (nomark _)) (pss_one (ps_raise rfl tk (pmk_own PySem.F.excBase_ValueError e_NoBoard.xP e_NoBoard.gC e_NoBoard.kP (raises_own e_NoBoard.bP e_NoBoard.tP) (by rfl)))) pss_nil)
  (pss_one (ps_for (passes_of rfl) rfl (pi_list (pv 1)) (pg_name (i := 2) sc_asked_board.nd rfl (Or.inl rfl)) (pss_one (ps_if (pt_cmpR op_lt (pv 2) pe_int (nomark _)) (pss_one (ps_raise rfl tk (pmk_own PySem.F.excBase_ValueError e_NoBoard.xP e_NoBoard.gC e_NoBoard.kP (raises_own e_NoBoard.bP e_NoBoard.tP) (by rfl)))) pss_nil)))))), ?_⟩
    refine ⟨_, rfl, a, rs, rfl, hA, fun g => ?_, kF⟩
    refine ⟨_, rfl, b, _, rfl, .inl hB, _, rfl, a, _, rfl, .inl hA, _, _, rfl, rfl, rfl, _, rfl, ?_⟩
    rw [List.length_map, List.length_map]
    by_cases hl : bs.length = rs.length + 1
    · refine ite_f (by simp [hl]) ?_
      refine ⟨_, rfl, b, rfl, ⟨_, hB⟩, for_list (K := K) (a := b) (xs := bs.map V.int) (fun i σ H' => ∃ v, σ = [some (.ref a), some (.ref b), v] ∧ H' = H ∧ ∀ (j : Nat) (r : Int), j < i → bs[j]? = some r → 0 ≤ r)
        ⟨none, rfl, rfl, fun j r hj => absurd hj (Nat.not_lt_zero _)⟩ (fun i σ H' _ ⟨_, _, e, _⟩ => by rw [e]; exact hB) ?_ ?_⟩
      · rintro i y σ H' hi ⟨v, rfl, rfl, hg⟩
        obtain ⟨z, hz, rfl⟩ := get_map hi
        refine ⟨_, rfl, _, _, rfl, rfl, _, rfl, ite2 (fun e => ?_) (fun e => ?_)⟩
        · refine kB g fun q => ?_
          have h1 := q.2 z (List.mem_of_getElem? hz)
          have := of_decide_eq_true e
          omega
        · have h1 : ¬ z < 0 := fun q => e (decide_eq_true q)
          refine ⟨_, rfl, rfl, fun j r hj hr => ?_⟩
          rcases Nat.lt_succ_iff_lt_or_eq.mp hj with q | q
          · exact hg j r q hr
          · subst q
            rw [hz] at hr
            cases hr
            omega
      · rintro σ H' ⟨v, rfl, rfl, hg⟩
        rw [List.length_map] at hg
        refine kG g ⟨hl, fun r hr => ?_⟩
        obtain ⟨j, hj, e⟩ := List.getElem_of_mem hr
        exact hg j r hj (by rw [List.getElem?_eq_getElem hj, e])
    · refine ite_t ?_ (kB g fun q => hl q.1)
      have : ¬ ((bs.length : Int) = (rs.length : Int) + 1) := by omega
      simp [this]
end
end CB
namespace CB
open PySem PySem.Spec PyProof.Rows L2
abbrev s_worths : Stmt := top 14
abbrev N_worths : List Str := ["ratios", "found", "ratio"]
theorem sc_worths : FnScope N_worths ["ratios"] (defScope s_worths) := ⟨rfl, rfl, rfl, by decide +kernel, rfl, by decide +kernel, by decide +kernel⟩
end CB

namespace CB
open PySem PySem.Spec PyProof.Rows L2
def sp_worths (K : PySem.W.Frag) (mg : Str → Option Value) : Sp := fun vs H Q E => ∃ (a : Addr) (rs : List Int), vs = [.ref a] ∧ SqL K H a (rs.map V.int) ∧
  (GF rs → TellL H Q ((worthsL rs).map V.int)) ∧ (¬ GF rs → E (.ref (ErA mg "NoFrame")) none H)
theorem worths_take (rs : List Int) (i : Nat) (h : i ≤ rs.length) : worthsL (rs.take i) = (List.range i).map (fun k => prodL (rs.take k)) ++ [prodL (rs.take i)] := by
  unfold worthsL
  rw [List.length_take, Nat.min_eq_left h, List.range_succ, List.map_append]
  congr 1
  · refine List.map_congr_left fun k hk => ?_
    rw [List.take_take, Nat.min_eq_left (Nat.le_of_lt (List.mem_range.mp hk))]
  · rw [List.map_singleton, List.take_take, Nat.min_self]
theorem worths_more (rs : List Int) (i : Nat) (r : Int) (h : rs[i]? = some r) : worthsL (rs.take (i + 1)) = worthsL (rs.take i) ++ [prodL (rs.take i) * r] := by
  obtain ⟨hi, _⟩ := List.getElem?_eq_some_iff.mp h
  rw [worths_take rs (i + 1) hi, worths_take rs i (Nat.le_of_lt hi), List.range_succ, List.map_append, List.map_singleton, take_more h, prodL_snoc]
theorem worths_len (rs : List Int) : (worthsL rs).length = rs.length + 1 := by
  unfold worthsL
  rw [List.length_map, List.length_range]
section
variable {P : Program} {w : World} {K : PySem.W.Frag} {mg : Str → Option Value} {base : Heap}
theorem ok_worths {f : Addr} {fd : FuncData} (F : Fun K "worths" "worths" s_worths f fd) (B : Bi mg) (c_asked_frame : Callee P w K mg base 1 "asked_frame" ["ratios"] (sp_asked_frame K mg)) :
    FnOk P w K mg base (L2.CX P w) 2 f fd ["ratios"] (sp_worths K mg) := by
  refine F.okX sc_worths (fun vs H Q E h => ?_) (fun cdv A outer s H vs Q E hr h => ?_)
  · obtain ⟨a, rs, rfl, _⟩ := h
    rfl
  · obtain ⟨a, rs, rfl, hS, kG, kB⟩ := h
    have tk : Takes (cxOf (L2.CX P w) P w K mg base N_worths "worths" (defScope s_worths) f cdv A outer s H E) (fun cls d _ H => E cls d H) := takes_of rfl rfl rfl rfl
    refine ⟨_, (pss_cons (ps_expr (pe_f c_asked_frame hr (by decide) tk (pa_cons (pv 0) pa_nil)))
  (pss_cons (ps_set (i := 1) sc_worths.nd rfl (Or.inl rfl) (pe_lst (pa_cons pe_int pa_nil)))
  (pss_cons (ps_for (passes_of rfl) rfl (pi_list (pv 0)) (pg_name (i := 2) sc_worths.nd rfl (Or.inl rfl)) (pss_one (ps_expr (pe_bm PySem.F.plainAttrs_list PySem.F.slot_list_append PySem.F.type_list_append mt_append (pv 1) (pa_cons (pe_op op_mulW (pe_ix ix_list (pv 1) (pe_un un_neg pe_int) (fun _ _ => rfl)) (pv 2)) pa_nil)))))
  (pss_one (ps_ret (pv 1)))))), ?_⟩
    refine ⟨.ref a, rfl, a, rs, rfl, hS, fun g => ?_, kB⟩
    refine ⟨by show 1 ≤ sizeLine; decide, fun p hp => ?_⟩
    have hpa : SqL K (upd H p (.lst [.int 1])) a (rs.map V.int) := (same_upd hp).seq hS
    refine ⟨_, rfl, a, rfl, ⟨_, hpa⟩, for_list (K := K) (a := a) (xs := rs.map V.int) (fun i σ H' => ∃ v, σ = [some (.ref a), some (.ref p), v] ∧ Same H H' ∧ H' p = some (.lst ((worthsL (rs.take i)).map V.int)))
        ⟨none, rfl, same_upd hp, upd_same⟩ (fun i σ H' _ ⟨_, _, e, _⟩ => e.seq hS) ?_ ?_⟩
    · rintro i y σ H' hi ⟨v, rfl, sm, hp'⟩
      obtain ⟨z, hz, rfl⟩ := get_map hi
      obtain ⟨hil, _⟩ := List.getElem?_eq_some_iff.mp hz
      have hil' : i ≤ 11 := by have := g.1; omega
      have e1 : (worthsL (rs.take i)).map V.int = ((List.range i).map (fun k => prodL (rs.take k))).map V.int ++ [.int (prodL (rs.take i))] := by
        rw [worths_take rs i (Nat.le_of_lt hil), List.map_append]
        all_goals rfl
      have gz := g.2 z (List.mem_of_getElem? hz)
      have gp := prodL_lt (l := rs.take i) (fun r hr => g.2 r (List.mem_of_mem_take hr)) (by rw [List.length_take]; omega)
      refine ⟨_, rfl, .inl ⟨rfl, _, SqL.of hp'⟩, _, rfl, _, rfl, p, _, -1, .int (prodL (rs.take i)), rfl, rfl, SqL.of hp', by rw [e1]; exact atI_last _ _, .int z, rfl, _, _, rfl, rfl, ?_, p, _, _, rfl, rfl, hp', ?_, ?_⟩
      · exact wide_mul (a := 40) (b := 40) (abs_lt_pow (by omega) gp.2) (abs_lt_pow (by omega) (by omega)) (by decide) (by decide) (by decide)
      · rw [List.length_map, worths_len, List.length_take]
        exact small64 (by omega)
      · refine ⟨some (.int z), rfl, fun b o e => ?_, ?_⟩
        · rw [upd_ne (ne_of_none e hp)]
          exact sm b o e
        · rw [upd_same, worths_more rs i z hz, List.map_append]
          all_goals rfl
    · rintro σ H' ⟨v, rfl, sm, hp'⟩
      rw [List.length_map, List.take_length] at hp'
      exact ⟨_, rfl, kG g H' p sm hp hp'⟩
end
end CB
namespace CB
open PySem PySem.Spec PyProof.Rows L2
abbrev s_worth : Stmt := top 15
abbrev N_worth : List Str := ["ratios", "board", "counters", "one"]
theorem sc_worth : FnScope N_worth ["ratios", "board"] (defScope s_worth) := ⟨rfl, rfl, rfl, by decide +kernel, rfl, by decide +kernel, by decide +kernel⟩
end CB

namespace CB
open PySem PySem.Spec PyProof.Rows L2
def sp_worth (K : PySem.W.Frag) (mg : Str → Option Value) : Sp := fun vs H Q E => ∃ (a b : Addr) (rs bs : List Int), vs = [.ref a, .ref b] ∧ SqL K H a (rs.map V.int) ∧ SqL K H b (bs.map V.int) ∧
  (GF rs → GB rs bs → BS bs ∧ TellV H Q (.int (W rs bs))) ∧ (¬ GF rs → E (.ref (ErA mg "NoFrame")) none H) ∧ (GF rs → ¬ GB rs bs → E (.ref (ErA mg "NoBoard")) none H)
section
variable {P : Program} {w : World} {K : PySem.W.Frag} {mg : Str → Option Value} {base : Heap}
theorem ok_worth {f : Addr} {fd : FuncData} (F : Fun K "worth" "worth" s_worth f fd) (B : Bi mg) (c_asked_board : Callee P w K mg base 2 "asked_board" ["ratios", "board"] (sp_asked_board K mg))
    (c_worths : Callee P w K mg base 2 "worths" ["ratios"] (sp_worths K mg)) :
    FnOk P w K mg base (L2.CX P w) 3 f fd ["ratios", "board"] (sp_worth K mg) := by
  refine F.okX sc_worth (fun vs H Q E h => ?_) (fun cdv A outer s H vs Q E hr h => ?_)
  · obtain ⟨a, b, rs, bs, rfl, _⟩ := h
    rfl
  · obtain ⟨a, b, rs, bs, rfl, hA, hB, kG, kF, kB⟩ := h
    have tk : Takes (cxOf (L2.CX P w) P w K mg base N_worth "worth" (defScope s_worth) f cdv A outer s H E) (fun cls d _ H => E cls d H) := takes_of rfl rfl rfl rfl
    refine ⟨_, (pss_cons (ps_expr (pe_f c_asked_board hr (by decide) tk (pa_cons (pv 0) (pa_cons (pv 1) pa_nil))))
  (pss_one (ps_ret (pe_callB (cr_sum rfl) (by rfl) B.sum (by decide +kernel) (pa_cons (pe_lc (own := [("counters", 2), ("one", 3)]) (g := gTup K 2 (gCons (gName 2) (gCons (gName 3) gNil))) (tt := tYes) rfl sc_worth.nd (pi_zip (by rfl) B.zip (pa_cons (pv 1) (pa_cons (pe_f c_worths hr (by decide) tk (pa_cons (pv 0) pa_nil)) pa_nil))) (blkOk_by (own := [("counters", 2), ("one", 3)]) (N := N_worth) (sc := defScope s_worth) (by decide +kernel)) (fun _ _ _ _ _ => pg_tup rfl (pgs_cons (pg_name (i := 2) sc_worth.nd rfl (Or.inl rfl)) (pgs_cons (pg_name (i := 3) sc_worth.nd rfl (Or.inl rfl)) pgs_nil))) (fun _ _ _ _ _ => pts_nil) (fun _ _ _ _ _ => (pe_op op_mulW (pv 2) (pv 3)))) pa_nil))))), ?_⟩
    refine ⟨_, rfl, _, rfl, a, b, rs, bs, rfl, hA, hB, fun g gb => ?_, kF, kB⟩
    obtain ⟨hs, k⟩ := kG g gb
    refine ⟨_, rfl, _, rfl, a, rs, rfl, hA, fun _ H1 p s1 n1 e1 => ?_, fun z => absurd g z⟩
    refine ⟨b, p, _, _, rfl, s1.seq hB, SqL.of e1, fun T hT => ?_⟩
    have hlen : bs.length = rs.length + 1 := gb.1
    have hl : (List.zipWith (· * ·) bs (worthsL rs)).length = rs.length + 1 := by rw [List.length_zipWith, worths_len]; omega
    refine lc_zip (K := K) (rs.length + 1) (by rw [List.length_map, List.length_map, worths_len]; omega) (Gr H1 T ((List.zipWith (· * ·) bs (worthsL rs)).map V.int)) (Gr.zero _ hT) (fun i H' gr => ⟨gr.1.seq (s1.seq hB), gr.1.seq (SqL.of e1)⟩) ?_ ?_
    · rintro i x y T' H' hx hy gr nT
      obtain ⟨z, hz, rfl⟩ := get_map hx
      obtain ⟨o, ho, rfl⟩ := get_map hy
      refine ⟨T', _, rfl, SqT.of upd_same, rfl, _, _, rfl, _, _, rfl, rfl, rfl, ?_⟩
      have ho' : ∃ k, k < rs.length + 1 ∧ o = prodL (rs.take k) := by
        have hm := List.mem_of_getElem? ho
        unfold worthsL at hm
        obtain ⟨k, hk, e⟩ := List.mem_map.mp hm
        exact ⟨k, List.mem_range.mp hk, e.symm⟩
      obtain ⟨k', hk', rfl⟩ := ho'
      have gp := prodL_lt (l := rs.take k') (fun r hr => g.2 r (List.mem_of_mem_take hr)) (by rw [List.length_take]; have := g.1; omega)
      have hz0 := gb.2 z (List.mem_of_getElem? hz)
      have hz1 := hs z (List.mem_of_getElem? hz)
      refine ⟨_, rfl, _, rfl, _, _, rfl, rfl, wide_mul (a := 200) (b := 40) (abs_lt_pow hz0 hz1) (abs_lt_pow (by omega) gp.2) (by decide) (by decide) (by decide), ?_⟩
      refine ⟨_, gr.step hT (by rw [List.length_map, hl]; have := g.1; omega) (map_get (z := z * prodL (rs.take k')) ?_) (same_upd nT)⟩
      rw [List.getElem?_zipWith, hz, ho]
    · intro H' gr
      refine ⟨T, _, rfl, SqL.of (gr.done (by rw [List.length_map, hl]; exact Nat.le_refl _)), ?_⟩
      rw [W_sum rs bs hlen]
      refine k H' fun b' o' e' => gr.1 _ _ (s1 _ _ e')
end
end CB
namespace CB
open PySem PySem.Spec PyProof.Rows L2
abbrev s_raisings : Stmt := top 17
abbrev N_raisings : List Str := ["ratios", "board", "found", "come", "counters", "ratio"]
theorem sc_raisings : FnScope N_raisings ["ratios", "board"] (defScope s_raisings) := ⟨rfl, rfl, rfl, by decide +kernel, rfl, by decide +kernel, by decide +kernel⟩
end CB

namespace CB
open PySem PySem.Spec PyProof.Rows L2
def sp_raisings (K : PySem.W.Frag) (mg : Str → Option Value) : Sp := fun vs H Q E => ∃ (a b : Addr) (rs bs : List Int), vs = [.ref a, .ref b] ∧ SqL K H a (rs.map V.int) ∧ SqL K H b (bs.map V.int) ∧
  (GF rs → GB rs bs → TellL H Q ((R rs bs 0).map V.int)) ∧ (¬ GF rs → E (.ref (ErA mg "NoFrame")) none H) ∧ (GF rs → ¬ GB rs bs → E (.ref (ErA mg "NoBoard")) none H)
section
variable {P : Program} {w : World} {K : PySem.W.Frag} {mg : Str → Option Value} {base : Heap}
theorem ok_raisings {f : Addr} {fd : FuncData} (F : Fun K "raisings" "raisings" s_raisings f fd) (B : Bi mg) (c_asked_board : Callee P w K mg base 2 "asked_board" ["ratios", "board"] (sp_asked_board K mg)) :
    FnOk P w K mg base (L2.CX P w) 3 f fd ["ratios", "board"] (sp_raisings K mg) := by
  refine F.okX sc_raisings (fun vs H Q E h => ?_) (fun cdv A outer s H vs Q E hr h => ?_)
  · obtain ⟨a, b, rs, bs, rfl, _⟩ := h
    rfl
  · obtain ⟨a, b, rs, bs, rfl, hA, hB, kG, kF, kB⟩ := h
    have tk : Takes (cxOf (L2.CX P w) P w K mg base N_raisings "raisings" (defScope s_raisings) f cdv A outer s H E) (fun cls d _ H => E cls d H) := takes_of rfl rfl rfl rfl
    refine ⟨_, (pss_cons (ps_expr (pe_f c_asked_board hr (by decide) tk (pa_cons (pv 0) (pa_cons (pv 1) pa_nil))))
  (pss_cons (ps_set (i := 2) sc_raisings.nd rfl (Or.inl rfl) (pe_lst pa_nil))
  (pss_cons (ps_set (i := 3) sc_raisings.nd rfl (Or.inl rfl) pe_int)
  (pss_cons (ps_for (passes_of rfl) rfl (pi_zip (by rfl) B.zip (pa_cons (pv 1) (pa_cons (pv 0) pa_nil))) (pg_tup rfl (pgs_cons (pg_name (i := 4) sc_raisings.nd rfl (Or.inl rfl)) (pgs_cons (pg_name (i := 5) sc_raisings.nd rfl (Or.inl rfl)) pgs_nil))) (pss_cons (ps_set (i := 3) sc_raisings.nd rfl (Or.inl rfl) (pe_op op_fdiv (pe_op op_add (pv 4) (pv 3)) (pv 5)))
  (pss_one (ps_expr (pe_bm PySem.F.plainAttrs_list PySem.F.slot_list_append PySem.F.type_list_append mt_append (pv 2) (pa_cons (pv 3) pa_nil))))))
  (pss_one (ps_ret (pv 2))))))), ?_⟩
    refine ⟨_, rfl, _, rfl, a, b, rs, bs, rfl, hA, hB, fun g gb => ?_, kF, kB⟩
    have k := kG g gb
    have hn := gb.1
    refine ⟨by show 0 ≤ sizeLine; decide, fun p hp => ?_⟩
    have hlen : ((R rs bs 0).map V.int).length ≤ 100000 := by rw [List.length_map, R_len rs bs 0 hn]; have := g.1; omega
    refine ⟨_, rfl, _, rfl, b, a, _, _, rfl, (same_upd hp).seq hB, (same_upd hp).seq hA, for_zip (K := K) (a := b) (b := a) rs.length (by rw [List.length_map, List.length_map]; omega)
      (fun i σ H' => ∃ v u c, σ = [some (.ref a), some (.ref b), some (.ref p), some (.int c), v, u] ∧ Gr H p ((R rs bs 0).map V.int) i H' ∧ ∃ l, R rs bs 0 = l ++ R (rs.drop i) (bs.drop i) c ∧ l.length = i)
        ⟨none, none, 0, rfl, Gr.zero _ hp, [], rfl, rfl⟩ (fun i σ H' ⟨_, _, _, _, gr, _⟩ => ⟨gr.1.seq hB, gr.1.seq hA⟩) ?_ ?_⟩
    · rintro i x y T σ H' hx hy ⟨v, u, c, rfl, gr, l, e1, e2⟩ nT
      obtain ⟨x, hxx, rfl⟩ := get_map hx
      obtain ⟨z, hz, rfl⟩ := get_map hy
      have gz := g.2 z (List.mem_of_getElem? hz)
      have e3 : rs.drop i = z :: rs.drop (i + 1) := by
        obtain ⟨hl, e⟩ := List.getElem?_eq_some_iff.mp hz
        rw [List.drop_eq_getElem_cons hl, e]
      have e3' : bs.drop i = x :: bs.drop (i + 1) := by
        obtain ⟨hl, e⟩ := List.getElem?_eq_some_iff.mp hxx
        rw [List.drop_eq_getElem_cons hl, e]
      rw [e3, e3'] at e1
      have e4 : ((R rs bs 0).map V.int)[i]? = some (.int ((x + c) / z)) := by
        refine map_get ?_
        rw [e1, List.getElem?_append_right (by omega), e2, Nat.sub_self]
        rfl
      have st := gr.step hp hlen e4 (same_upd (o := .tup [V.int x, V.int z]) nT)
      refine ⟨T, _, rfl, SqT.of upd_same, rfl, _, _, rfl, _, _, rfl, rfl, ?_⟩
      refine ⟨_, rfl, _, rfl, _, _, rfl, rfl, _, rfl, _, _, rfl, rfl, ⟨by omega, by omega⟩, ?_⟩
      refine ⟨_, rfl, .inl ⟨rfl, _, SqL.of st.1⟩, _, rfl, p, _, _, rfl, rfl, st.1, st.2.1, ?_⟩
      refine ⟨_, _, _, rfl, st.2.2, l ++ [(x + c) / z], ?_, by rw [List.length_append, e2]; rfl⟩
      rw [e1, List.append_assoc]
      rfl
    · rintro σ H' ⟨v, u, c, rfl, gr, l, e1, e2⟩
      exact ⟨_, rfl, k _ p gr.1 hp (gr.done (by rw [List.length_map, R_len rs bs 0 hn]; exact Nat.le_refl _))⟩
end
end CB
namespace CB
open PySem PySem.Spec PyProof.Rows L2
abbrev s_net : Stmt := top 20
abbrev N_net : List Str := ["ratios", "one", "other", "mine", "theirs"]
theorem sc_net : FnScope N_net ["ratios", "one", "other"] (defScope s_net) := ⟨rfl, rfl, rfl, by decide +kernel, rfl, by decide +kernel, by decide +kernel⟩
end CB

namespace CB
open PySem PySem.Spec PyProof.Rows L2
def sp_net (K : PySem.W.Frag) (mg : Str → Option Value) : Sp := fun vs H Q E => ∃ (a b c : Addr) (rs bs cs : List Int), vs = [.ref a, .ref b, .ref c] ∧ SqL K H a (rs.map V.int) ∧ SqL K H b (bs.map V.int) ∧ SqL K H c (cs.map V.int) ∧
  Two mg H E rs bs cs ((W rs bs = W rs cs → TellL H Q ((N rs bs cs).map V.int)) ∧ (W rs bs ≠ W rs cs → Raise mg "NoWay" H E))
section
variable {P : Program} {w : World} {K : PySem.W.Frag} {mg : Str → Option Value} {base : Heap}
theorem ok_net {f : Addr} {fd : FuncData} (F : Fun K "net" "net" s_net f fd) (B : Bi mg) (e_NoWay : Er K mg "NoWay") (c_worth : Callee P w K mg base 3 "worth" ["ratios", "board"] (sp_worth K mg))
    (c_raisings : Callee P w K mg base 3 "raisings" ["ratios", "board"] (sp_raisings K mg)) :
    FnOk P w K mg base (L2.CX P w) 4 f fd ["ratios", "one", "other"] (sp_net K mg) := by
  refine F.okX sc_net (fun vs H Q E h => ?_) (fun cdv A outer s H vs Q E hr h => ?_)
  · obtain ⟨a, b, c, rs, bs, cs, rfl, _⟩ := h
    rfl
  · obtain ⟨a, b, c, rs, bs, cs, rfl, hA, hB, hC, k, kF, kB⟩ := h
    have tk : Takes (cxOf (L2.CX P w) P w K mg base N_net "net" (defScope s_net) f cdv A outer s H E) (fun cls d _ H => E cls d H) := takes_of rfl rfl rfl rfl
    refine ⟨_, (pss_cons (ps_if (pt_cmpR op_ne (pe_f c_worth hr (by decide) tk (pa_cons (pv 0) (pa_cons (pv 1) pa_nil))) (pe_f c_worth hr (by decide) tk (pa_cons (pv 0) (pa_cons (pv 2) pa_nil))) (nomark _)) (pss_one (ps_raise rfl tk (pmk_own PySem.F.excBase_ValueError e_NoWay.xP e_NoWay.gC e_NoWay.kP (raises_own e_NoWay.bP e_NoWay.tP) (by rfl)))) pss_nil)
  (pss_one (ps_ret (pe_lc (own := [("mine", 3), ("theirs", 4)]) (g := gTup K 2 (gCons (gName 3) (gCons (gName 4) gNil))) (tt := tYes) rfl sc_net.nd (pi_zip (by rfl) B.zip (pa_cons (pe_f c_raisings hr (by decide) tk (pa_cons (pv 0) (pa_cons (pv 1) pa_nil))) (pa_cons (pe_f c_raisings hr (by decide) tk (pa_cons (pv 0) (pa_cons (pv 2) pa_nil))) pa_nil))) (blkOk_by (own := [("mine", 3), ("theirs", 4)]) (N := N_net) (sc := defScope s_net) (by decide +kernel)) (fun _ _ _ _ _ => pg_tup rfl (pgs_cons (pg_name (i := 3) sc_net.nd rfl (Or.inl rfl)) (pgs_cons (pg_name (i := 4) sc_net.nd rfl (Or.inl rfl)) pgs_nil))) (fun _ _ _ _ _ => pts_nil) (fun _ _ _ _ _ => (pe_op op_sub (pv 3) (pv 4))))))), ?_⟩
    refine ⟨_, rfl, _, rfl, a, b, rs, bs, rfl, hA, hB, fun g gb => ?_, kF, kB⟩
    obtain ⟨sb, k1, k2⟩ := k g gb
    refine ⟨sb, fun H1 s1 => ?_⟩
    refine ⟨_, rfl, _, rfl, a, c, rs, cs, rfl, s1.seq hA, s1.seq hC, fun _ gc => ?_, fun z => absurd g z, fun _ z => k2 z H1 s1⟩
    obtain ⟨sc, k3, k4⟩ := k1 gc
    refine ⟨sc, fun H2 s2 => ?_⟩
    have s02 := s1.trans s2
    refine ⟨rfl, _, rfl, ?_⟩
    by_cases hw : W rs bs = W rs cs
    · refine ite_f (by simp [hw]) ?_
      have kk := k3 hw
      refine ⟨_, rfl, _, rfl, a, b, rs, bs, rfl, s02.seq hA, s02.seq hB, fun _ _ H3 p3 s3 n3 e3 => ?_, fun z => absurd g z, fun _ z => absurd gb z⟩
      have s03 := s02.trans s3
      refine ⟨_, rfl, _, rfl, a, c, rs, cs, rfl, s03.seq hA, s03.seq hC, fun _ _ H4 p4 s4 n4 e4 => ?_, fun z => absurd g z, fun _ z => absurd gc z⟩
      have s04 := s03.trans s4
      have f3 := s4 _ _ e3
      refine ⟨p3, p4, _, _, rfl, SqL.of f3, SqL.of e4, fun T hT => ?_⟩
      have l1 := R_len rs bs 0 gb.1
      have l2 := R_len rs cs 0 gc.1
      have hl := N_len gb.1 gc.1
      refine lc_zip (K := K) rs.length (by rw [List.length_map, List.length_map]; omega) (Gr H4 T ((N rs bs cs).map V.int)) (Gr.zero _ hT) (fun i H' gr => ⟨gr.1.seq (SqL.of f3), gr.1.seq (SqL.of e4)⟩) ?_ ?_
      · rintro i x y T' H' hx hy gr nT
        obtain ⟨z, hz, rfl⟩ := get_map hx
        obtain ⟨o, ho, rfl⟩ := get_map hy
        refine ⟨T', _, rfl, SqT.of upd_same, rfl, _, _, rfl, _, _, rfl, rfl, rfl, ?_⟩
        refine ⟨_, rfl, _, rfl, _, _, rfl, rfl, ?_⟩
        refine ⟨_, gr.step hT (by rw [List.length_map, hl]; have := g.1; omega) (map_get (z := z - o) ?_) (same_upd nT)⟩
        unfold N
        rw [List.getElem?_zipWith, hz, ho]
      · intro H' gr
        exact kk H' T (s04.trans gr.1) (s04.free hT) (gr.done (by rw [List.length_map, hl]; exact Nat.le_refl _))
    · exact ite_t (by simp [hw]) (k4 hw H2 s02)
end
end CB
namespace CB
open PySem PySem.Spec PyProof.Rows L2
abbrev s_fewest : Stmt := top 21
abbrev N_fewest : List Str := ["ratios", "one", "other", "number"]
theorem sc_fewest : FnScope N_fewest ["ratios", "one", "other"] (defScope s_fewest) := ⟨rfl, rfl, rfl, by decide +kernel, rfl, by decide +kernel, by decide +kernel⟩
end CB

namespace CB
open PySem PySem.Spec PyProof.Rows L2
def sp_fewest (K : PySem.W.Frag) (mg : Str → Option Value) : Sp := fun vs H Q E => ∃ (a b c : Addr) (rs bs cs : List Int), vs = [.ref a, .ref b, .ref c] ∧ SqL K H a (rs.map V.int) ∧ SqL K H b (bs.map V.int) ∧ SqL K H c (cs.map V.int) ∧
  Two mg H E rs bs cs ((W rs bs = W rs cs → TellV H Q (.int (Nabs rs bs cs))) ∧ (W rs bs ≠ W rs cs → Raise mg "NoWay" H E))
section
variable {P : Program} {w : World} {K : PySem.W.Frag} {mg : Str → Option Value} {base : Heap}
theorem ok_fewest {f : Addr} {fd : FuncData} (F : Fun K "fewest" "fewest" s_fewest f fd) (B : Bi mg) (c_net : Callee P w K mg base 4 "net" ["ratios", "one", "other"] (sp_net K mg)) :
    FnOk P w K mg base (L2.CX P w) 5 f fd ["ratios", "one", "other"] (sp_fewest K mg) := by
  refine F.okX sc_fewest (fun vs H Q E h => ?_) (fun cdv A outer s H vs Q E hr h => ?_)
  · obtain ⟨a, b, c, rs, bs, cs, rfl, _⟩ := h
    rfl
  · obtain ⟨a, b, c, rs, bs, cs, rfl, hA, hB, hC, k, kF, kB⟩ := h
    have tk : Takes (cxOf (L2.CX P w) P w K mg base N_fewest "fewest" (defScope s_fewest) f cdv A outer s H E) (fun cls d _ H => E cls d H) := takes_of rfl rfl rfl rfl
    refine ⟨_, (pss_one (ps_ret (pe_callB (cr_sum rfl) (by rfl) B.sum (by decide +kernel) (pa_cons (pe_lc (own := [("number", 3)]) (g := gName 3) (tt := tYes) rfl sc_fewest.nd (pi_list (pe_f c_net hr (by decide) tk (pa_cons (pv 0) (pa_cons (pv 1) (pa_cons (pv 2) pa_nil))))) (blkOk_by (own := [("number", 3)]) (N := N_fewest) (sc := defScope s_fewest) (by decide +kernel)) (fun _ _ _ _ _ => pg_name (i := 3) sc_fewest.nd rfl (Or.inl rfl)) (fun _ _ _ _ _ => pts_nil) (fun _ _ _ _ _ => (pe_callB call_abs (by rfl) B.abs (by decide +kernel) (pa_cons (pv 3) pa_nil)))) pa_nil)))), ?_⟩
    refine ⟨_, rfl, _, rfl, _, rfl, a, b, c, rs, bs, cs, rfl, hA, hB, hC, fun g gb => ⟨(k g gb).1, fun gc => ⟨((k g gb).2.1 gc).1, fun hw H1 p1 s1 n1 e1 => ?_, ((k g gb).2.1 gc).2.2⟩, (k g gb).2.2⟩, kF, kB⟩
    have kk := ((k g gb).2.1 gc).2.1 hw
    have hl := N_len gb.1 gc.1
    have g11 := g.1
    refine ⟨p1, rfl, ⟨_, SqL.of e1⟩, fun T hT => ?_⟩
    refine lc_list (K := K) (a := p1) (xs := (N rs bs cs).map V.int) (Gr H1 T (((N rs bs cs).map abs').map V.int)) (Gr.zero _ hT) (fun i H' _ gr => gr.1.seq (SqL.of e1)) ?_ ?_
    · rintro i x H' hx gr
      obtain ⟨z, hz, rfl⟩ := get_map hx
      refine ⟨rfl, _, rfl, z, rfl, _, gr.step hT (by rw [List.length_map, List.length_map]; omega) (map_get (z := abs' z) ?_) (Same.refl _)⟩
      rw [List.getElem?_map, hz]
      rfl
    · intro H' gr
      refine ⟨T, _, rfl, SqL.of (gr.done (by rw [List.length_map, List.length_map, List.length_map]; exact Nat.le_refl _)), ?_⟩
      exact kk H' (s1.trans gr.1)
end
end CB
namespace CB
open PySem PySem.Spec PyProof.Rows L2
abbrev s_way : Stmt := top 22
abbrev N_way : List Str := ["ratios", "one", "other", "nets", "found", "line", "k"]
theorem sc_way : FnScope N_way ["ratios", "one", "other"] (defScope s_way) := ⟨rfl, rfl, rfl, by decide +kernel, rfl, by decide +kernel, by decide +kernel⟩
end CB

namespace CB
open PySem PySem.Spec PyProof.Rows L2
def sp_way (K : PySem.W.Frag) (mg : Str → Option Value) : Sp := fun vs H Q E => ∃ (a b c : Addr) (rs bs cs : List Int), vs = [.ref a, .ref b, .ref c] ∧ SqL K H a (rs.map V.int) ∧ SqL K H b (bs.map V.int) ∧ SqL K H c (cs.map V.int) ∧
  Two mg H E rs bs cs ((W rs bs = W rs cs → (Nabs rs bs cs ≤ 2000 → TellT H Q (wayL (N rs bs cs))) ∧ (2000 < Nabs rs bs cs → Raise mg "TooLong" H E)) ∧ (W rs bs ≠ W rs cs → Raise mg "NoWay" H E))
theorem max0 (x : Int) : (if x > 0 then x else 0).toNat = x.toNat := by split <;> omega
section
variable {P : Program} {w : World} {K : PySem.W.Frag} {mg : Str → Option Value} {base : Heap}
theorem ok_way {f : Addr} {fd : FuncData} (F : Fun K "way" "way" s_way f fd) (B : Bi mg) (m_MOST_STEPS : ∃ t, mg "MOST_STEPS" = some (.int 2000 t)) (e_TooLong : Er K mg "TooLong") (c_net : Callee P w K mg base 4 "net" ["ratios", "one", "other"] (sp_net K mg))
    (c_fewest : Callee P w K mg base 5 "fewest" ["ratios", "one", "other"] (sp_fewest K mg)) :
    FnOk P w K mg base (L2.CX P w) 6 f fd ["ratios", "one", "other"] (sp_way K mg) := by
  obtain ⟨tm, m_MOST_STEPS⟩ := m_MOST_STEPS
  refine F.okX sc_way (fun vs H Q E h => ?_) (fun cdv A outer s H vs Q E hr h => ?_)
  · obtain ⟨a, b, c, rs, bs, cs, rfl, _⟩ := h
    rfl
  · obtain ⟨a, b, c, rs, bs, cs, rfl, hA, hB, hC, k, kF, kB⟩ := h
    have tk : Takes (cxOf (L2.CX P w) P w K mg base N_way "way" (defScope s_way) f cdv A outer s H E) (fun cls d _ H => E cls d H) := takes_of rfl rfl rfl rfl
    refine ⟨_, (pss_cons (ps_set (i := 3) sc_way.nd rfl (Or.inl rfl) (pe_f c_net hr (by decide) tk (pa_cons (pv 0) (pa_cons (pv 1) (pa_cons (pv 2) pa_nil)))))
  (pss_cons (ps_if (pt_cmpR op_gt (pe_f c_fewest hr (by decide) tk (pa_cons (pv 0) (pa_cons (pv 1) (pa_cons (pv 2) pa_nil)))) (pe_glob (v := .int 2000) (by rfl) m_MOST_STEPS ⟨_, rfl⟩) (nomark _)) (pss_one (ps_raise rfl tk (pmk_own PySem.F.excBase_ValueError e_TooLong.xP e_TooLong.gC e_TooLong.kP (raises_own e_TooLong.bP e_TooLong.tP) (by rfl)))) pss_nil)
  (pss_cons (ps_set (i := 4) sc_way.nd rfl (Or.inl rfl) (pe_lst pa_nil))
  (pss_cons (ps_for (passes_of rfl) rfl (pi_revR (by rfl) B.reversed (prg_1 (by rfl) B.range (pe_callB call_len_seq (by rfl) B.len PySem.boot_len (pa_cons (pv 3) pa_nil)))) (pg_name (i := 5) sc_way.nd rfl (Or.inl rfl)) (pss_one (ps_for (passes_of rfl) rfl (pi_range1 (by rfl) B.range (pa_cons (pe_callB (call_max2 rfl) (by rfl) B.max (by decide +kernel) (pa_cons pe_int (pa_cons (pe_op op_sub pe_int (pe_ix ix_list (pv 3) (pv 5) (fun _ _ => rfl))) pa_nil))) pa_nil)) (pg_name (i := 6) sc_way.nd rfl (Or.inl rfl)) (pss_one (ps_expr (pe_bm PySem.F.plainAttrs_list PySem.F.slot_list_append PySem.F.type_list_append mt_append (pv 4) (pa_cons (pe_tup (pa_cons (pv 5) (pa_cons pe_bl pa_nil))) pa_nil)))))))
  (pss_cons (ps_for (passes_of rfl) rfl (pi_range1 (by rfl) B.range (pa_cons (pe_callB call_len_seq (by rfl) B.len PySem.boot_len (pa_cons (pv 3) pa_nil)) pa_nil)) (pg_name (i := 5) sc_way.nd rfl (Or.inl rfl)) (pss_one (ps_for (passes_of rfl) rfl (pi_range1 (by rfl) B.range (pa_cons (pe_callB (call_max2 rfl) (by rfl) B.max (by decide +kernel) (pa_cons pe_int (pa_cons (pe_ix ix_list (pv 3) (pv 5) (fun _ _ => rfl)) pa_nil))) pa_nil)) (pg_name (i := 6) sc_way.nd rfl (Or.inl rfl)) (pss_one (ps_expr (pe_bm PySem.F.plainAttrs_list PySem.F.slot_list_append PySem.F.type_list_append mt_append (pv 4) (pa_cons (pe_tup (pa_cons (pv 5) (pa_cons pe_bl pa_nil))) pa_nil)))))))
  (pss_one (ps_ret (pv 4)))))))), ?_⟩
    refine ⟨_, rfl, _, rfl, _, rfl, a, b, c, rs, bs, cs, rfl, hA, hB, hC, fun g gb => ⟨(k g gb).1, fun gc => ⟨((k g gb).2.1 gc).1, fun hw H1 p1 s1 n1 e1 => ?_, ((k g gb).2.1 gc).2.2⟩, (k g gb).2.2⟩, kF, kB⟩
    obtain ⟨kS, kL⟩ := ((k g gb).2.1 gc).2.1 hw
    have sb := (k g gb).1
    have sc := ((k g gb).2.1 gc).1
    have hl := N_len gb.1 gc.1
    have g11 := g.1
    refine ⟨_, rfl, _, rfl, _, rfl, a, b, c, rs, bs, cs, rfl, s1.seq hA, s1.seq hB, s1.seq hC, Two.good g gb gc sb sc ⟨fun _ H2 s2 => ?_, fun z => absurd hw z⟩⟩
    have s02 := s1.trans s2
    have f1 := s2 _ _ e1
    refine ⟨_, _, rfl, rfl, _, rfl, ite2 (fun e => ?_) (fun e => ?_)⟩
    · exact kL (of_decide_eq_true e) H2 s02
    · have hN : Nabs rs bs cs ≤ 2000 := by
        have : ¬ 2000 < Nabs rs bs cs := fun z => e (decide_eq_true z)
        omega
      have kk := kS hN
      clear kS kL
      have hwl : ((wayL (N rs bs cs)).length : Int) = Nabs rs bs cs := wayL_len _
      have hab : ∀ x ∈ N rs bs cs, abs' x ≤ Nabs rs bs cs := fun x hx => abs_le_sum hx
      generalize Nabs rs bs cs = M at hN hwl hab
      generalize N rs bs cs = ns at *
      have hwd : (downP ns ns.length).length + (upP ns ns.length).length = (wayL ns).length := by unfold wayL; rw [List.length_append]
      refine ⟨by show 0 ≤ sizeLine; decide, fun p hp => ?_⟩
      have sp0 := same_upd (o := .lst []) hp
      refine ⟨_, rfl, p1, _, rfl, .inl (SqL.of (sp0 _ _ f1)), _, rfl, by decide, by decide, by rw [List.length_map]; omega, by rw [List.length_map]; omega, ?_⟩
      rw [List.length_map]
      rw [show ((ns.length : Int) - 0).toNat = ns.length by omega]
      refine for_rangeC (fun i σ H' => ∃ (v u : Option V) (ts : List Addr), σ = [some (.ref a), some (.ref b), some (.ref c), some (.ref p1), some (.ref p), v, u] ∧ Same H2 H' ∧ H' p = some (.lst (ts.map V.ref)) ∧ Tups H' ts (downP ns i))
        ⟨none, none, [], rfl, sp0, upd_same, trivial⟩ ?_ ?_
      · rintro i σ H' hi ⟨v, u, ts, rfl, sm, hP, ht⟩
        obtain ⟨L, hL⟩ : ∃ L, L = ns.length - 1 - i := ⟨_, rfl⟩
        have ex : (0 : Int) + (ns.length : Int) - 1 + ((i : Nat) : Int) * -1 = (L : Int) := by omega
        rw [ex]
        have hLl : L < ns.length := by omega
        have ax : atI (ns.map V.int) (L : Int) = some (.int (ns.getD L 0)) := atI_nat (map_get (getD_of hLl))
        have hx := hab _ (List.mem_of_getElem? (getD_of hLl))
        have hx2 : -2000 ≤ ns.getD L 0 ∧ ns.getD L 0 ≤ 2000 := by
          unfold abs' at hx
          split at hx <;> omega
        have hdm := downP_mono ns (i := i + 1) (j := ns.length) (by omega)
        have hde : downP ns (i + 1) = downP ns i ++ List.replicate (0 - ns.getD L 0).toNat ((L : Int), false) := by rw [hL]; rfl
        have hdl : (downP ns (i + 1)).length = (downP ns i).length + (0 - ns.getD L 0).toNat := by rw [hde, List.length_append, List.length_replicate]
        rw [hde]
        refine ⟨_, rfl, _, rfl, p1, _, _, _, rfl, rfl, SqL.of (sm _ _ f1), ax, _, _, rfl, rfl, _, _, rfl, _, rfl, by split <;> omega, by split <;> omega, ?_⟩
        rw [max0]
        refine for_range (fun j σ H' => ∃ (u : Option V) (ts : List Addr), σ = [some (.ref a), some (.ref b), some (.ref c), some (.ref p1), some (.ref p), some (.int (L : Int)), u] ∧ Same H2 H' ∧ H' p = some (.lst (ts.map V.ref)) ∧ Tups H' ts (downP ns i ++ List.replicate j ((L : Int), false)))
          ⟨_, ts, rfl, sm, hP, by rw [List.replicate_zero, List.append_nil]; exact ht⟩ ?_ ?_
        · rintro j σ H' hj ⟨u, ts, rfl, sm, hP, ht⟩
          have htl := ht.len
          rw [List.length_append, List.length_replicate] at htl
          refine ⟨_, rfl, .inl ⟨rfl, _, SqL.of hP⟩, _, rfl, by show 2 ≤ sizeLine; decide, fun t nt => ?_⟩
          obtain ⟨x1, x2, x3⟩ := tup_app ((L : Int), false) hP ht nt
          refine ⟨p, _, _, rfl, rfl, same_upd nt _ _ hP, by rw [List.length_map]; exact small64 (by omega), ?_⟩
          refine ⟨_, _, rfl, x3 _ sm hp, x2, ?_⟩
          rw [List.replicate_succ', ← List.append_assoc]
          exact x1
        · rintro σ H' ⟨u, ts, rfl, sm, hP, ht⟩
          exact ⟨_, _, _, rfl, sm, hP, ht⟩
      · rintro σ H' ⟨v, u, ts, rfl, sm, hP, ht⟩
        refine ⟨_, rfl, p1, _, rfl, .inl (SqL.of (sm _ _ f1)), _, rfl, by rw [List.length_map]; omega, by rw [List.length_map]; omega, ?_⟩
        rw [List.length_map, Int.toNat_natCast]
        refine for_range (fun i σ H' => ∃ (v u : Option V) (ts : List Addr), σ = [some (.ref a), some (.ref b), some (.ref c), some (.ref p1), some (.ref p), v, u] ∧ Same H2 H' ∧ H' p = some (.lst (ts.map V.ref)) ∧ Tups H' ts (downP ns ns.length ++ upP ns i))
          ⟨_, _, ts, rfl, sm, hP, by show Tups _ _ (_ ++ []); rw [List.append_nil]; exact ht⟩ ?_ ?_
        · rintro L σ H' hLl ⟨v, u, ts, rfl, sm, hP, ht⟩
          have ax : atI (ns.map V.int) (0 + (L : Int)) = some (.int (ns.getD L 0)) := at_of (j := L) (by omega) (map_get (getD_of hLl))
          have hx := hab _ (List.mem_of_getElem? (getD_of hLl))
          have hx2 : -2000 ≤ ns.getD L 0 ∧ ns.getD L 0 ≤ 2000 := by
            unfold abs' at hx
            split at hx <;> omega
          have hdm := upP_mono ns (i := L + 1) (j := ns.length) (by omega)
          have hde : upP ns (L + 1) = upP ns L ++ List.replicate (ns.getD L 0).toNat ((L : Int), true) := rfl
          have hdl : (upP ns (L + 1)).length = (upP ns L).length + (ns.getD L 0).toNat := by rw [hde, List.length_append, List.length_replicate]
          rw [hde, ← List.append_assoc]
          refine ⟨_, rfl, _, rfl, p1, _, _, _, rfl, rfl, SqL.of (sm _ _ f1), ax, _, _, rfl, _, rfl, by split <;> omega, by split <;> omega, ?_⟩
          rw [max0]
          refine for_range (fun j σ H' => ∃ (u : Option V) (ts : List Addr), σ = [some (.ref a), some (.ref b), some (.ref c), some (.ref p1), some (.ref p), some (.int (0 + (L : Int))), u] ∧ Same H2 H' ∧ H' p = some (.lst (ts.map V.ref)) ∧ Tups H' ts ((downP ns ns.length ++ upP ns L) ++ List.replicate j ((L : Int), true)))
            ⟨_, ts, rfl, sm, hP, by rw [List.replicate_zero, List.append_nil]; exact ht⟩ ?_ ?_
          · rintro j σ H' hj ⟨u, ts, rfl, sm, hP, ht⟩
            have htl := ht.len
            rw [List.length_append, List.length_append, List.length_replicate] at htl
            refine ⟨_, rfl, .inl ⟨rfl, _, SqL.of hP⟩, _, rfl, by show 2 ≤ sizeLine; decide, fun t nt => ?_⟩
            obtain ⟨x1, x2, x3⟩ := tup_app ((0 : Int) + (L : Int), true) hP ht nt
            refine ⟨p, _, _, rfl, rfl, same_upd nt _ _ hP, by rw [List.length_map]; exact small64 (by omega), ?_⟩
            refine ⟨_, _, rfl, x3 _ sm hp, x2, ?_⟩
            rw [List.replicate_succ', ← List.append_assoc]
            have e0 : [((0 : Int) + (L : Int), true)] = [((L : Int), true)] := by rw [Int.zero_add]
            rw [e0] at x1
            exact x1
          · rintro σ H' ⟨u, ts, rfl, sm, hP, ht⟩
            exact ⟨_, _, _, rfl, sm, hP, ht⟩
        · rintro σ H' ⟨v, u, ts, rfl, sm, hP, ht⟩
          exact ⟨_, rfl, kk H' p ts (s02.trans sm) (s02.free hp) hP ht⟩
end
end CB
namespace CB
open PySem PySem.Spec PyProof.Rows L2
abbrev s_law_word_of : Stmt := top 30
abbrev N_law_word_of : List Str := ["e", "kinds"]
theorem sc_law_word_of : FnScope N_law_word_of ["e"] (defScope s_law_word_of) := ⟨rfl, rfl, rfl, by decide +kernel, rfl, by decide +kernel, by decide +kernel⟩
end CB

namespace CB
open PySem PySem.Spec PyProof.Rows L2
/-! ### the word for the class of what was refused -/
def clsL : List Str := ["NoFrame", "NoBoard", "NoNumber", "NoStep", "NoWay", "TooLong", "NoLess", "NoNote"]
def wordL : List Str := ["frame", "board", "number", "step", "way", "long", "less", "note"]
theorem er_g {mg : Str → Option Value} {x : Str} {C : Addr} (g : mg x = some (.ref C)) : mg x = some (.ref (ErA mg x)) := by
  have e : ErA mg x = C := by unfold ErA; rw [g]
  rw [e]; exact g
/-- D is the class of the n-th refusals, and of no others -/
structure Wd (K : PySem.W.Frag) (mg : Str → Option Value) (D : Addr) (n : Nat) : Prop where
  C : ExcC K D
  lt : n < 8
  is : ∀ i x, clsL[i]? = some x → PySem.W.kitOne K (.ref D) (.ref (ErA mg x)) = some (decide (i = n))
  ve : PySem.W.kitOne K (.ref D) (.type "ValueError") = some true
  bd : PySem.W.exmOne K (.ref D) (.ref (ErA mg "BoardError")) = some true
theorem wd_mk {K : PySem.W.Frag} {mg : Str → Option Value} {x : Str} {n : Nat} {D c0 c1 c2 c3 c4 c5 c6 c7 cb : Addr} (gx : mg x = some (.ref D)) (C : ExcC K D) (g0 : mg "NoFrame" = some (.ref c0)) (g1 : mg "NoBoard" = some (.ref c1)) (g2 : mg "NoNumber" = some (.ref c2))
    (g3 : mg "NoStep" = some (.ref c3)) (g4 : mg "NoWay" = some (.ref c4)) (g5 : mg "TooLong" = some (.ref c5)) (g6 : mg "NoLess" = some (.ref c6)) (g7 : mg "NoNote" = some (.ref c7)) (gb : mg "BoardError" = some (.ref cb))
    (q0 : PySem.W.kitOne K (.ref D) (.ref c0) = some (decide (0 = n))) (q1 : PySem.W.kitOne K (.ref D) (.ref c1) = some (decide (1 = n))) (q2 : PySem.W.kitOne K (.ref D) (.ref c2) = some (decide (2 = n))) (q3 : PySem.W.kitOne K (.ref D) (.ref c3) = some (decide (3 = n)))
    (q4 : PySem.W.kitOne K (.ref D) (.ref c4) = some (decide (4 = n))) (q5 : PySem.W.kitOne K (.ref D) (.ref c5) = some (decide (5 = n))) (q6 : PySem.W.kitOne K (.ref D) (.ref c6) = some (decide (6 = n))) (q7 : PySem.W.kitOne K (.ref D) (.ref c7) = some (decide (7 = n)))
    (qv : PySem.W.kitOne K (.ref D) (.type "ValueError") = some true) (qb : PySem.W.exmOne K (.ref D) (.ref cb) = some true) (lt : n < 8 := by decide) : Wd K mg (ErA mg x) n := by
  have ea : ∀ {y : Str} {c : Addr}, mg y = some (.ref c) → ErA mg y = c := fun {y c} g => by unfold ErA; rw [g]
  rw [ea gx]
  refine ⟨C, lt, fun i y hy => ?_, qv, by rw [ea gb]; exact qb⟩
  match i, hy with
  | 0, h => cases h; rw [ea g0]; exact q0
  | 1, h => cases h; rw [ea g1]; exact q1
  | 2, h => cases h; rw [ea g2]; exact q2
  | 3, h => cases h; rw [ea g3]; exact q3
  | 4, h => cases h; rw [ea g4]; exact q4
  | 5, h => cases h; rw [ea g5]; exact q5
  | 6, h => cases h; rw [ea g6]; exact q6
  | 7, h => cases h; rw [ea g7]; exact q7
  | k + 8, h => cases h
def sp_law_word_of (K : PySem.W.Frag) (mg : Str → Option Value) : SpE := fun a D vs H Q _ => ∃ n, Wd K mg D n ∧ vs = [.ref a] ∧ TellV H Q (.str (wordL.getD n ""))
def kindL (n : Nat) : List V := [.bl (decide (0 = n)), .bl (decide (1 = n)), .bl (decide (2 = n)), .bl (decide (3 = n))] ++ [.bl (decide (4 = n)), .bl (decide (5 = n)), .bl (decide (6 = n)), .bl (decide (7 = n))]
theorem kind_flat (n : Nat) : (kindL n).all flatV = true := rfl
theorem kind_at : ∀ n, n < 8 → (kindL n)[n]? = some (.bl true) := by
  intro n h
  match n, h with
  | 0, _ => rfl
  | 1, _ => rfl
  | 2, _ => rfl
  | 3, _ => rfl
  | 4, _ => rfl
  | 5, _ => rfl
  | 6, _ => rfl
  | 7, _ => rfl
  | k + 8, h => omega
theorem kind_count : ∀ n, n < 8 → (kindL n).countP (fun z => eqV z (.bl true)) = 1 := by
  intro n h
  match n, h with
  | 0, _ => rfl
  | 1, _ => rfl
  | 2, _ => rfl
  | 3, _ => rfl
  | 4, _ => rfl
  | 5, _ => rfl
  | 6, _ => rfl
  | 7, _ => rfl
  | k + 8, h => omega
theorem kind_get (n : Nat) : ∀ m z, (kindL n)[m]? = some z → z = V.bl (decide (m = n)) := by
  intro m z h
  match m, h with
  | 0, h => cases h; rfl
  | 1, h => cases h; rfl
  | 2, h => cases h; rfl
  | 3, h => cases h; rfl
  | 4, h => cases h; rfl
  | 5, h => cases h; rfl
  | 6, h => cases h; rfl
  | 7, h => cases h; rfl
  | k + 8, h => cases h
theorem word_at : ∀ n, n < 8 → (wordL.map V.str)[n]? = some (.str (wordL.getD n "")) := by
  intro n h
  match n, h with
  | 0, _ => rfl
  | 1, _ => rfl
  | 2, _ => rfl
  | 3, _ => rfl
  | 4, _ => rfl
  | 5, _ => rfl
  | 6, _ => rfl
  | 7, _ => rfl
  | k + 8, h => omega
section
variable {P : Program} {w : World} {K : PySem.W.Frag} {mg : Str → Option Value} {base : Heap}
theorem ok_law_word_of {f : Addr} {fd : FuncData} (F : Fun K "_law_word_of" "_law_word_of" s_law_word_of f fd) (B : Bi mg) (e_NoFrame : Er K mg "NoFrame") (e_NoBoard : Er K mg "NoBoard") (e_NoNumber : Er K mg "NoNumber") (e_NoStep : Er K mg "NoStep")
    (e_NoWay : Er K mg "NoWay") (e_TooLong : Er K mg "TooLong") (e_NoLess : Er K mg "NoLess") (e_NoNote : Er K mg "NoNote") : FnE P w K mg base 1 f fd ["e"] (sp_law_word_of K mg) := by
  refine fun_okE F sc_law_word_of (fun a D vs H Q E h => ?_) (fun cdv A outer s H vs Q E p D hex hr h => ?_)
  · obtain ⟨n, _, rfl, _⟩ := h; rfl
  · obtain ⟨a, oe⟩ := p
    obtain ⟨n, hW, rfl, h⟩ := h
    obtain ⟨hz, hf⟩ := hex
    have hn := hW.lt
    refine ⟨_, (pss_cons (ps_set (i := 1) sc_law_word_of.nd rfl (Or.inl rfl) (pe_lst (pa_cons (pe_callB (call_isP List.mem_cons_self hW.C hz hf) (by rfl) B.isinstance (by decide +kernel) (pa_cons (pv 0) (pa_cons (pe_glob (v := .ref (ErA mg "NoFrame")) (by rfl) e_NoFrame.gC rfl) pa_nil))) (pa_cons (pe_callB (call_isP List.mem_cons_self hW.C hz hf) (by rfl) B.isinstance (by decide +kernel) (pa_cons (pv 0) (pa_cons (pe_glob (v := .ref (ErA mg "NoBoard")) (by rfl) e_NoBoard.gC rfl) pa_nil))) (pa_cons (pe_callB (call_isP List.mem_cons_self hW.C hz hf) (by rfl) B.isinstance (by decide +kernel) (pa_cons (pv 0) (pa_cons (pe_glob (v := .ref (ErA mg "NoNumber")) (by rfl) e_NoNumber.gC rfl) pa_nil))) (pa_cons (pe_callB (call_isP List.mem_cons_self hW.C hz hf) (by rfl) B.isinstance (by decide +kernel) (pa_cons (pv 0) (pa_cons (pe_glob (v := .ref (ErA mg "NoStep")) (by rfl) e_NoStep.gC rfl) pa_nil))) pa_nil))))))
  (pss_cons (ps_set (i := 1) sc_law_word_of.nd rfl (Or.inl rfl) (pe_op op_cat (pv 1) (pe_lst (pa_cons (pe_callB (call_isP List.mem_cons_self hW.C hz hf) (by rfl) B.isinstance (by decide +kernel) (pa_cons (pv 0) (pa_cons (pe_glob (v := .ref (ErA mg "NoWay")) (by rfl) e_NoWay.gC rfl) pa_nil))) (pa_cons (pe_callB (call_isP List.mem_cons_self hW.C hz hf) (by rfl) B.isinstance (by decide +kernel) (pa_cons (pv 0) (pa_cons (pe_glob (v := .ref (ErA mg "TooLong")) (by rfl) e_TooLong.gC rfl) pa_nil))) (pa_cons (pe_callB (call_isP List.mem_cons_self hW.C hz hf) (by rfl) B.isinstance (by decide +kernel) (pa_cons (pv 0) (pa_cons (pe_glob (v := .ref (ErA mg "NoLess")) (by rfl) e_NoLess.gC rfl) pa_nil))) (pa_cons (pe_callB (call_isP List.mem_cons_self hW.C hz hf) (by rfl) B.isinstance (by decide +kernel) (pa_cons (pv 0) (pa_cons (pe_glob (v := .ref (ErA mg "NoNote")) (by rfl) e_NoNote.gC rfl) pa_nil))) pa_nil)))))))
  (pss_cons (ps_if (pw_or (pt_cmpR op_ne (pe_bm PySem.F.plainAttrs_list PySem.F.slot_list_count PySem.F.type_list_count mt_countV (pv 1) (pa_cons pe_bl pa_nil)) pe_int (nomark _)) (pw_or1 (pt_not (pt_val (pe_callB (call_isP List.mem_cons_self hW.C hz hf) (by rfl) B.isinstance (by decide +kernel) (pa_cons (pv 0) (pa_cons (pe_bltn (v := .ty "ValueError") (by rfl) B.ValueError (by decide +kernel) rfl) pa_nil))))))).pt (pss_one (ps_ret pe_str)) pss_nil)
  (pss_one (ps_ret (pe_ix ix_list (pe_lst (pa_cons pe_str (pa_cons pe_str (pa_cons pe_str (pa_cons pe_str (pa_cons pe_str (pa_cons pe_str (pa_cons pe_str (pa_cons pe_str pa_nil))))))))) (pe_bm PySem.F.plainAttrs_list PySem.F.slot_list_index PySem.F.type_list_index mt_index (pv 1) (pa_cons pe_bl pa_nil)) (fun _ _ => rfl))))))), ?_⟩
    refine ⟨_, rfl, _, _, _, rfl, fun u r => r, hW.is 0 _ rfl, _, rfl, _, _, _, rfl, fun u r => r, hW.is 1 _ rfl, _, rfl, _, _, _, rfl, fun u r => r, hW.is 2 _ rfl, _, rfl, _, _, _, rfl, fun u r => r, hW.is 3 _ rfl, by show 4 ≤ sizeLine; decide, fun l nl => ?_⟩
    have hl : upd H l (.lst [.bl (decide (0 = n)), .bl (decide (1 = n)), .bl (decide (2 = n)), .bl (decide (3 = n))]) l = some (.lst [.bl (decide (0 = n)), .bl (decide (1 = n)), .bl (decide (2 = n)), .bl (decide (3 = n))]) := upd_same
    have s1 := same_upd (o := .lst [.bl (decide (0 = n)), .bl (decide (1 = n)), .bl (decide (2 = n)), .bl (decide (3 = n))]) nl
    generalize upd H l (.lst [.bl (decide (0 = n)), .bl (decide (1 = n)), .bl (decide (2 = n)), .bl (decide (3 = n))]) = H1 at hl s1
    refine ⟨_, rfl, _, rfl, _, _, _, rfl, fun u r => r, hW.is 4 _ rfl, _, rfl, _, _, _, rfl, fun u r => r, hW.is 5 _ rfl, _, rfl, _, _, _, rfl, fun u r => r, hW.is 6 _ rfl, _, rfl, _, _, _, rfl, fun u r => r, hW.is 7 _ rfl, by show 4 ≤ sizeLine; decide, fun m nm => ?_⟩
    have s2 := same_upd (o := .lst [.bl (decide (4 = n)), .bl (decide (5 = n)), .bl (decide (6 = n)), .bl (decide (7 = n))]) nm
    refine ⟨l, m, _, _, rfl, rfl, s2 _ _ hl, upd_same, by show 4 + 4 ≤ sizeLine; decide, fun k nk => ?_⟩
    have s3 := same_upd (o := .lst (kindL n)) nk
    have hk : upd (upd H1 m (.lst [.bl (decide (4 = n)), .bl (decide (5 = n)), .bl (decide (6 = n)), .bl (decide (7 = n))])) k (.lst (kindL n)) k = some (.lst (kindL n)) := upd_same
    have s4 := (s1.trans s2).trans s3
    show tSeq _ _ _ _ (upd (upd H1 m (.lst [.bl (decide (4 = n)), .bl (decide (5 = n)), .bl (decide (6 = n)), .bl (decide (7 = n))])) k (.lst (kindL n)))
    generalize upd (upd H1 m (.lst [.bl (decide (4 = n)), .bl (decide (5 = n)), .bl (decide (6 = n)), .bl (decide (7 = n))])) k (.lst (kindL n)) = H2 at hk s4
    refine ⟨_, rfl, .inl ⟨rfl, _, SqL.of hk⟩, _, _, .bl true, rfl, rfl, SqL.of hk, rfl, kind_flat n, ?_⟩
    rw [kind_count n hn]
    refine ⟨rfl, _, rfl, ite_f rfl ?_⟩
    refine ⟨_, rfl, _, _, _, rfl, fun u r => r, hW.ve, _, rfl, ite_f rfl ?_⟩
    refine ⟨by show 8 ≤ sizeLine; decide, fun r nr => ?_⟩
    have s5 := same_upd (o := .lst (wordL.map V.str)) nr
    refine ⟨_, rfl, .inl ⟨rfl, _, SqL.of (s5 _ _ hk)⟩, _, _, .bl true, n, _, rfl, rfl, SqL.of (s5 _ _ hk), rfl, kind_flat n, kind_at n hn, rfl, fun m z hm hz => ?_, ?_⟩
    · rw [kind_get n m z hz, decide_eq_false (by omega)]
      rfl
    · refine ⟨r, _, _, _, rfl, rfl, SqL.of (upd_same (o := .lst (wordL.map V.str))), atI_nat (word_at n hn), ?_⟩
      exact h _ (s4.trans s5)
end
end CB
namespace CB
open PySem PySem.Spec PyProof.Rows L2
abbrev s_law_cell_at : Stmt := top 24
abbrev N_law_cell_at : List Str := ["script", "k"]
theorem sc_law_cell_at : FnScope N_law_cell_at ["script", "k"] (defScope s_law_cell_at) := ⟨rfl, rfl, rfl, by decide +kernel, rfl, by decide +kernel, by decide +kernel⟩
end CB

namespace CB
open PySem PySem.Spec PyProof.Rows L2
def cell (ns : List Int) (k : Int) : Int := ns.getD k.toNat 0
def sp_law_cell_at (K : PySem.W.Frag) (_ : Str → Option Value) : Sp := fun vs H Q _ => ∃ (a : Addr) (ns : List Int) (k : Int), vs = [.ref a, .int k] ∧ SqL K H a (ns.map V.int) ∧ 0 ≤ k ∧ Q (.int (cell ns k)) H
section
variable {P : Program} {w : World} {K : PySem.W.Frag} {mg : Str → Option Value} {base : Heap}
theorem ok_law_cell_at {f : Addr} {fd : FuncData} (F : Fun K "_law_cell_at" "_law_cell_at" s_law_cell_at f fd) (B : Bi mg) : FnOk P w K mg base (L2.CX P w) 1 f fd ["script", "k"] (sp_law_cell_at K mg) := by
  refine F.okX sc_law_cell_at (fun vs H Q E h => ?_) (fun cdv A outer s H vs Q E hr h => ?_)
  · obtain ⟨a, ns, k, rfl, _⟩ := h
    rfl
  · obtain ⟨a, ns, k, rfl, hS, h0, q⟩ := h
    refine ⟨_, (pss_cons (ps_if (pt_cmpR op_lt (pv 1) (pe_callB call_len_seq (by rfl) B.len PySem.boot_len (pa_cons (pv 0) pa_nil)) (nomark _)) (pss_one (ps_ret (pe_ix ix_list (pv 0) (pv 1) (fun _ _ => rfl)))) pss_nil)
  (pss_one (ps_ret pe_int))), ?_⟩
    refine ⟨_, rfl, _, rfl, a, _, rfl, .inl hS, _, _, rfl, rfl, _, rfl, ite2 (fun e => ?_) (fun e => ?_)⟩
    · have e1 := of_decide_eq_true e
      rw [List.length_map] at e1
      have hk : k.toNat < ns.length := by omega
      refine ⟨_, rfl, _, rfl, a, _, _, .int (cell ns k), rfl, rfl, hS, ?_, q⟩
      refine at_of (j := k.toNat) (by omega) (map_get ?_)
      unfold cell
      rw [List.getElem?_eq_getElem hk, List.getD_eq_getElem?_getD, List.getElem?_eq_getElem hk]
      all_goals rfl
    · have hk : ¬ k.toNat < ns.length := fun z => e (decide_eq_true (by rw [List.length_map]; omega))
      have e0 : cell ns k = 0 := by
        unfold cell
        rw [List.getD_eq_getElem?_getD, List.getElem?_eq_none (by omega)]
        all_goals rfl
      rw [e0] at q
      exact q
end
end CB
namespace CB
open PySem PySem.Spec PyProof.Rows L2
abbrev s_law_whole : Stmt := top 25
abbrev N_law_whole : List Str := ["found"]
theorem sc_law_whole : FnScope N_law_whole ["found"] (defScope s_law_whole) := ⟨rfl, rfl, rfl, by decide +kernel, rfl, by decide +kernel, by decide +kernel⟩
end CB

namespace CB
open PySem PySem.Spec PyProof.Rows L2
def sp_law_whole (_ : PySem.W.Frag) (_ : Str → Option Value) : Sp := fun vs H Q _ => ∃ (k : Int), vs = [.int k] ∧ Q (.bl true) H
section
variable {P : Program} {w : World} {K : PySem.W.Frag} {mg : Str → Option Value} {base : Heap}
theorem ok_law_whole {f : Addr} {fd : FuncData} (F : Fun K "_law_whole" "_law_whole" s_law_whole f fd) (B : Bi mg) : FnOk P w K mg base (L2.CX P w) 1 f fd ["found"] (sp_law_whole K mg) := by
  refine F.okX sc_law_whole (fun vs H Q E h => ?_) (fun cdv A outer s H vs Q E hr h => ?_)
  · obtain ⟨k, rfl, _⟩ := h
    rfl
  · obtain ⟨k, rfl, q⟩ := h
    refine ⟨_, (pss_one (ps_ret (pe_and (pe_callB call_isi (by rfl) B.isinstance (by decide +kernel) (pa_cons (pv 0) (pa_cons (pe_bltn (v := .ty "int") (by rfl) B.int (by decide +kernel) rfl) pa_nil))) (pe_one (pe_not (pe_callB call_isi (by rfl) B.isinstance (by decide +kernel) (pa_cons (pv 0) (pa_cons (pe_bltn (v := .ty "bool") (by rfl) B.bool (by decide +kernel) rfl) pa_nil)))))))), ?_⟩
    refine ⟨_, rfl, _, _, .type "int", _, true, rfl, .ty _, .base (.int _), kit_ty (by decide +kernel), _, rfl, ite_t rfl ?_⟩
    exact ⟨_, rfl, _, _, .type "int", _, false, rfl, .ty _, .base (.int _), kit_ty (by decide +kernel), _, rfl, q⟩
end
end CB
namespace CB
open PySem PySem.Spec PyProof.Rows L2
abbrev s_law_worth : Stmt := top 26
abbrev N_law_worth : List Str := ["ratios", "board", "total", "k"]
theorem sc_law_worth : FnScope N_law_worth ["ratios", "board"] (defScope s_law_worth) := ⟨rfl, rfl, rfl, by decide +kernel, rfl, by decide +kernel, by decide +kernel⟩
end CB

namespace CB
open PySem PySem.Spec PyProof.Rows L2
def sp_law_worth (K : PySem.W.Frag) (_ : Str → Option Value) : Sp := fun vs H Q _ => ∃ (a b : Addr) (rs bs : List Int), vs = [.ref a, .ref b] ∧ SqL K H a (rs.map V.int) ∧ SqL K H b (bs.map V.int) ∧
  GF rs ∧ GB rs bs ∧ BS bs ∧ Q (.int (W rs bs)) H
section
variable {P : Program} {w : World} {K : PySem.W.Frag} {mg : Str → Option Value} {base : Heap}
theorem ok_law_worth {f : Addr} {fd : FuncData} (F : Fun K "_law_worth" "_law_worth" s_law_worth f fd) (B : Bi mg) : FnOk P w K mg base (L2.CX P w) 1 f fd ["ratios", "board"] (sp_law_worth K mg) := by
  refine F.okX sc_law_worth (fun vs H Q E h => ?_) (fun cdv A outer s H vs Q E hr h => ?_)
  · obtain ⟨a, b, rs, bs, rfl, _⟩ := h
    rfl
  · obtain ⟨a, b, rs, bs, rfl, hA, hB, g, gb, hs, q⟩ := h
    refine ⟨_, (pss_cons (ps_set (i := 2) sc_law_worth.nd rfl (Or.inl rfl) pe_int)
  (pss_cons (ps_for (passes_of rfl) rfl (pi_revR (by rfl) B.reversed (prg_1 (by rfl) B.range (pe_callB call_len_seq (by rfl) B.len PySem.boot_len (pa_cons (pv 1) pa_nil)))) (pg_name (i := 3) sc_law_worth.nd rfl (Or.inl rfl)) (pss_one (ps_set (i := 2) sc_law_worth.nd rfl (Or.inl rfl) (pe_op op_add (pe_op op_mulW (pv 2) (pe_ifExp (pt_cmpR op_lt (pv 3) (pe_callB call_len_seq (by rfl) B.len PySem.boot_len (pa_cons (pv 0) pa_nil)) (nomark _)) (pe_ix ix_list (pv 0) (pv 3) (fun _ _ => rfl)) pe_int)) (pe_ix ix_list (pv 1) (pv 3) (fun _ _ => rfl))))))
  (pss_one (ps_ret (pv 2))))), ?_⟩
    have hn := gb.1
    have g11 := g.1
    refine ⟨_, rfl, b, _, rfl, .inl hB, _, rfl, by decide, by decide, by rw [List.length_map]; omega, by rw [List.length_map]; omega, ?_⟩
    rw [List.length_map, hn]
    rw [show (((rs.length + 1 : Nat) : Int) - 0).toNat = rs.length + 1 by omega]
    refine for_rangeC (fun i σ H' => ∃ (v : Option V), σ = [some (.ref a), some (.ref b), some (.int (W (rs.drop (rs.length + 1 - i)) (bs.drop (rs.length + 1 - i)))), v] ∧ H' = H)
      ⟨none, ?_, rfl⟩ ?_ ?_
    · have e1 : rs.drop (rs.length + 1 - 0) = [] := List.drop_eq_nil_of_le (by omega)
      have e2 : bs.drop (rs.length + 1 - 0) = [] := List.drop_eq_nil_of_le (by omega)
      rw [e1, e2]
      rfl
    · rintro i σ H' hi ⟨v, rfl, rfl⟩
      obtain ⟨k, hk⟩ : ∃ k, k = rs.length - i := ⟨_, rfl⟩
      have ek : rs.length + 1 - i = k + 1 := by omega
      have ek2 : rs.length + 1 - (i + 1) = k := by omega
      rw [ek, ek2]
      have ex : (0 + (((rs.length + 1 : Nat) : Int) - 0).toNat - 1 + ((i : Nat) : Int) * -1) = (k : Int) := by omega
      have ex' : (0 : Int) + ((rs.length + 1 : Nat) : Int) - 1 + ((i : Nat) : Int) * -1 = (k : Int) := by omega
      rw [ex']
      have hkb : k < bs.length := by omega
      have eb : bs.drop k = bs[k] :: bs.drop (k + 1) := List.drop_eq_getElem_cons hkb
      have hb : atI (bs.map V.int) (k : Int) = some (.int bs[k]) := atI_nat (map_get (List.getElem?_eq_getElem hkb))
      have w0 : 0 ≤ W (rs.drop (k + 1)) (bs.drop (k + 1)) ∧ W (rs.drop (k + 1)) (bs.drop (k + 1)) < 2 ^ 250 :=
        W_small ⟨by rw [List.length_drop]; omega, fun r hr => g.2 r (List.mem_of_mem_drop hr)⟩ (fun x hx => gb.2 x (List.mem_of_mem_drop hx)) (fun x hx => hs x (List.mem_of_mem_drop hx))
      refine ⟨_, rfl, _, rfl, _, rfl, a, _, rfl, .inl hA, _, _, rfl, rfl, _, rfl, ?_⟩
      rw [List.length_map]
      by_cases c : k < rs.length
      · have er : rs.drop k = rs[k] :: rs.drop (k + 1) := List.drop_eq_getElem_cons c
        have gz := g.2 rs[k] (List.getElem_mem c)
        refine ite_t (decide_eq_true (by omega)) ⟨_, rfl, _, rfl, a, _, _, _, rfl, rfl, hA, atI_nat (map_get (List.getElem?_eq_getElem c)), _, _, rfl, rfl, ?_, ?_⟩
        · exact wide_mul (a := 250) (b := 40) (abs_lt_pow w0.1 w0.2) (abs_lt_pow (by omega) (by omega)) (by decide) (by decide) (by decide)
        · refine ⟨_, rfl, _, rfl, b, _, _, _, rfl, rfl, hB, hb, _, _, rfl, rfl, some (.int (k : Int)), ?_, rfl⟩
          rw [er, eb]
          show [some (V.ref a), some (V.ref b), some (V.int (W (rs.drop (k + 1)) (bs.drop (k + 1)) * rs[k] + bs[k])), some (V.int (k : Int))] = [some (V.ref a), some (V.ref b), some (V.int (bs[k] + rs[k] * W (rs.drop (k + 1)) (bs.drop (k + 1)))), _]
          rw [Int.mul_comm rs[k], Int.add_comm]
      · have er : rs.drop k = [] := List.drop_eq_nil_of_le (by omega)
        have er' : rs.drop (k + 1) = [] := List.drop_eq_nil_of_le (by omega)
        have eb' : bs.drop (k + 1) = [] := List.drop_eq_nil_of_le (by omega)
        refine ite_f (decide_eq_false (by omega)) ⟨_, _, rfl, rfl, ?_, ?_⟩
        · exact wide_mul (a := 250) (b := 40) (abs_lt_pow w0.1 w0.2) (by decide) (by decide) (by decide) (by decide)
        · refine ⟨_, rfl, _, rfl, b, _, _, _, rfl, rfl, hB, hb, _, _, rfl, rfl, some (.int (k : Int)), ?_, rfl⟩
          rw [er, eb, er', eb']
          show [some (V.ref a), some (V.ref b), some (V.int (0 * 1 + bs[k])), some (V.int (k : Int))] = [some (V.ref a), some (V.ref b), some (V.int bs[k]), _]
          rw [Int.zero_mul, Int.zero_add]
    · rintro σ H' ⟨v, rfl, rfl⟩
      rw [Nat.sub_self]
      exact ⟨_, rfl, q⟩
end
end CB
namespace CB
open PySem PySem.Spec PyProof.Rows L2
abbrev s_law_digits : Stmt := top 27
abbrev N_law_digits : List Str := ["ratios", "number", "found", "ratio"]
theorem sc_law_digits : FnScope N_law_digits ["ratios", "number"] (defScope s_law_digits) := ⟨rfl, rfl, rfl, by decide +kernel, rfl, by decide +kernel, by decide +kernel⟩
end CB

namespace CB
open PySem PySem.Spec PyProof.Rows L2
def sp_law_digits (K : PySem.W.Frag) (_ : Str → Option Value) : Sp := fun vs H Q _ => ∃ (a : Addr) (n : Int) (rs : List Int), vs = [.ref a, .int n] ∧ SqL K H a (rs.map V.int) ∧ GF rs ∧ TellL H Q ((D rs n).map V.int)
section
variable {P : Program} {w : World} {K : PySem.W.Frag} {mg : Str → Option Value} {base : Heap}
theorem ok_law_digits {f : Addr} {fd : FuncData} (F : Fun K "_law_digits" "_law_digits" s_law_digits f fd) (B : Bi mg) : FnOk P w K mg base (L2.CX P w) 1 f fd ["ratios", "number"] (sp_law_digits K mg) := by
  refine F.okX sc_law_digits (fun vs H Q E h => ?_) (fun cdv A outer s H vs Q E hr h => ?_)
  · obtain ⟨a, n, rs, rfl, _⟩ := h
    rfl
  · obtain ⟨a, n, rs, rfl, hA, g, k⟩ := h
    refine ⟨_, (pss_cons (ps_set (i := 2) sc_law_digits.nd rfl (Or.inl rfl) (pe_lst pa_nil))
  (pss_cons (ps_for (passes_of rfl) rfl (pi_list (pv 0)) (pg_name (i := 3) sc_law_digits.nd rfl (Or.inl rfl)) (pss_cons (ps_expr (pe_bm PySem.F.plainAttrs_list PySem.F.slot_list_append PySem.F.type_list_append mt_append (pv 2) (pa_cons (pe_op op_mod (pv 1) (pv 3)) pa_nil)))
  (pss_one (ps_set (i := 1) sc_law_digits.nd rfl (Or.inl rfl) (pe_op op_fdiv (pv 1) (pv 3))))))
  (pss_one (ps_ret (pe_op op_cat (pv 2) (pe_lst (pa_cons (pv 1) pa_nil))))))), ?_⟩
    refine ⟨by show 0 ≤ sizeLine; decide, fun p hp => ?_⟩
    have hlen : ((D rs n).map V.int).length ≤ 100000 := by rw [List.length_map, D_len]; have := g.1; omega
    refine ⟨_, rfl, a, rfl, ⟨_, (same_upd hp).seq hA⟩, for_list (K := K) (a := a) (xs := rs.map V.int) (fun i σ H' => ∃ v m, σ = [some (.ref a), some (.int m), some (.ref p), v] ∧ Gr H p ((D rs n).map V.int) i H' ∧ ∃ l, D rs n = l ++ D (rs.drop i) m ∧ l.length = i)
        ⟨none, n, rfl, Gr.zero _ hp, [], rfl, rfl⟩ (fun i σ H' _ ⟨_, _, _, gr, _⟩ => gr.1.seq hA) ?_ ?_⟩
    · rintro i y σ H' hi ⟨v, m, rfl, gr, l, e1, e2⟩
      obtain ⟨z, hz, rfl⟩ := get_map hi
      have gz := g.2 z (List.mem_of_getElem? hz)
      have e3 : rs.drop i = z :: rs.drop (i + 1) := by
        obtain ⟨hl, e⟩ := List.getElem?_eq_some_iff.mp hz
        rw [List.drop_eq_getElem_cons hl, e]
      rw [e3] at e1
      have e4 : ((D rs n).map V.int)[i]? = some (.int (m % z)) := by
        refine map_get ?_
        rw [e1, List.getElem?_append_right (by omega), e2, Nat.sub_self]
        rfl
      have st := gr.step hp hlen e4 (Same.refl H')
      refine ⟨_, rfl, .inl ⟨rfl, _, SqL.of st.1⟩, _, rfl, _, rfl, _, _, rfl, rfl, (by show 0 < z; omega), p, _, _, rfl, rfl, st.1, st.2.1, ?_⟩
      refine ⟨_, rfl, _, rfl, _, _, rfl, rfl, ⟨by omega, by omega⟩, ?_⟩
      refine ⟨some (.int z), m / z, rfl, st.2.2, l ++ [m % z], ?_, by rw [List.length_append, e2]; rfl⟩
      rw [e1, List.append_assoc]
      rfl
    · rintro σ H' ⟨v, m, rfl, gr, l, e1, e2⟩
      rw [List.length_map] at gr e1 e2
      have e3 : D (rs.drop rs.length) m = [m] := by rw [List.drop_length]; rfl
      rw [e3] at e1
      have e4 : ((D rs n).map V.int)[rs.length]? = some (.int m) := by
        refine map_get ?_
        rw [e1, List.getElem?_append_right (by omega), e2, Nat.sub_self]
        rfl
      refine ⟨_, rfl, _, rfl, by show 1 ≤ sizeLine; decide, fun p2 n2 => ?_⟩
      have d : p ≠ p2 := ne_of_none gr.2 n2
      refine ⟨p, p2, _, _, rfl, rfl, by rw [upd_ne d]; exact gr.2, upd_same, ?_, fun p3 n3 => ?_⟩
      · rw [List.length_take, List.length_map]
        have := small64 (n := (D rs n).length + 1) (by rw [D_len]; have := g.1; omega)
        show _ + 1 ≤ sizeLine
        omega
      · have e5 : ((D rs n).map V.int).take rs.length ++ [V.int m] = (D rs n).map V.int := by
          rw [← take_more e4, List.take_of_length_le (by rw [List.length_map, D_len]; exact Nat.le_refl _)]
        rw [e5]
        refine k _ p3 ?_ ?_ upd_same
        · exact gr.1.trans ((same_upd n2).trans (same_upd n3))
        · exact gr.1.free ((same_upd (o := .lst [V.int m]) n2).free n3)
end
end CB
namespace CB
open PySem PySem.Spec PyProof.Rows L2
abbrev s_law_spread : Stmt := top 28
abbrev N_law_spread : List Str := ["script", "first", "ratios", "board", "found", "line", "moves"]
theorem sc_law_spread : FnScope N_law_spread ["script", "first", "ratios", "board"] (defScope s_law_spread) := ⟨rfl, rfl, rfl, by decide +kernel, rfl, by decide +kernel, by decide +kernel⟩
end CB

namespace CB
open PySem PySem.Spec PyProof.Rows L2
def sp_law_spread (K : PySem.W.Frag) (_ : Str → Option Value) : Sp := fun vs H Q _ => ∃ (a b c : Addr) (ns rs bs : List Int) (first : Int), vs = [.ref a, .int first, .ref b, .ref c] ∧ SqL K H a (ns.map V.int) ∧ SqL K H b (rs.map V.int) ∧ SqL K H c (bs.map V.int) ∧ GF rs ∧ GB rs bs ∧ 0 ≤ first ∧
  ∀ fs : List Int, GB rs fs → W rs fs = W rs bs → (∀ (M : Int), (∀ x ∈ bs, x < M) → ∀ x ∈ fs, x < M + 361) → TellL H Q (fs.map V.int)
section
variable {P : Program} {w : World} {K : PySem.W.Frag} {mg : Str → Option Value} {base : Heap}
theorem ok_law_spread {f : Addr} {fd : FuncData} (F : Fun K "_law_spread" "_law_spread" s_law_spread f fd) (B : Bi mg) (c_law_cell_at : Callee P w K mg base 1 "_law_cell_at" ["script", "k"] (sp_law_cell_at K mg)) :
    FnOk P w K mg base (L2.CX P w) 2 f fd ["script", "first", "ratios", "board"] (sp_law_spread K mg) := by
  refine F.okX sc_law_spread (fun vs H Q E h => ?_) (fun cdv A outer s H vs Q E hr h => ?_)
  · obtain ⟨a, b, c, ns, rs, bs, first, rfl, _⟩ := h
    rfl
  · obtain ⟨a, b, c, ns, rs, bs, first, rfl, hA, hB, hC, g, gb, h0, k⟩ := h
    refine ⟨_, (pss_cons (ps_set (i := 4) sc_law_spread.nd rfl (Or.inl rfl) (pe_callTy call_list_of (by rfl) B.list (by decide +kernel) (pa_cons (pv 3) pa_nil)))
  (pss_cons (ps_for (passes_of rfl) rfl (pi_revR (by rfl) B.reversed (prg_1 (by rfl) B.range (pe_callB call_len_seq (by rfl) B.len PySem.boot_len (pa_cons (pv 2) pa_nil)))) (pg_name (i := 5) sc_law_spread.nd rfl (Or.inl rfl)) (pss_cons (ps_set (i := 6) sc_law_spread.nd rfl (Or.inl rfl) (pe_op op_mod (pe_f c_law_cell_at hr (by decide) takes0 (pa_cons (pv 0) (pa_cons (pe_op op_add (pv 1) (pv 5)) pa_nil))) (pe_op op_add (pe_callB (call_min2 rfl) (by rfl) B.min (by decide +kernel) (pa_cons (pe_ix ix_list (pv 4) (pe_op op_add (pv 5) pe_int) (fun _ _ => rfl)) (pa_cons pe_int pa_nil))) pe_int)))
  (pss_cons (ps_asg (pe_op op_sub (pe_ix ix_list (pv 4) (pe_op op_add (pv 5) pe_int) (fun _ _ => rfl)) (pv 6)) (pg_sub (pv 4) (pe_op op_add (pv 5) pe_int) set_list))
  (pss_one (ps_asg (pe_op op_add (pe_ix ix_list (pv 4) (pv 5) (fun _ _ => rfl)) (pe_op op_mulW (pv 6) (pe_ix ix_list (pv 2) (pv 5) (fun _ _ => rfl)))) (pg_sub (pv 4) (pv 5) set_list))))))
  (pss_one (ps_ret (pv 4))))), ?_⟩
    have hn := gb.1
    have g11 := g.1
    refine ⟨_, rfl, c, _, rfl, .inl hC, fun p hp => ?_⟩
    refine ⟨_, rfl, b, _, rfl, .inl ((same_upd hp).seq hB), _, rfl, by decide, by decide, by rw [List.length_map]; omega, by rw [List.length_map]; omega, ?_⟩
    rw [List.length_map, show ((rs.length : Int) - 0).toNat = rs.length by omega]
    refine for_rangeC (fun i σ H' => ∃ (v u : Option V) (fs : List Int), σ = [some (.ref a), some (.int first), some (.ref b), some (.ref c), some (.ref p), v, u] ∧ Same H H' ∧ H' p = some (.lst (fs.map V.int)) ∧ GB rs fs ∧ W rs fs = W rs bs ∧
        (∀ (j : Nat) (x : Int), fs[j]? = some x → ∃ y : Int, bs[j]? = some y ∧ x ≤ y + 360) ∧ ∀ j : Nat, j < rs.length - i → fs[j]? = bs[j]?)
      ⟨none, none, bs, rfl, same_upd hp, upd_same, gb, rfl, fun j x hx => ⟨x, hx, by omega⟩, fun _ _ => rfl⟩ ?_ ?_
    · rintro i σ H' hi ⟨v, u, fs, rfl, sm, hP, gf, hw, hle, hsame⟩
      obtain ⟨L, hL⟩ : ∃ L, L = rs.length - 1 - i := ⟨_, rfl⟩
      have hLr : L < rs.length := by omega
      have hfl := gf.1
      have hLf : L < fs.length := by omega
      have hLf1 : L + 1 < fs.length := by omega
      have ex : (0 : Int) + ((rs.length : Nat) : Int) - 1 + ((i : Nat) : Int) * -1 = (L : Int) := by omega
      rw [ex]
      have er : rs[L]? = some rs[L] := List.getElem?_eq_getElem hLr
      have ef : fs[L]? = some fs[L] := List.getElem?_eq_getElem hLf
      have ef1 : fs[L + 1]? = some fs[L + 1] := List.getElem?_eq_getElem hLf1
      have gz := g.2 rs[L] (List.getElem_mem hLr)
      have hx0 := gf.2 fs[L] (List.getElem_mem hLf)
      have hy0 := gf.2 fs[L + 1] (List.getElem_mem hLf1)
      have a1 : atI (fs.map V.int) ((L : Int) + 1) = some (.int fs[L + 1]) := at_of (j := L + 1) (by omega) (map_get ef1)
      have a0 : atI (fs.map V.int) (L : Int) = some (.int fs[L]) := at_of (j := L) rfl (map_get ef)
      have ar : atI (rs.map V.int) (L : Int) = some (.int rs[L]) := at_of (j := L) rfl (map_get er)
      -- moves
      obtain ⟨mn, hmn⟩ : ∃ mn, mn = (if (30 : Int) < fs[L + 1] then 30 else fs[L + 1]) := ⟨_, rfl⟩
      have hmn0 : 0 ≤ mn ∧ mn ≤ 30 ∧ mn ≤ fs[L + 1] := by
        rw [hmn]
        split <;> omega
      refine ⟨_, rfl, _, rfl, _, rfl, _, _, rfl, rfl, a, ns, _, rfl, sm.seq hA, by omega, ?_⟩
      refine ⟨_, rfl, _, rfl, _, _, rfl, rfl, p, _, _, _, rfl, rfl, SqL.of hP, a1, _, _, rfl, ?_⟩
      rw [← hmn]
      have hm0 : 0 ≤ cell ns (first + (L : Int)) % (mn + 1) := Int.emod_nonneg _ (by omega)
      have hm1 : cell ns (first + (L : Int)) % (mn + 1) < mn + 1 := Int.emod_lt_of_pos _ (by omega)
      refine ⟨_, _, rfl, rfl, _, _, rfl, rfl, (by show 0 < mn + 1; omega), ?_⟩
      obtain ⟨m, hm⟩ : ∃ m, m = cell ns (first + (L : Int)) % (mn + 1) := ⟨_, rfl⟩
      rw [← hm] at hm0 hm1
      show tSeq _ _ _ [some (V.ref a), some (V.int first), some (V.ref b), some (V.ref c), some (V.ref p), some (V.int (L : Int)), some (V.int (cell ns (first + (L : Int)) % (mn + 1)))] _
      rw [← hm]
      refine ⟨_, rfl, _, rfl, _, _, rfl, rfl, p, _, _, _, rfl, rfl, SqL.of hP, a1, _, rfl, _, _, rfl, rfl, ?_⟩
      refine ⟨_, rfl, _, rfl, _, _, rfl, rfl, p, _, _, L + 1, rfl, rfl, hP, ix_of (by omega) (by rw [List.length_map]; omega), ?_⟩
      have a0' : atI ((fs.map V.int).set (L + 1) (V.int (fs[L + 1] - m))) (L : Int) = some (.int fs[L]) := at_of (j := L) rfl (by rw [List.getElem?_set_ne (by omega)]; exact map_get ef)
      have sB : SqL K (upd H' p (.lst ((fs.map V.int).set (L + 1) (V.int (fs[L + 1] - m))))) b (rs.map V.int) := by
        rcases hB with (h | ⟨o, h⟩) | h
        · exact .inl (.inl (by rw [upd_ne (ne_of_none h hp)]; exact sm _ _ h))
        · exact .inl (.inr ⟨o, by rw [upd_ne (ne_of_none h hp)]; exact sm _ _ h⟩)
        · exact .inr h
      refine ⟨_, rfl, _, rfl, p, _, _, _, rfl, rfl, SqL.of upd_same, a0', _, rfl, _, rfl, _, rfl, b, _, _, _, rfl, rfl, sB, ar, _, _, rfl, rfl,
        wide_mul (a := 40) (b := 40) (abs_lt_pow (by omega) (by omega)) (abs_lt_pow (by omega) (by omega)) (by decide) (by decide) (by decide), _, _, rfl, rfl, ?_⟩
      refine ⟨_, rfl, _, rfl, p, _, _, L, rfl, rfl, upd_same, ix_of rfl (by rw [List.length_set, List.length_map]; omega), ?_⟩
      have hmr : m * rs[L] ≤ 30 * 12 := Int.mul_le_mul (by omega) gz.2 (by omega) (by omega)
      have hmr0 : 0 ≤ m * rs[L] := Int.mul_nonneg hm0 (by omega)
      have eset : ((fs.map V.int).set (L + 1) (V.int (fs[L + 1] - m))).set L (V.int (fs[L] + m * rs[L])) = ((fs.set (L + 1) (fs[L + 1] - m)).set L (fs[L] + m * rs[L])).map V.int := by rw [List.map_set, List.map_set]
      have key : ∀ (j : Nat) (x : Int), ((fs.set (L + 1) (fs[L + 1] - m)).set L (fs[L] + m * rs[L]))[j]? = some x → (j = L ∧ x = fs[L] + m * rs[L]) ∨ (j = L + 1 ∧ x = fs[L + 1] - m) ∨ fs[j]? = some x := by
        intro j x hx
        rw [List.getElem?_set] at hx
        by_cases h1 : L = j
        · rw [if_pos h1, List.length_set, if_pos hLf] at hx
          exact .inl ⟨h1.symm, (Option.some.inj hx).symm⟩
        · rw [if_neg h1, List.getElem?_set] at hx
          by_cases h2 : L + 1 = j
          · rw [if_pos h2, if_pos hLf1] at hx
            exact .inr (.inl ⟨h2.symm, (Option.some.inj hx).symm⟩)
          · rw [if_neg h2] at hx
            exact .inr (.inr hx)
      refine ⟨_, _, (fs.set (L + 1) (fs[L + 1] - m)).set L (fs[L] + m * rs[L]), rfl, fun b' o' e' => ?_, ?_, ⟨by rw [List.length_set, List.length_set]; exact hfl, fun x hx => ?_⟩, ?_, fun j x hx => ?_, fun j hj => ?_⟩
      · rw [upd_ne (ne_of_none e' hp), upd_ne (ne_of_none e' hp)]
        exact sm _ _ e'
      · rw [upd_same]
        exact congrArg (fun l => some (HO.lst l)) eset
      · obtain ⟨j, hj⟩ := List.getElem?_of_mem hx
        rcases key j x hj with ⟨_, e⟩ | ⟨_, e⟩ | e
        · omega
        · omega
        · exact gf.2 x (List.mem_of_getElem? e)
      · rw [W_step rs fs L rs[L] fs[L] fs[L + 1] m hfl er ef ef1, hw]
      · rcases key j x hx with ⟨rfl, e⟩ | ⟨rfl, e⟩ | e
        · refine ⟨fs[j], ?_, by omega⟩
          rw [← hsame j (by omega)]
          exact ef
        · obtain ⟨y, h1, h2⟩ := hle _ _ ef1
          exact ⟨y, h1, by omega⟩
        · exact hle j x e
      · rw [List.getElem?_set_ne (by omega), List.getElem?_set_ne (by omega)]
        exact hsame j (by omega)
    · rintro σ H' ⟨v, u, fs, rfl, sm, hP, gf, hw, hle, _⟩
      refine ⟨_, rfl, k fs gf hw (fun M hM x hx => ?_) H' p sm hp hP⟩
      obtain ⟨j, hj⟩ := List.getElem?_of_mem hx
      obtain ⟨y, h1, h2⟩ := hle j x hj
      have := hM y (List.mem_of_getElem? h1)
      omega
end
end CB
namespace CB
open PySem PySem.Spec PyProof.Rows L2
abbrev s_law_is_list : Stmt := top 29
abbrev N_law_is_list : List Str := ["found", "due", "k"]
theorem sc_law_is_list : FnScope N_law_is_list ["found", "due"] (defScope s_law_is_list) := ⟨rfl, rfl, rfl, by decide +kernel, rfl, by decide +kernel, by decide +kernel⟩
end CB

namespace CB
open PySem PySem.Spec PyProof.Rows L2
def sp_law_is_list (K : PySem.W.Frag) (_ : Str → Option Value) : Sp := fun vs H Q _ => ∃ (a b : Addr) (xs : List Int), vs = [.ref a, .ref b] ∧ H a = some (.lst (xs.map V.int)) ∧ SqL K H b (xs.map V.int) ∧ xs.length ≤ 100000 ∧ Q (.bl true) H
section
variable {P : Program} {w : World} {K : PySem.W.Frag} {mg : Str → Option Value} {base : Heap}
theorem ok_law_is_list {f : Addr} {fd : FuncData} (F : Fun K "_law_is_list" "_law_is_list" s_law_is_list f fd) (B : Bi mg) (c_law_whole : Callee P w K mg base 1 "_law_whole" ["found"] (sp_law_whole K mg)) :
    FnOk P w K mg base (L2.CX P w) 2 f fd ["found", "due"] (sp_law_is_list K mg) := by
  refine F.okX sc_law_is_list (fun vs H Q E h => ?_) (fun cdv A outer s H vs Q E hr h => ?_)
  · obtain ⟨a, b, xs, rfl, _⟩ := h
    rfl
  · obtain ⟨a, b, xs, rfl, hA, hB, hl, q⟩ := h
    refine ⟨_, (pss_cons (ps_if (pw_or (pt_not (pt_val (pe_callB call_isi (by rfl) B.isinstance (by decide +kernel) (pa_cons (pv 0) (pa_cons (pe_bltn (v := .ty "list") (by rfl) B.list (by decide +kernel) rfl) pa_nil))))) (pw_or1 (pt_cmpR op_ne (pe_callB call_len_seq (by rfl) B.len PySem.boot_len (pa_cons (pv 0) pa_nil)) (pe_callB call_len_seq (by rfl) B.len PySem.boot_len (pa_cons (pv 1) pa_nil)) (nomark _)))).pt (pss_one (ps_ret pe_bl)) pss_nil)
  (pss_cons (ps_for (passes_of rfl) rfl (pi_range1 (by rfl) B.range (pa_cons (pe_callB call_len_seq (by rfl) B.len PySem.boot_len (pa_cons (pv 1) pa_nil)) pa_nil)) (pg_name (i := 2) sc_law_is_list.nd rfl (Or.inl rfl)) (pss_one (ps_if (pw_or (pt_not (pt_val (pe_f c_law_whole hr (by decide) takes0 (pa_cons (pe_ix ix_list (pv 0) (pv 2) (fun _ _ => rfl)) pa_nil)))) (pw_or1 (pt_cmpR op_ne (pe_ix ix_list (pv 0) (pv 2) (fun _ _ => rfl)) (pe_ix ix_list (pv 1) (pv 2) (fun _ _ => rfl)) (nomark _)))).pt (pss_one (ps_ret pe_bl)) pss_nil)))
  (pss_one (ps_ret pe_bl)))), ?_⟩
    refine ⟨_, rfl, _, _, .type "list", _, true, rfl, .ty _, .base (.lst hA), kit_ty (by decide +kernel), _, rfl, ite_f rfl ?_⟩
    refine ⟨_, rfl, a, _, rfl, .inl (SqL.of hA), _, rfl, b, _, rfl, .inl hB, rfl, _, rfl, ite_f (by simp) ?_⟩
    refine ⟨_, rfl, b, _, rfl, .inl hB, _, rfl, by rw [List.length_map]; omega, by rw [List.length_map]; omega, ?_⟩
    rw [List.length_map, Int.toNat_natCast]
    refine for_range (fun i σ H' => H' = H ∧ ∃ v, σ = [some (.ref a), some (.ref b), v]) ⟨rfl, none, rfl⟩ ?_ ?_
    · rintro i σ H' hi ⟨rfl, v, rfl⟩
      have h0 : xs[i]? = some xs[i] := List.getElem?_eq_getElem hi
      have h1 : atI (xs.map V.int) (0 + (i : Int)) = some (.int xs[i]) := at_of (j := i) (by omega) (map_get h0)
      refine ⟨_, rfl, _, rfl, a, _, _, _, rfl, rfl, SqL.of hA, h1, _, rfl, _, rfl, ite_f rfl ?_⟩
      refine ⟨_, rfl, _, rfl, a, _, _, _, rfl, rfl, SqL.of hA, h1, _, rfl, _, rfl, b, _, _, _, rfl, rfl, hB, h1, rfl, _, rfl, ite_f (by simp) ?_⟩
      exact ⟨rfl, _, rfl⟩
    · rintro σ H' ⟨rfl, v, rfl⟩
      exact q
end
end CB
namespace CB
open PySem PySem.Spec PyProof.Rows L2
abbrev s_law_pair_by : Stmt := top 31
abbrev N_law_pair_by : List Str := ["script", "lines", "ratios", "one", "other", "k"]
theorem sc_law_pair_by : FnScope N_law_pair_by ["script"] (defScope s_law_pair_by) := ⟨rfl, rfl, rfl, by decide +kernel, rfl, by decide +kernel, by decide +kernel⟩
end CB

namespace CB
open PySem PySem.Spec PyProof.Rows L2
def sp_law_pair_by (K : PySem.W.Frag) (_ : Str → Option Value) : Sp := fun vs H Q _ => ∃ (a : Addr) (ns : List Int), vs = [.ref a] ∧ SqL K H a (ns.map V.int) ∧
  ∀ (rs bs os : List Int), GF rs → GB rs bs → GB rs os → BS bs → BS os → W rs bs = W rs os → ∀ (H' : Hp) (p p1 p2 p3 : Addr), Same H H' → H' p1 = some (.lst (rs.map V.int)) → H' p2 = some (.lst (bs.map V.int)) → H' p3 = some (.lst (os.map V.int)) → H' p = some (.tup [.ref p1, .ref p2, .ref p3]) → Q (.ref p) H'
section
variable {P : Program} {w : World} {K : PySem.W.Frag} {mg : Str → Option Value} {base : Heap}
theorem ok_law_pair_by {f : Addr} {fd : FuncData} (F : Fun K "_law_pair_by" "_law_pair_by" s_law_pair_by f fd) (B : Bi mg) (c_law_cell_at : Callee P w K mg base 1 "_law_cell_at" ["script", "k"] (sp_law_cell_at K mg))
    (c_law_spread : Callee P w K mg base 2 "_law_spread" ["script", "first", "ratios", "board"] (sp_law_spread K mg)) (c_law_digits : Callee P w K mg base 1 "_law_digits" ["ratios", "number"] (sp_law_digits K mg))
    (c_law_worth : Callee P w K mg base 1 "_law_worth" ["ratios", "board"] (sp_law_worth K mg)) :
    FnOk P w K mg base (L2.CX P w) 3 f fd ["script"] (sp_law_pair_by K mg) := by
  refine F.okX sc_law_pair_by (fun vs H Q E h => ?_) (fun cdv A outer s H vs Q E hr h => ?_)
  · obtain ⟨a, ns, rfl, _⟩ := h
    rfl
  · obtain ⟨a, ns, rfl, hS, k⟩ := h
    refine ⟨_, (pss_cons (ps_set (i := 1) sc_law_pair_by.nd rfl (Or.inl rfl) (pe_op op_mod (pe_f c_law_cell_at hr (by decide) takes0 (pa_cons (pv 0) (pa_cons pe_int pa_nil))) pe_int))
  (pss_cons (ps_setLc (i := 2) (own := [("k", 5)]) (g := gName 5) (tt := tYes) rfl sc_law_pair_by.nd rfl rfl (sw_true rfl rfl rfl (by decide +kernel)) (pi_range1 (by rfl) B.range (pa_cons (pv 1) pa_nil)) (blkOk_by (own := [("k", 5)]) (N := N_law_pair_by) (sc := defScope s_law_pair_by) (by decide +kernel)) (fun _ _ _ _ _ => pg_name (i := 5) sc_law_pair_by.nd rfl (Or.inl rfl)) (fun _ _ _ _ _ => pts_nil) (fun _ _ _ _ _ => (pe_op op_add pe_int (pe_op op_mod (pe_f c_law_cell_at hr (by decide) takes0 (pa_cons (pv 0) (pa_cons (pe_op op_add pe_int (pv 5)) pa_nil))) pe_int))))
  (pss_cons (ps_setLc (i := 3) (own := [("k", 5)]) (g := gName 5) (tt := tYes) rfl sc_law_pair_by.nd rfl rfl (sw_true rfl rfl rfl (by decide +kernel)) (pi_range1 (by rfl) B.range (pa_cons (pe_op op_add (pv 1) pe_int) pa_nil)) (blkOk_by (own := [("k", 5)]) (N := N_law_pair_by) (sc := defScope s_law_pair_by) (by decide +kernel)) (fun _ _ _ _ _ => pg_name (i := 5) sc_law_pair_by.nd rfl (Or.inl rfl)) (fun _ _ _ _ _ => pts_nil) (fun _ _ _ _ _ => (pe_op op_mod (pe_f c_law_cell_at hr (by decide) takes0 (pa_cons (pv 0) (pa_cons (pe_op op_add pe_int (pv 5)) pa_nil))) pe_int)))
  (pss_cons (ps_set (i := 4) sc_law_pair_by.nd rfl (Or.inl rfl) (pe_f c_law_spread hr (by decide) takes0 (pa_cons (pv 0) (pa_cons pe_int (pa_cons (pv 2) (pa_cons (pe_f c_law_digits hr (by decide) takes0 (pa_cons (pv 2) (pa_cons (pe_f c_law_worth hr (by decide) takes0 (pa_cons (pv 2) (pa_cons (pv 3) pa_nil))) pa_nil))) pa_nil))))))
  (pss_one (ps_ret (pe_tup (pa_cons (pv 2) (pa_cons (pv 3) (pa_cons (pv 4) pa_nil)))))))))), ?_⟩
    obtain ⟨n, hn⟩ : ∃ n : Nat, (n : Int) = cell ns 0 % 6 := ⟨(cell ns 0 % 6).toNat, by omega⟩
    have hn5 : n ≤ 5 := by omega
    refine ⟨.ref a, rfl, a, ns, 0, rfl, hS, by decide, _, _, rfl, rfl, (show (0 : Int) < 6 by decide), ?_⟩
    show tSeq _ _ _ [some (V.ref a), some (V.int (cell ns 0 % 6)), none, none, none, none] H
    rw [← hn]
    -- ratios
    refine ⟨_, rfl, _, rfl, by omega, by omega, fun p1 n1 => ?_⟩
    rw [Int.toNat_natCast]
    refine lc_range (lo := 0) (n := n) (Gr H p1 (((List.range n).map fun j : Nat => 2 + cell ns (2 + (0 + (j : Int))) % 11).map V.int)) (Gr.zero _ n1) ?_ ?_
    · rintro i H' hi gr
      refine ⟨rfl, .ref a, rfl, _, rfl, _, _, rfl, rfl, a, ns, _, rfl, gr.1.seq hS, by omega, _, _, rfl, rfl, (show (0 : Int) < 11 by decide), _, _, rfl, rfl, _, gr.step n1 (by simp; omega) (map_get ?_) (Same.refl _)⟩
      rw [List.getElem?_map, List.getElem?_range hi]
      rfl
    intro H1 gr1
    have e1 := gr1.done (by simp)
    have g := frame_gf (fun j => cell ns (2 + (0 + (j : Int)))) n (by omega)
    have hrl : ((List.range n).map fun j : Nat => 2 + cell ns (2 + (0 + (j : Int))) % 11).length = n := by simp
    generalize (List.range n).map (fun j : Nat => 2 + cell ns (2 + (0 + (j : Int))) % 11) = rs at e1 g hrl
    have s1 := gr1.1
    subst hrl
    -- one
    refine ⟨_, rfl, _, _, rfl, rfl, _, rfl, by omega, by omega, fun p2 n2 => ?_⟩
    rw [show ((rs.length : Int) + 1).toNat = rs.length + 1 by omega]
    refine lc_range (lo := 0) (n := rs.length + 1) (Gr H1 p2 (((List.range (rs.length + 1)).map fun j : Nat => cell ns (13 + (0 + (j : Int))) % 25).map V.int)) (Gr.zero _ n2) ?_ ?_
    · rintro i H' hi gr
      refine ⟨rfl, .ref a, rfl, _, rfl, _, _, rfl, rfl, a, ns, _, rfl, gr.1.seq (s1.seq hS), by omega, _, _, rfl, rfl, (show (0 : Int) < 25 by decide), _, gr.step n2 (by simp; omega) (map_get ?_) (Same.refl _)⟩
      rw [List.getElem?_map, List.getElem?_range hi]
      rfl
    intro H2 gr2
    have e2 := gr2.done (by simp)
    have gb : GB rs ((List.range (rs.length + 1)).map fun j : Nat => cell ns (13 + (0 + (j : Int))) % 25) := ⟨by simp, fun x hx => by
      obtain ⟨j, _, rfl⟩ := List.mem_map.mp hx
      omega⟩
    have hb : ∀ x ∈ ((List.range (rs.length + 1)).map fun j : Nat => cell ns (13 + (0 + (j : Int))) % 25), x < 10 ^ 20 := fun x hx => by
      obtain ⟨j, _, rfl⟩ := List.mem_map.mp hx
      have : (25 : Int) < 10 ^ 20 := by decide
      omega
    generalize (List.range (rs.length + 1)).map (fun j : Nat => cell ns (13 + (0 + (j : Int))) % 25) = bs at e2 gb hb
    have s2 := s1.trans gr2.1
    have f1 := gr2.1 _ _ e1
    clear gr1 gr2
    have hbs := bs_of20 hb
    obtain ⟨hw0, hw1⟩ := small20 g gb hb
    refine ⟨_, rfl, _, rfl, _, rfl, _, rfl, _, rfl, p1, p2, rs, bs, rfl, SqL.of f1, SqL.of e2, g, gb, hbs, p1, W rs bs, rs, rfl, SqL.of f1, g, fun H3 p3 s3 n3 e3 => ?_⟩
    have gd := D_GB rs (W rs bs) g.2 hw0
    refine ⟨a, p1, p3, ns, rs, _, 26, rfl, (s2.trans s3).seq hS, SqL.of (s3 _ _ f1), SqL.of e3, g, gd, by decide, fun os go hwo hob H4 p4 s4 n4 e4 => ?_⟩
    rw [D_W rs _ g.2] at hwo
    have hos : BS os := fun x hx => by
      have h1 := hob (2 ^ 150) (D_150 g hw0 hw1) x hx
      have := two151
      omega
    have s34 := s3.trans s4
    refine ⟨_, rfl, _, rfl, _, rfl, by show 3 ≤ sizeLine; decide, fun t nt => ?_⟩
    have t5 := same_upd (o := .tup [V.ref p1, V.ref p2, V.ref p4]) nt
    exact k rs bs os g gb go hbs hos hwo.symm _ t p1 p2 p4 ((s2.trans s34).trans t5) (t5 _ _ (s34 _ _ f1)) (t5 _ _ (s34 _ _ e2)) (t5 _ _ e4) upd_same
end
end CB
namespace CB
open PySem PySem.Spec PyProof.Rows L2
abbrev s_law_walked : Stmt := top 32
abbrev N_law_walked : List Str := ["ratios", "board", "steps", "left", "found", "step", "line", "sign"]
theorem sc_law_walked : FnScope N_law_walked ["ratios", "board", "steps", "left"] (defScope s_law_walked) := ⟨rfl, rfl, rfl, by decide +kernel, rfl, by decide +kernel, by decide +kernel⟩
end CB

namespace CB
open PySem PySem.Spec PyProof.Rows L2
def sp_law_walked (K : PySem.W.Frag) (_ : Str → Option Value) : Sp := fun vs H Q _ => ∃ (a b c d : Addr) (rs bs lf ls' lf' : List Int) (ts : List Addr) (ss : List (Int × Bool)), vs = [.ref a, .ref b, .ref c, .ref d] ∧ H a = some (.lst (rs.map V.int)) ∧ H b = some (.lst (bs.map V.int)) ∧ H c = some (.lst (ts.map V.ref)) ∧ Tups H ts ss ∧
  H d = some (.lst (lf.map V.int)) ∧ a ≠ d ∧ b ≠ d ∧ c ≠ d ∧ GF rs ∧ GB rs bs ∧ lf.length = rs.length ∧ Walk rs bs lf ss ls' lf' ∧
  ∀ (H' : Hp) (p : Addr), (∀ x o, x ≠ d → H x = some o → H' x = some o) → H p = none → H' p = some (.lst (ls'.map V.int)) → H' d = some (.lst (lf'.map V.int)) → Q (.ref p) H'
section
variable {P : Program} {w : World} {K : PySem.W.Frag} {mg : Str → Option Value} {base : Heap}
theorem ok_law_walked {f : Addr} {fd : FuncData} (F : Fun K "_law_walked" "_law_walked" s_law_walked f fd) (B : Bi mg) (c_law_whole : Callee P w K mg base 1 "_law_whole" ["found"] (sp_law_whole K mg)) :
    FnOk P w K mg base (L2.CX P w) 2 f fd ["ratios", "board", "steps", "left"] (sp_law_walked K mg) := by
  refine F.okX sc_law_walked (fun vs H Q E h => ?_) (fun cdv A outer s H vs Q E hr h => ?_)
  · obtain ⟨a, b, c, d, rs, bs, lf, ls', lf', ts, ss, rfl, _⟩ := h
    rfl
  · obtain ⟨a, b, c, d, rs, bs, lf, ls', lf', ts, ss, rfl, hA, hB, hC, hT, hD, dA, dB, dC, g, gb, hlf, hwk, k⟩ := h
    have g11 := g.1
    refine ⟨_, (pss_cons (ps_if (pt_not (pt_val (pe_callB call_isi (by rfl) B.isinstance (by decide +kernel) (pa_cons (pv 2) (pa_cons (pe_bltn (v := .ty "list") (by rfl) B.list (by decide +kernel) rfl) pa_nil))))) (pss_one (ps_ret pe_non)) pss_nil)
  (pss_cons (ps_set (i := 4) sc_law_walked.nd rfl (Or.inl rfl) (pe_callTy call_list_of (by rfl) B.list (by decide +kernel) (pa_cons (pv 1) pa_nil)))
  (pss_cons (ps_for (passes_of rfl) rfl (pi_list (pv 2)) (pg_name (i := 5) sc_law_walked.nd rfl (Or.inl rfl)) (pss_cons (ps_if (pw_or (pt_not (pt_val (pe_callB call_isi (by rfl) B.isinstance (by decide +kernel) (pa_cons (pv 5) (pa_cons (pe_bltn (v := .ty "tuple") (by rfl) B.tuple (by decide +kernel) rfl) pa_nil))))) (pw_or (pt_cmpR op_ne (pe_callB call_len_seq (by rfl) B.len PySem.boot_len (pa_cons (pv 5) pa_nil)) pe_int (nomark _)) (pw_or (pt_not (pt_val (pe_f c_law_whole hr (by decide) takes0 (pa_cons (pe_ix ix_tup (pv 5) pe_int (fun _ _ => rfl)) pa_nil)))) (pw_or1 (pt_not (pt_val (pe_callB call_isi (by rfl) B.isinstance (by decide +kernel) (pa_cons (pe_ix ix_tup (pv 5) pe_int (fun _ _ => rfl)) (pa_cons (pe_bltn (v := .ty "bool") (by rfl) B.bool (by decide +kernel) rfl) pa_nil))))))))).pt (pss_one (ps_ret pe_non)) pss_nil)
  (pss_cons (ps_set (i := 6) sc_law_walked.nd rfl (Or.inl rfl) (pe_ix ix_tup (pv 5) pe_int (fun _ _ => rfl)))
  (pss_cons (ps_if (pw_or (pt_cmpR op_lt (pv 6) pe_int (nomark _)) (pw_or1 (pt_cmpR op_ge (pv 6) (pe_callB call_len_seq (by rfl) B.len PySem.boot_len (pa_cons (pv 0) pa_nil)) (nomark _)))).pt (pss_one (ps_ret pe_non)) pss_nil)
  (pss_cons (ps_set (i := 7) sc_law_walked.nd rfl (Or.inl rfl) (pe_ifExp (pt_val (pe_ix ix_tup (pv 5) pe_int (fun _ _ => rfl))) pe_int (pe_un un_neg pe_int)))
  (pss_cons (ps_asg (pe_op op_sub (pe_ix ix_list (pv 4) (pv 6) (fun _ _ => rfl)) (pe_op op_mulW (pv 7) (pe_ix ix_list (pv 0) (pv 6) (fun _ _ => rfl)))) (pg_sub (pv 4) (pv 6) set_list))
  (pss_cons (ps_asg (pe_op op_add (pe_ix ix_list (pv 4) (pe_op op_add (pv 6) pe_int) (fun _ _ => rfl)) (pv 7)) (pg_sub (pv 4) (pe_op op_add (pv 6) pe_int) set_list))
  (pss_cons (ps_asg (pe_op op_sub (pe_ix ix_list (pv 3) (pv 6) (fun _ _ => rfl)) (pv 7)) (pg_sub (pv 3) (pv 6) set_list))
  (pss_one (ps_if (pw_or (pt_cmpR op_lt (pe_ix ix_list (pv 4) (pv 6) (fun _ _ => rfl)) pe_int (nomark _)) (pw_or1 (pt_cmpR op_lt (pe_ix ix_list (pv 4) (pe_op op_add (pv 6) pe_int) (fun _ _ => rfl)) pe_int (nomark _)))).pt (pss_one (ps_ret pe_non)) pss_nil))))))))))
  (pss_one (ps_ret (pv 4)))))), ?_⟩
    refine ⟨_, rfl, _, _, .type "list", _, true, rfl, .ty _, .base (.lst hC), kit_ty (by decide +kernel), _, rfl, ite_f rfl ?_⟩
    refine ⟨_, rfl, b, _, rfl, .inl (SqL.of hB), fun p hp => ?_⟩
    have sp := same_upd (o := .lst (bs.map V.int)) hp
    have dp : p ≠ d := fun z => by rw [z, hD] at hp; cases hp
    refine ⟨_, rfl, c, rfl, ⟨_, SqL.of (sp _ _ hC)⟩, for_list (K := K) (a := c) (xs := ts.map V.ref) (fun i σ H' => ∃ (ls lf2 : List Int) (v5 v6 v7 : Option V), σ = [some (.ref a), some (.ref b), some (.ref c), some (.ref d), some (.ref p), v5, v6, v7] ∧ (∀ x o, x ≠ d → H x = some o → H' x = some o) ∧
        H' p = some (.lst (ls.map V.int)) ∧ H' d = some (.lst (lf2.map V.int)) ∧ GB rs ls ∧ lf2.length = rs.length ∧ Walk rs ls lf2 (ss.drop i) ls' lf')
      ⟨bs, lf, none, none, none, rfl, fun x o _ z => sp _ _ z, upd_same, sp _ _ hD, gb, hlf, hwk⟩ (fun i σ H' _ ⟨_, _, _, _, _, _, fr, _⟩ => SqL.of (fr _ _ dC hC)) ?_ ?_⟩
    · rintro i x σ H' hx ⟨ls, lf2, v5, v6, v7, rfl, fr, hp', hd', gl, hlf2, hwk⟩
      have hl := hT.len
      rw [List.getElem?_map] at hx
      obtain ⟨t, ht, rfl⟩ : ∃ t, ts[i]? = some t ∧ x = .ref t := by
        cases e : ts[i]? with
        | none => rw [e] at hx; cases hx
        | some t => rw [e] at hx; exact ⟨t, rfl, (Option.some.inj hx).symm⟩
      have hti := (List.getElem?_eq_some_iff.mp ht).1
      obtain ⟨⟨l, up⟩, hs⟩ : ∃ s, ss[i]? = some s := ⟨_, List.getElem?_eq_getElem (by omega)⟩
      obtain ⟨t', ht', et⟩ := hT.get hs
      have : t' = t := Option.some.inj (ht'.symm.trans ht)
      subst this
      rw [drop_more hs] at hwk
      obtain ⟨L, hl', hL, gs, hwk⟩ := hwk
      simp only at hl' gs hwk et
      subst hl'
      have et := fr _ _ (ne_of et hD (fun z => by cases z)) et
      have hA' := fr _ _ dA hA
      refine ⟨_, rfl, _, _, .type "tuple", _, true, rfl, .ty _, .base (.tup et), kit_ty (by decide +kernel), _, rfl, ite_f rfl ?_⟩
      refine ⟨_, rfl, t', _, rfl, .inr (SqT.of et), rfl, _, rfl, ite_f rfl ?_⟩
      refine ⟨_, rfl, t', _, 0, _, rfl, rfl, SqT.of et, rfl, _, rfl, _, rfl, ite_f rfl ?_⟩
      refine ⟨_, rfl, t', _, 1, _, rfl, rfl, SqT.of et, rfl, _, _, .type "bool", _, true, rfl, .ty _, .base (.bl _), kit_ty (by decide +kernel), _, rfl, ite_f rfl ?_⟩
      refine ⟨_, rfl, t', _, 0, _, rfl, rfl, SqT.of et, rfl, ?_⟩
      refine ⟨_, rfl, _, _, rfl, rfl, _, rfl, ite_f (decide_eq_false (by omega)) ?_⟩
      refine ⟨_, rfl, _, rfl, a, _, rfl, .inl (SqL.of hA'), _, _, rfl, rfl, _, rfl, ite_f (decide_eq_false (by rw [List.length_map]; omega)) ?_⟩
      have hll := gl.1
      have hLl : L + 1 < ls.length := by omega
      have ar : atI (rs.map V.int) (L : Int) = some (.int (rs.getD L 0)) := atI_nat (map_get (getD_of hL))
      have al : atI (ls.map V.int) (L : Int) = some (.int (ls.getD L 0)) := atI_nat (map_get (getD_of (by omega)))
      have al1 : ∀ v : V, atI ((ls.map V.int).set L v) ((L : Int) + 1) = some (.int (ls.getD (L + 1) 0)) := fun v => at_of (j := L + 1) (by omega) (by rw [List.getElem?_set_ne (by omega)]; exact map_get (getD_of hLl))
      have aq : atI (lf2.map V.int) (L : Int) = some (.int (lf2.getD L 0)) := atI_nat (map_get (getD_of (by omega)))
      have hrb := g.2 (rs.getD L 0) (List.mem_of_getElem? (getD_of hL))
      have hab : (rs.getD L 0).natAbs < 2 ^ 10 := by omega
      have sl := stepL_len rs ls L up
      have sg0 := gs.2 ((stepL rs ls L up).getD L 0) (List.mem_of_getElem? (getD_of (by omega)))
      have sg1 := gs.2 ((stepL rs ls L up).getD (L + 1) 0) (List.mem_of_getElem? (getD_of (by omega)))
      have a0 : atI ((stepL rs ls L up).map V.int) (L : Int) = some (.int ((stepL rs ls L up).getD L 0)) := atI_nat (map_get (getD_of (by omega)))
      have a1 : atI ((stepL rs ls L up).map V.int) ((L : Int) + 1) = some (.int ((stepL rs ls L up).getD (L + 1) 0)) := at_of (j := L + 1) (by omega) (map_get (getD_of (by omega)))
      refine ⟨_, rfl, t', _, 1, _, rfl, rfl, SqT.of et, rfl, _, rfl, ?_⟩
      cases up with
      | true =>
        refine ite_t rfl ?_
        refine ⟨_, rfl, _, rfl, p, _, _, _, rfl, rfl, SqL.of hp', al, _, rfl, _, rfl, _, rfl, a, _, _, _, rfl, rfl, SqL.of hA', ar, _, _, rfl, rfl, wide_mul (a := 2) (b := 10) (by decide) hab (by decide) (by decide) (by decide), _, _, rfl, rfl, ?_⟩
        refine ⟨_, rfl, _, rfl, p, _, _, L, rfl, rfl, hp', ix_of rfl (by rw [List.length_map]; omega), ?_⟩
        refine ⟨_, rfl, _, rfl, _, _, rfl, rfl, p, _, _, _, rfl, rfl, SqL.of upd_same, al1 _, _, rfl, _, _, rfl, rfl, ?_⟩
        refine ⟨_, rfl, _, rfl, _, _, rfl, rfl, p, _, _, L + 1, rfl, rfl, upd_same, ix_of (by omega) (by rw [List.length_set, List.length_map]; omega), ?_⟩
        rw [upd_upd]
        have est : (((ls.map V.int).set L (V.int (ls.getD L 0 - 1 * rs.getD L 0))).set (L + 1) (V.int (ls.getD (L + 1) 0 + 1))) = (stepL rs ls L true).map V.int := by
          unfold stepL
          rw [List.map_set, List.map_set]
          rfl
        show tSeq _ _ _ _ (upd H' p (.lst (((ls.map V.int).set L (V.int (ls.getD L 0 - 1 * rs.getD L 0))).set (L + 1) (V.int (ls.getD (L + 1) 0 + 1)))))
        rw [est]
        have c3 : (upd H' p (.lst ((stepL rs ls L true).map V.int))) p = some (.lst ((stepL rs ls L true).map V.int)) := upd_same
        have c4 : (upd H' p (.lst ((stepL rs ls L true).map V.int))) d = some (.lst (lf2.map V.int)) := by rw [upd_ne dp.symm]; exact hd'
        have fr2 : ∀ x o, x ≠ d → H x = some o → (upd H' p (.lst ((stepL rs ls L true).map V.int))) x = some o := fun x o hx z => by rw [upd_ne (ne_of_none z hp)]; exact fr _ _ hx z
        generalize upd H' p (.lst ((stepL rs ls L true).map V.int)) = H9 at c3 c4 fr2
        -- left[line]
        refine ⟨_, rfl, _, rfl, d, _, _, _, rfl, rfl, SqL.of c4, aq, _, rfl, _, _, rfl, rfl, ?_⟩
        refine ⟨_, rfl, _, rfl, d, _, _, L, rfl, rfl, c4, ix_of rfl (by rw [List.length_map]; omega), ?_⟩
        have c5 : (upd H9 d (.lst ((lf2.map V.int).set L (V.int (lf2.getD L 0 - 1))))) p = some (.lst ((stepL rs ls L true).map V.int)) := by rw [upd_ne dp]; exact c3
        have c6 : (upd H9 d (.lst ((lf2.map V.int).set L (V.int (lf2.getD L 0 - 1))))) d = some (.lst ((lf2.set L (lf2.getD L 0 - sg true)).map V.int)) := by rw [upd_same, List.map_set]; rfl
        have fr3 : ∀ x o, x ≠ d → H x = some o → (upd H9 d (.lst ((lf2.map V.int).set L (V.int (lf2.getD L 0 - 1))))) x = some o := fun x o hx z => by rw [upd_ne hx]; exact fr2 _ _ hx z
        generalize upd H9 d (.lst ((lf2.map V.int).set L (V.int (lf2.getD L 0 - 1)))) = H10 at c5 c6 fr3
        refine ⟨_, rfl, _, rfl, p, _, _, _, rfl, rfl, SqL.of c5, a0, _, _, rfl, rfl, _, rfl, ite_f (decide_eq_false (by omega)) ?_⟩
        refine ⟨_, rfl, _, rfl, _, _, rfl, rfl, p, _, _, _, rfl, rfl, SqL.of c5, a1, _, _, rfl, rfl, _, rfl, ite_f (decide_eq_false (by omega)) ?_⟩
        exact ⟨_, _, _, _, _, rfl, fr3, c5, c6, gs, by rw [List.length_set]; exact hlf2, hwk⟩
      | false =>
        refine ite_f rfl ⟨_, rfl, ?_⟩
        refine ⟨_, rfl, _, rfl, p, _, _, _, rfl, rfl, SqL.of hp', al, _, rfl, _, rfl, _, rfl, a, _, _, _, rfl, rfl, SqL.of hA', ar, _, _, rfl, rfl, wide_mul (a := 2) (b := 10) (by decide) hab (by decide) (by decide) (by decide), _, _, rfl, rfl, ?_⟩
        refine ⟨_, rfl, _, rfl, p, _, _, L, rfl, rfl, hp', ix_of rfl (by rw [List.length_map]; omega), ?_⟩
        refine ⟨_, rfl, _, rfl, _, _, rfl, rfl, p, _, _, _, rfl, rfl, SqL.of upd_same, al1 _, _, rfl, _, _, rfl, rfl, ?_⟩
        refine ⟨_, rfl, _, rfl, _, _, rfl, rfl, p, _, _, L + 1, rfl, rfl, upd_same, ix_of (by omega) (by rw [List.length_set, List.length_map]; omega), ?_⟩
        rw [upd_upd]
        have est : (((ls.map V.int).set L (V.int (ls.getD L 0 - -1 * rs.getD L 0))).set (L + 1) (V.int (ls.getD (L + 1) 0 + -1))) = (stepL rs ls L false).map V.int := by
          unfold stepL
          rw [List.map_set, List.map_set]
          rfl
        show tSeq _ _ _ _ (upd H' p (.lst (((ls.map V.int).set L (V.int (ls.getD L 0 - -1 * rs.getD L 0))).set (L + 1) (V.int (ls.getD (L + 1) 0 + -1)))))
        rw [est]
        have c3 : (upd H' p (.lst ((stepL rs ls L false).map V.int))) p = some (.lst ((stepL rs ls L false).map V.int)) := upd_same
        have c4 : (upd H' p (.lst ((stepL rs ls L false).map V.int))) d = some (.lst (lf2.map V.int)) := by rw [upd_ne dp.symm]; exact hd'
        have fr2 : ∀ x o, x ≠ d → H x = some o → (upd H' p (.lst ((stepL rs ls L false).map V.int))) x = some o := fun x o hx z => by rw [upd_ne (ne_of_none z hp)]; exact fr _ _ hx z
        generalize upd H' p (.lst ((stepL rs ls L false).map V.int)) = H9 at c3 c4 fr2
        -- left[line]
        refine ⟨_, rfl, _, rfl, d, _, _, _, rfl, rfl, SqL.of c4, aq, _, rfl, _, _, rfl, rfl, ?_⟩
        refine ⟨_, rfl, _, rfl, d, _, _, L, rfl, rfl, c4, ix_of rfl (by rw [List.length_map]; omega), ?_⟩
        have c5 : (upd H9 d (.lst ((lf2.map V.int).set L (V.int (lf2.getD L 0 - -1))))) p = some (.lst ((stepL rs ls L false).map V.int)) := by rw [upd_ne dp]; exact c3
        have c6 : (upd H9 d (.lst ((lf2.map V.int).set L (V.int (lf2.getD L 0 - -1))))) d = some (.lst ((lf2.set L (lf2.getD L 0 - sg false)).map V.int)) := by rw [upd_same, List.map_set]; rfl
        have fr3 : ∀ x o, x ≠ d → H x = some o → (upd H9 d (.lst ((lf2.map V.int).set L (V.int (lf2.getD L 0 - -1))))) x = some o := fun x o hx z => by rw [upd_ne hx]; exact fr2 _ _ hx z
        generalize upd H9 d (.lst ((lf2.map V.int).set L (V.int (lf2.getD L 0 - -1)))) = H10 at c5 c6 fr3
        refine ⟨_, rfl, _, rfl, p, _, _, _, rfl, rfl, SqL.of c5, a0, _, _, rfl, rfl, _, rfl, ite_f (decide_eq_false (by omega)) ?_⟩
        refine ⟨_, rfl, _, rfl, _, _, rfl, rfl, p, _, _, _, rfl, rfl, SqL.of c5, a1, _, _, rfl, rfl, _, rfl, ite_f (decide_eq_false (by omega)) ?_⟩
        exact ⟨_, _, _, _, _, rfl, fr3, c5, c6, gs, by rw [List.length_set]; exact hlf2, hwk⟩
    · rintro σ H' ⟨ls, lf2, v5, v6, v7, rfl, fr, hp', hd', gl, hlf2, hwk⟩
      have hl := hT.len
      rw [List.drop_eq_nil_of_le (by rw [List.length_map]; omega)] at hwk
      obtain ⟨rfl, rfl⟩ := hwk
      exact ⟨_, rfl, k H' p fr hp hp' hd'⟩
end
end CB
namespace CB
open PySem PySem.Spec PyProof.Rows L2
abbrev s_law_refused : Stmt := top 33
abbrev N_law_refused : List Str := ["ratios", "one", "other", "e"]
theorem sc_law_refused : FnScope N_law_refused ["ratios", "one", "other"] (defScope s_law_refused) := ⟨rfl, rfl, rfl, by decide +kernel, rfl, by decide +kernel, by decide +kernel⟩
end CB

namespace CB
open PySem PySem.Spec PyProof.Rows L2
def sp_law_refused (K : PySem.W.Frag) (_ : Str → Option Value) : Sp := fun vs H Q _ => ∃ (a b c : Addr) (rs bs os : List Int), vs = [.ref a, .ref b, .ref c] ∧ SqL K H a (rs.map V.int) ∧ SqL K H b (bs.map V.int) ∧ SqL K H c (os.map V.int) ∧ GF rs ∧ GB rs bs ∧ GB rs os ∧ BS bs ∧ BS os ∧ W rs bs = W rs os ∧ 2000 < Nabs rs bs os ∧ TellV H Q (.bl true)
section
variable {P : Program} {w : World} {K : PySem.W.Frag} {mg : Str → Option Value} {base : Heap}
theorem ok_law_refused {f : Addr} {fd : FuncData} (F : Fun K "_law_refused" "_law_refused" s_law_refused f fd) (B : Bi mg) (e_BoardError : mg "BoardError" = some (.ref (ErA mg "BoardError"))) (w_TooLong : Wd K mg (ErA mg "TooLong") 5)
    (c_way : Callee P w K mg base 6 "way" ["ratios", "one", "other"] (sp_way K mg)) (c_law_word_of : CalleeE P w K mg base 1 "_law_word_of" ["e"] (sp_law_word_of K mg)) :
    FnOk P w K mg base (L2.CX P w) 7 f fd ["ratios", "one", "other"] (sp_law_refused K mg) := by
  refine F.okX sc_law_refused (fun vs H Q E h => ?_) (fun cdv A outer s H vs Q E hr h => ?_)
  · obtain ⟨a, b, c, rs, bs, os, rfl, _⟩ := h
    rfl
  · obtain ⟨a, b, c, rs, bs, os, rfl, hA, hB, hC, g, gb, go, sb, so, hw, hN, k⟩ := h
    refine ⟨_, (pss_cons (ps_try_as (i := 3) rfl rfl sc_law_refused.nd rfl rfl ⟨rfl, by decide, .inl e_BoardError⟩ takes0 (fun W pn xe tk _ => (pss_one (ps_expr (pe_f c_way hr (by decide) tk (pa_cons (pv 0) (pa_cons (pv 1) (pa_cons (pv 2) pa_nil)))))))
  (fun a oe cls d pn hz hf => (pss_one (ps_ret (pe_cmpR op_eq (pe_callE c_law_word_of hr (by decide) hz hf (pa_cons (pv 3) pa_nil)) pe_str (nomark _))))))
  (pss_one (ps_ret pe_bl))), ?_⟩
    refine ⟨_, rfl, _, rfl, _, rfl, a, b, c, rs, bs, os, rfl, hA, hB, hC, Two.good g gb go sb so ⟨fun _ => ⟨fun z => by omega, fun _ H1 s1 => ?_⟩, fun z => absurd hw z⟩⟩
    refine ⟨true, w_TooLong.bd, fun _ z hz => ⟨_, rfl, ErA mg "TooLong", rfl, rfl, 5, w_TooLong, rfl, fun H2 s2 => ⟨rfl, ?_⟩⟩, fun q => nomatch q⟩
    have e : decide (V.str (wordL.getD 5 "") = V.str "long") = true := decide_eq_true rfl
    rw [e]
    exact k H2 (s1.trans s2)
end
end CB
namespace CB
open PySem PySem.Spec PyProof.Rows L2
theorem no_err (P : Program) (w : World) (H : Hp) (s : Shared) (e : Value) (s' : Shared) : L2.CX P w [] H s (fun _ _ _ => False) e s' → False := fun h => by
  obtain ⟨_, _, _, _, _, _, _, _, _, _, _, _, z⟩ := h
  exact z
end CB
namespace CB
open PySem PySem.Spec PyProof.Rows L2
abbrev s_law : Stmt := top 34
abbrev N_law : List Str := ["script", "ratios", "one", "other", "first", "second", "due", "many", "handed", "steps", "left", "number"]
theorem sc_law : FnScope N_law ["script"] (defScope s_law) := ⟨rfl, rfl, rfl, by decide +kernel, rfl, by decide +kernel, by decide +kernel⟩
end CB

namespace CB
open PySem PySem.Spec PyProof.Rows L2
def sp_law (K : PySem.W.Frag) : Sp := fun vs H Q _ => ∃ (a : Addr) (ns : List Int), vs = [.ref a] ∧ SqL K H a (ns.map V.int) ∧ ns.length ≤ 63 ∧ ∀ H', Q (.bl true) H'
structure PairOk (rs bs os : List Int) : Prop where
  g : GF rs
  gb : GB rs bs
  go : GB rs os
  sb : BS bs
  so : BS os
  hw : W rs bs = W rs os
theorem PairOk.symm {rs bs os : List Int} (h : PairOk rs bs os) : PairOk rs os bs := ⟨h.g, h.go, h.gb, h.so, h.sb, h.hw.symm⟩
theorem pair_far {r0 r1 fi se : Int} (h0 : 2 ≤ r0 ∧ r0 ≤ 12) (h1 : 2 ≤ r1 ∧ r1 ≤ 12) (hf : 0 ≤ fi ∧ fi ≤ 1000) (hs : 995 ≤ se ∧ 1995 ≤ fi + se ∧ se ≤ 2006) :
    PairOk [r0, r1] [r0 * fi, r1 * se - fi + 1, 3] [0, 1, 3 + se] ∧ PairOk [r0, r1] [r0 * fi, 1, 3 + se] [0, 1 + fi + r1 * se, 3] := by
  have m1 : 0 ≤ r0 * fi := Int.mul_nonneg (by omega) hf.1
  have m2 : r0 * fi ≤ 12 * fi := Int.mul_le_mul_of_nonneg_right h0.2 hf.1
  have m3 : 2 * se ≤ r1 * se := Int.mul_le_mul_of_nonneg_right h1.1 (by omega)
  have m4 : r1 * se ≤ 12 * se := Int.mul_le_mul_of_nonneg_right h1.2 (by omega)
  have big : (100000 : Int) < 2 ^ 200 := by decide
  have g : GF [r0, r1] := ⟨by show 2 ≤ 11; decide, fun r hr => by
    rcases List.mem_cons.mp hr with rfl | hr
    · exact ⟨by omega, by omega⟩
    · rw [List.mem_singleton.mp hr]
      exact ⟨by omega, by omega⟩⟩
  have mk3 : ∀ x y z : Int, 0 ≤ x → 0 ≤ y → 0 ≤ z → GB [r0, r1] [x, y, z] := fun x y z hx hy hz => ⟨rfl, fun b hb => by
    rcases List.mem_cons.mp hb with rfl | hb
    · exact hx
    · rcases List.mem_cons.mp hb with rfl | hb
      · exact hy
      · rw [List.mem_singleton.mp hb]; exact hz⟩
  have mkB : ∀ x y z : Int, x ≤ 100000 → y ≤ 100000 → z ≤ 100000 → BS [x, y, z] := fun x y z hx hy hz b hb => by
    rcases List.mem_cons.mp hb with rfl | hb
    · omega
    · rcases List.mem_cons.mp hb with rfl | hb
      · omega
      · rw [List.mem_singleton.mp hb]; omega
  have eW : ∀ x y z : Int, W [r0, r1] [x, y, z] = x + r0 * (y + r1 * z) := fun x y z => rfl
  have e3 : r1 * (3 + se) = r1 * 3 + r1 * se := Int.mul_add _ _ _
  refine ⟨⟨g, mk3 _ _ _ m1 (by omega) (by omega), mk3 _ _ _ (by omega) (by omega) (by omega), mkB _ _ _ (by omega) (by omega) (by omega), mkB _ _ _ (by omega) (by omega) (by omega), ?_⟩,
    ⟨g, mk3 _ _ _ m1 (by omega) (by omega), mk3 _ _ _ (by omega) (by omega) (by omega), mkB _ _ _ (by omega) (by omega) (by omega), mkB _ _ _ (by omega) (by omega) (by omega), ?_⟩⟩
  · rw [eW, eW]
    have e4 : r1 * se - fi + 1 + r1 * 3 = (1 + r1 * (3 + se)) - fi := by omega
    rw [e4, Int.mul_sub]
    omega
  · rw [eW, eW]
    have e4 : 1 + fi + r1 * se + r1 * 3 = (1 + r1 * (3 + se)) + fi := by omega
    rw [e4, Int.mul_add r0 (1 + r1 * (3 + se)) fi]
    omega
section
variable {P : Program} {w : World} {K : PySem.W.Frag} {mg : Str → Option Value} {base : Heap}
theorem ok_law {f : Addr} {fd : FuncData} (F : Fun K "law" "law" s_law f fd) (B : Bi mg) (c_law_pair_by : Callee P w K mg base 3 "_law_pair_by" ["script"] (sp_law_pair_by K mg)) (c_law_cell_at : Callee P w K mg base 1 "_law_cell_at" ["script", "k"] (sp_law_cell_at K mg))
    (c_net : Callee P w K mg base 4 "net" ["ratios", "one", "other"] (sp_net K mg)) (c_way : Callee P w K mg base 6 "way" ["ratios", "one", "other"] (sp_way K mg)) (c_law_refused : Callee P w K mg base 7 "_law_refused" ["ratios", "one", "other"] (sp_law_refused K mg))
    (c_law_is_list : Callee P w K mg base 2 "_law_is_list" ["found", "due"] (sp_law_is_list K mg)) (c_law_walked : Callee P w K mg base 2 "_law_walked" ["ratios", "board", "steps", "left"] (sp_law_walked K mg)) :
    FnOk P w K mg base (L2.CX P w) 8 f fd ["script"] (sp_law K) := by
  refine F.okX sc_law (fun vs H Q E h => ?_) (fun cdv A outer s H vs Q E hr h => ?_)
  · obtain ⟨a, ns, rfl, _⟩ := h
    rfl
  · obtain ⟨a, ns, rfl, hS, _, q⟩ := h
    refine ⟨_, (pss_cons (ps_asg (pe_f c_law_pair_by hr (by decide) takes0 (pa_cons (pv 0) pa_nil)) (pg_tup rfl (pgs_cons (pg_name (i := 1) sc_law.nd rfl (Or.inl rfl)) (pgs_cons (pg_name (i := 2) sc_law.nd rfl (Or.inl rfl)) (pgs_cons (pg_name (i := 3) sc_law.nd rfl (Or.inl rfl)) pgs_nil)))))
  (pss_cons (ps_if (pt_cmpR op_eq (pe_op op_mod (pe_f c_law_cell_at hr (by decide) takes0 (pa_cons (pv 0) (pa_cons pe_int pa_nil))) pe_int) pe_int (nomark _)) (pss_cons (ps_set (i := 1) sc_law.nd rfl (Or.inl rfl) (pe_lst (pa_cons (pe_op op_add pe_int (pe_op op_mod (pe_f c_law_cell_at hr (by decide) takes0 (pa_cons (pv 0) (pa_cons pe_int pa_nil))) pe_int)) (pa_cons (pe_op op_add pe_int (pe_op op_mod (pe_f c_law_cell_at hr (by decide) takes0 (pa_cons (pv 0) (pa_cons pe_int pa_nil))) pe_int)) pa_nil))))
  (pss_cons (ps_set (i := 4) sc_law.nd rfl (Or.inl rfl) (pe_op op_mod (pe_f c_law_cell_at hr (by decide) takes0 (pa_cons (pv 0) (pa_cons pe_int pa_nil))) pe_int))
  (pss_cons (ps_set (i := 5) sc_law.nd rfl (Or.inl rfl) (pe_op op_sub (pe_op op_add pe_int (pe_op op_mod (pe_f c_law_cell_at hr (by decide) takes0 (pa_cons (pv 0) (pa_cons pe_int pa_nil))) pe_int)) (pv 4)))
  (pss_cons (ps_set (i := 2) sc_law.nd rfl (Or.inl rfl) (pe_lst (pa_cons (pe_op op_mulW (pe_ix ix_list (pv 1) pe_int (fun _ _ => rfl)) (pv 4)) (pa_cons (pe_op op_add (pe_op op_sub (pe_op op_mulW (pe_ix ix_list (pv 1) pe_int (fun _ _ => rfl)) (pv 5)) (pv 4)) pe_int) (pa_cons pe_int pa_nil)))))
  (pss_cons (ps_set (i := 3) sc_law.nd rfl (Or.inl rfl) (pe_lst (pa_cons pe_int (pa_cons pe_int (pa_cons (pe_op op_add pe_int (pv 5)) pa_nil)))))
  (pss_cons (ps_if (pt_cmpR op_eq (pe_op op_mod (pe_op op_fdiv (pe_f c_law_cell_at hr (by decide) takes0 (pa_cons (pv 0) (pa_cons pe_int pa_nil))) pe_int) pe_int) pe_int (nomark _)) (pss_cons (ps_set (i := 2) sc_law.nd rfl (Or.inl rfl) (pe_lst (pa_cons (pe_op op_mulW (pe_ix ix_list (pv 1) pe_int (fun _ _ => rfl)) (pv 4)) (pa_cons pe_int (pa_cons (pe_op op_add pe_int (pv 5)) pa_nil)))))
  (pss_one (ps_set (i := 3) sc_law.nd rfl (Or.inl rfl) (pe_lst (pa_cons pe_int (pa_cons (pe_op op_add (pe_op op_add pe_int (pv 4)) (pe_op op_mulW (pe_ix ix_list (pv 1) pe_int (fun _ _ => rfl)) (pv 5))) (pa_cons pe_int pa_nil))))))) pss_nil)
  (pss_one (ps_if (pt_cmpR op_eq (pe_op op_mod (pe_op op_fdiv (pe_f c_law_cell_at hr (by decide) takes0 (pa_cons (pv 0) (pa_cons pe_int pa_nil))) pe_int) pe_int) pe_int (nomark _)) (pss_one (ps_par (i := 2) (j := 3) rfl sc_law.nd rfl rfl (by decide) rfl rfl (pa_cons (pv 3) (pa_cons (pv 2) pa_nil)) (by rfl))) pss_nil)))))))) pss_nil)
  (pss_cons (ps_set (i := 6) sc_law.nd rfl (Or.inl rfl) (pe_f c_net hr (by decide) takes0 (pa_cons (pe_callTy call_list_of (by rfl) B.list (by decide +kernel) (pa_cons (pv 1) pa_nil)) (pa_cons (pe_callTy call_list_of (by rfl) B.list (by decide +kernel) (pa_cons (pv 2) pa_nil)) (pa_cons (pe_callTy call_list_of (by rfl) B.list (by decide +kernel) (pa_cons (pv 3) pa_nil)) pa_nil)))))
  (pss_cons (ps_set (i := 7) sc_law.nd rfl (Or.inl rfl) (pe_callB (cr_sum rfl) (by rfl) B.sum (by decide +kernel) (pa_cons (pe_lc (own := [("number", 11)]) (g := gName 11) (tt := tYes) rfl sc_law.nd (pi_list (pv 6)) (blkOk_by (own := [("number", 11)]) (N := N_law) (sc := defScope s_law) (by decide +kernel)) (fun _ _ _ _ _ => pg_name (i := 11) sc_law.nd rfl (Or.inl rfl)) (fun _ _ _ _ _ => pts_nil) (fun _ _ _ _ _ => (pe_callB call_abs (by rfl) B.abs (by decide +kernel) (pa_cons (pv 11) pa_nil)))) pa_nil)))
  (pss_cons (ps_if (pt_cmpR op_gt (pv 7) pe_int (nomark _)) (pss_one (ps_ret (pe_f c_law_refused hr (by decide) takes0 (pa_cons (pe_callTy call_list_of (by rfl) B.list (by decide +kernel) (pa_cons (pv 1) pa_nil)) (pa_cons (pe_callTy call_list_of (by rfl) B.list (by decide +kernel) (pa_cons (pv 2) pa_nil)) (pa_cons (pe_callTy call_list_of (by rfl) B.list (by decide +kernel) (pa_cons (pv 3) pa_nil)) pa_nil)))))) pss_nil)
  (pss_cons (ps_set (i := 8) sc_law.nd rfl (Or.inl rfl) (pe_lst (pa_cons (pe_callTy call_list_of (by rfl) B.list (by decide +kernel) (pa_cons (pv 1) pa_nil)) (pa_cons (pe_callTy call_list_of (by rfl) B.list (by decide +kernel) (pa_cons (pv 2) pa_nil)) (pa_cons (pe_callTy call_list_of (by rfl) B.list (by decide +kernel) (pa_cons (pv 3) pa_nil)) pa_nil)))))
  (pss_cons (ps_set (i := 9) sc_law.nd rfl (Or.inl rfl) (pe_f c_way hr (by decide) takes0 (pa_cons (pe_ix ix_list (pv 8) pe_int (fun _ _ => rfl)) (pa_cons (pe_ix ix_list (pv 8) pe_int (fun _ _ => rfl)) (pa_cons (pe_ix ix_list (pv 8) pe_int (fun _ _ => rfl)) pa_nil)))))
  (pss_cons (ps_set (i := 10) sc_law.nd rfl (Or.inl rfl) (pe_callTy call_list_of (by rfl) B.list (by decide +kernel) (pa_cons (pv 6) pa_nil)))
  (pss_cons (ps_if (pt_cmpR (op_neD hr.units) (pv 8) (pe_lst (pa_cons (pv 1) (pa_cons (pv 2) (pa_cons (pv 3) pa_nil)))) (nomark _)) (pss_one (ps_ret pe_bl)) pss_nil)
  (pss_cons (ps_if (pw_or (pt_not (pt_val (pe_callB call_isi (by rfl) B.isinstance (by decide +kernel) (pa_cons (pv 9) (pa_cons (pe_bltn (v := .ty "list") (by rfl) B.list (by decide +kernel) rfl) pa_nil))))) (pw_or1 (pt_cmpR op_ne (pe_callB call_len_seq (by rfl) B.len PySem.boot_len (pa_cons (pv 9) pa_nil)) (pv 7) (nomark _)))).pt (pss_one (ps_ret pe_bl)) pss_nil)
  (pss_cons (ps_if (pt_not (pt_val (pe_f c_law_is_list hr (by decide) takes0 (pa_cons (pe_f c_law_walked hr (by decide) takes0 (pa_cons (pv 1) (pa_cons (pv 2) (pa_cons (pv 9) (pa_cons (pv 10) pa_nil))))) (pa_cons (pv 3) pa_nil))))) (pss_one (ps_ret pe_bl)) pss_nil)
  (pss_one (ps_ret (pe_cmpR (op_eqD hr.units) (pv 10) (pe_lc (own := [("number", 11)]) (g := gName 11) (tt := tYes) rfl sc_law.nd (pi_list (pv 6)) (blkOk_by (own := [("number", 11)]) (N := N_law) (sc := defScope s_law) (by decide +kernel)) (fun _ _ _ _ _ => pg_name (i := 11) sc_law.nd rfl (Or.inl rfl)) (fun _ _ _ _ _ => pts_nil) (fun _ _ _ _ _ => pe_int)) (nomark _))))))))))))))), ?_⟩
    refine ⟨_, rfl, a, ns, rfl, hS, fun rs bs os g gb go sb so hw H1 p p1 p2 p3 s1 e1 e2 e3 et => ?_⟩
    refine ⟨p, _, rfl, SqT.of et, rfl, _, _, rfl, _, _, rfl, _, _, rfl, rfl, ?_⟩
    have pk : PairOk rs bs os := ⟨g, gb, go, sb, so, hw⟩
    clear g gb go sb so hw et
    refine ⟨_, rfl, a, ns, 45, rfl, s1.seq hS, by decide, _, _, rfl, rfl, (show (0 : Int) < 5 by decide), rfl, _, rfl, ite2 (fun _ => ?A) (fun _ => ?B)⟩
    case' A =>
      clear pk
      refine ⟨_, rfl, a, ns, 46, rfl, s1.seq hS, by decide, _, _, rfl, rfl, (show (0 : Int) < 11 by decide), _, _, rfl, rfl, _, rfl, a, ns, 48, rfl, s1.seq hS, by decide, _, _, rfl, rfl, (show (0 : Int) < 11 by decide), _, _, rfl, rfl, by show 2 ≤ sizeLine; decide, fun x1 y1 => ?_⟩
      obtain ⟨r0, er0⟩ : ∃ r, r = 2 + cell ns 46 % 11 := ⟨_, rfl⟩
      obtain ⟨r1, er1⟩ : ∃ r, r = 2 + cell ns 48 % 11 := ⟨_, rfl⟩
      have t1 := same_upd (o := .lst [V.int (2 + cell ns 46 % 11), V.int (2 + cell ns 48 % 11)]) y1
      have sX := s1.trans t1
      have i1 := upd_same (H := H1) (a := x1) (o := .lst [V.int (2 + cell ns 46 % 11), V.int (2 + cell ns 48 % 11)])
      generalize upd H1 x1 (.lst [V.int (2 + cell ns 46 % 11), V.int (2 + cell ns 48 % 11)]) = H2 at sX i1
      rw [← er0, ← er1] at i1
      have h0 : 2 ≤ r0 ∧ r0 ≤ 12 := by omega
      have h1 : 2 ≤ r1 ∧ r1 ≤ 12 := by omega
      refine ⟨_, rfl, a, ns, 49, rfl, sX.seq hS, by decide, _, _, rfl, rfl, (show (0 : Int) < 1001 by decide), ?_⟩
      refine ⟨_, rfl, a, ns, 47, rfl, sX.seq hS, by decide, _, _, rfl, rfl, (show (0 : Int) < 12 by decide), _, _, rfl, rfl, _, rfl, _, _, rfl, rfl, ?_⟩
      obtain ⟨fi, efi⟩ : ∃ r, r = cell ns 49 % 1001 := ⟨_, rfl⟩
      obtain ⟨se, ese⟩ : ∃ r, r = 1995 + cell ns 47 % 12 - fi := ⟨_, rfl⟩
      show tSeq _ _ _ [some (V.ref a), some (V.ref x1), some (V.ref p2), some (V.ref p3), some (V.int (cell ns 49 % 1001)), some (V.int (1995 + cell ns 47 % 12 - cell ns 49 % 1001)), none, none, none, none, none, none] H2
      rw [← efi, ← ese]
      have hf : 0 ≤ fi ∧ fi ≤ 1000 := by omega
      have hs : 995 ≤ se ∧ 1995 ≤ fi + se ∧ se ≤ 2006 := by omega
      have hfn : fi.natAbs < 2 ^ 20 := by omega
      have hsn : se.natAbs < 2 ^ 20 := by omega
      have h0n : r0.natAbs < 2 ^ 10 := by omega
      have h1n : r1.natAbs < 2 ^ 10 := by omega
      obtain ⟨pkA, pkB⟩ := pair_far h0 h1 hf hs
      clear er0 er1 efi ese h0 h1 hf hs
      -- one, other
      refine ⟨_, rfl, x1, _, 0, _, rfl, rfl, SqL.of i1, rfl, _, rfl, _, _, rfl, rfl, wide_mul (a := 10) (b := 20) h0n hfn (by decide) (by decide) (by decide), ?_⟩
      refine ⟨_, rfl, x1, _, 1, _, rfl, rfl, SqL.of i1, rfl, _, rfl, _, _, rfl, rfl, wide_mul (a := 10) (b := 20) h1n hsn (by decide) (by decide) (by decide), _, rfl, _, _, rfl, rfl, _, _, rfl, rfl, by show 3 ≤ sizeLine; decide, fun x2 y2 => ?_⟩
      have t2 := same_upd (o := .lst [V.int (r0 * fi), V.int (r1 * se - fi + 1), V.int 3]) y2
      have i2 := upd_same (H := H2) (a := x2) (o := .lst [V.int (r0 * fi), V.int (r1 * se - fi + 1), V.int 3])
      refine ⟨_, rfl, _, _, rfl, rfl, by show 3 ≤ sizeLine; decide, fun x3 y3 => ?_⟩
      have t3 := same_upd (o := .lst [V.int 0, V.int 1, V.int (3 + se)]) y3
      have i3 := upd_same (H := upd H2 x2 (.lst [V.int (r0 * fi), V.int (r1 * se - fi + 1), V.int 3])) (a := x3) (o := .lst [V.int 0, V.int 1, V.int (3 + se)])
      have i2 := t3 _ _ i2
      have i1 := t3 _ _ (t2 _ _ i1)
      have sX := (sX.trans t2).trans t3
      generalize upd (upd H2 x2 (.lst [V.int (r0 * fi), V.int (r1 * se - fi + 1), V.int 3])) x3 (.lst [V.int 0, V.int 1, V.int (3 + se)]) = H3 at sX i1 i2 i3
      refine ⟨_, rfl, a, ns, 45, rfl, sX.seq hS, by decide, _, _, rfl, rfl, ⟨by decide, by decide⟩, _, _, rfl, rfl, (show (0 : Int) < 2 by decide), rfl, _, rfl, ite2 (fun _ => ?C) (fun _ => ?D)⟩
      case' C =>
        refine ⟨_, rfl, x1, _, 0, _, rfl, rfl, SqL.of i1, rfl, _, rfl, _, _, rfl, rfl, wide_mul (a := 10) (b := 20) h0n hfn (by decide) (by decide) (by decide), _, rfl, _, _, rfl, rfl, by show 3 ≤ sizeLine; decide, fun x4 y4 => ?_⟩
        have t4 := same_upd (o := .lst [V.int (r0 * fi), V.int 1, V.int (3 + se)]) y4
        refine ⟨_, rfl, _, _, rfl, rfl, _, rfl, x1, _, 1, _, rfl, rfl, SqL.of (t4 _ _ i1), rfl, _, rfl, _, _, rfl, rfl, wide_mul (a := 10) (b := 20) h1n hsn (by decide) (by decide) (by decide), _, _, rfl, rfl, by show 3 ≤ sizeLine; decide, fun x5 y5 => ?_⟩
        have t5 := same_upd (o := .lst [V.int 0, V.int (1 + fi + r1 * se), V.int 3]) y5
        have j1 : (upd (upd H3 x4 (.lst [V.int (r0 * fi), V.int 1, V.int (3 + se)])) x5 (.lst [V.int 0, V.int (1 + fi + r1 * se), V.int 3])) x1 = some (.lst (([r0, r1] : List Int).map V.int)) := t5 _ _ (t4 _ _ i1)
        have j2 : (upd (upd H3 x4 (.lst [V.int (r0 * fi), V.int 1, V.int (3 + se)])) x5 (.lst [V.int 0, V.int (1 + fi + r1 * se), V.int 3])) x4 = some (.lst (([r0 * fi, 1, 3 + se] : List Int).map V.int)) := t5 _ _ (upd_same (H := H3) (a := x4) (o := .lst [V.int (r0 * fi), V.int 1, V.int (3 + se)]))
        have j3 : (upd (upd H3 x4 (.lst [V.int (r0 * fi), V.int 1, V.int (3 + se)])) x5 (.lst [V.int 0, V.int (1 + fi + r1 * se), V.int 3])) x5 = some (.lst (([0, 1 + fi + r1 * se, 3] : List Int).map V.int)) := upd_same
        have sX := (sX.trans t4).trans t5
        generalize upd (upd H3 x4 (.lst [V.int (r0 * fi), V.int 1, V.int (3 + se)])) x5 (.lst [V.int 0, V.int (1 + fi + r1 * se), V.int 3]) = HX at sX j1 j2 j3
        have pk := pkB
        show tSeq _ _ _ [some (V.ref a), some (V.ref x1), some (V.ref x4), some (V.ref x5), some (V.int fi), some (V.int se), none, none, none, none, none, none] HX
        generalize ([r0 * fi, 1, 3 + se] : List Int) = bx at pk j2
        generalize ([0, 1 + fi + r1 * se, 3] : List Int) = ox at pk j3
        generalize x4 = q2 at j2
        generalize x5 = q3 at j3
      case' D =>
        have pk := pkA
        have j1 : H3 x1 = some (.lst (([r0, r1] : List Int).map V.int)) := i1
        have j2 : H3 x2 = some (.lst (([r0 * fi, r1 * se - fi + 1, 3] : List Int).map V.int)) := i2
        have j3 : H3 x3 = some (.lst (([0, 1, 3 + se] : List Int).map V.int)) := i3
        show tSeq _ _ _ [some (V.ref a), some (V.ref x1), some (V.ref x2), some (V.ref x3), some (V.int fi), some (V.int se), none, none, none, none, none, none] H3
        clear i1 i2 i3
        generalize H3 = HX at sX j1 j2 j3
        generalize ([r0 * fi, r1 * se - fi + 1, 3] : List Int) = bx at pk j2
        generalize ([0, 1, 3 + se] : List Int) = ox at pk j3
        generalize x2 = q2 at j2
        generalize x3 = q3 at j3
      all_goals
        clear pkA pkB
        generalize ([r0, r1] : List Int) = rx at pk j1
        refine ⟨_, rfl, a, ns, 45, rfl, sX.seq hS, by decide, _, _, rfl, rfl, ⟨by decide, by decide⟩, _, _, rfl, rfl, (show (0 : Int) < 2 by decide), rfl, _, rfl, ite2 (fun _ => ?_) (fun _ => ?_)⟩
        refine ⟨_, rfl, _, rfl, _, _, rfl, ?_⟩
        have pk := pk.symm
        show tSeq _ _ _ [some (V.ref a), some (V.ref x1), some (V.ref q3), some (V.ref q2), some (V.int fi), some (V.int se), none, none, none, none, none, none] HX
        generalize some (V.int fi) = v4
        generalize some (V.int se) = v5
        generalize x1 = y1 at j1
        generalize q2 = y3 at j2
        generalize q3 = y2 at j3
        generalize bx = oz at pk j2
        generalize ox = bz at pk j3
        have k1 := j1
        have k2 := j3
        have k3 := j2
        rotate_left
        show tSeq _ _ _ [some (V.ref a), some (V.ref x1), some (V.ref q2), some (V.ref q3), some (V.int fi), some (V.int se), none, none, none, none, none, none] HX
        generalize some (V.int fi) = v4
        generalize some (V.int se) = v5
        generalize x1 = y1 at j1
        generalize q2 = y2 at j2
        generalize q3 = y3 at j3
        generalize bx = bz at pk j2
        generalize ox = oz at pk j3
        have k1 := j1
        have k2 := j2
        have k3 := j3
    case' B =>
      show tSeq _ _ _ [some (V.ref a), some (V.ref p1), some (V.ref p2), some (V.ref p3), none, none, none, none, none, none, none, none] H1
      have sX := s1
      have k1 := e1
      have k2 := e2
      have k3 := e3
      clear e1 e2 e3
      generalize H1 = HX at sX k1 k2 k3
      generalize p1 = y1 at k1
      generalize p2 = y2 at k2
      generalize p3 = y3 at k3
      generalize rs = rx at pk k1
      generalize bs = bz at pk k2
      generalize os = oz at pk k3
    all_goals
      obtain ⟨g, gb, go, sb, so, hw⟩ := pk
      have hl := N_len gb.1 go.1
      have g11 := g.1
      have hon := go.1
      have hwalk := walk_way g.2 gb go hw
      have hwl := wayL_len (N rx bz oz)
      -- due
      refine ⟨_, rfl, y1, _, rfl, .inl (SqL.of k1), fun x1 u1 => ?_⟩
      have t1 := same_upd (o := .lst (rx.map V.int)) u1
      refine ⟨_, rfl, y2, _, rfl, .inl (SqL.of (t1 _ _ k2)), fun x2 u2 => ?_⟩
      have t2 := same_upd (o := .lst (bz.map V.int)) u2
      refine ⟨_, rfl, y3, _, rfl, .inl (SqL.of (t2 _ _ (t1 _ _ k3))), fun x3 u3 => ?_⟩
      have t3 := same_upd (o := .lst (oz.map V.int)) u3
      refine ⟨x1, x2, x3, rx, bz, oz, rfl, SqL.of (t3 _ _ (t2 _ _ upd_same)), SqL.of (t3 _ _ upd_same), SqL.of upd_same, Two.good g gb go sb so ⟨fun _ H5 p5 s5 n5 e5 => ?_, fun z => absurd hw z⟩⟩
      have s05 := ((t1.trans t2).trans t3).trans s5
      have k1 := s05 _ _ k1
      have k2 := s05 _ _ k2
      have k3 := s05 _ _ k3
      clear t1 t2 t3 s5 s05
      -- many
      refine ⟨_, rfl, p5, rfl, ⟨_, SqL.of e5⟩, fun T hT => ?_⟩
      refine lc_list (K := K) (a := p5) (xs := (N rx bz oz).map V.int) (Gr H5 T (((N rx bz oz).map abs').map V.int)) (Gr.zero _ hT) (fun i H' _ gr => gr.1.seq (SqL.of e5)) ?_ ?_
      · rintro i x H' hx gr
        obtain ⟨z, hz, rfl⟩ := get_map hx
        refine ⟨rfl, _, rfl, z, rfl, _, gr.step hT (by rw [List.length_map, List.length_map]; omega) (map_get (z := abs' z) ?_) (Same.refl _)⟩
        rw [List.getElem?_map, hz]
        rfl
      intro H6 gr
      have w5 := gr.done (by rw [List.length_map, List.length_map, List.length_map]; exact Nat.le_refl _)
      have k1 := gr.1 _ _ k1
      have k2 := gr.1 _ _ k2
      have k3 := gr.1 _ _ k3
      have k5 := gr.1 _ _ e5
      clear gr e5
      refine ⟨T, _, rfl, SqL.of w5, ?_⟩
      clear w5
      have hNa : Nabs rx bz oz = ((N rx bz oz).map abs').sum := rfl
      refine ⟨_, rfl, _, _, rfl, rfl, _, rfl, ite2 (fun e => ?_) (fun e => ?_)⟩
      · have e' := of_decide_eq_true e
        refine ⟨_, rfl, y1, _, rfl, .inl (SqL.of k1), fun x4 u1 => ?_⟩
        have t1 := same_upd (o := .lst (rx.map V.int)) u1
        refine ⟨_, rfl, y2, _, rfl, .inl (SqL.of (t1 _ _ k2)), fun x5 u2 => ?_⟩
        have t2 := same_upd (o := .lst (bz.map V.int)) u2
        refine ⟨_, rfl, y3, _, rfl, .inl (SqL.of (t2 _ _ (t1 _ _ k3))), fun x6 u3 => ?_⟩
        have t3 := same_upd (o := .lst (oz.map V.int)) u3
        exact ⟨x4, x5, x6, rx, bz, oz, rfl, SqL.of (t3 _ _ (t2 _ _ upd_same)), SqL.of (t3 _ _ upd_same), SqL.of upd_same, g, gb, go, sb, so, hw, e', fun H' _ => q H'⟩
      · have e' : ¬ 2000 < ((N rx bz oz).map abs').sum := fun z => e (decide_eq_true z)
        refine ⟨_, rfl, y1, _, rfl, .inl (SqL.of k1), fun x4 u1 => ?_⟩
        have t1 := same_upd (o := .lst (rx.map V.int)) u1
        refine ⟨_, rfl, y2, _, rfl, .inl (SqL.of (t1 _ _ k2)), fun x5 u2 => ?_⟩
        have t2 := same_upd (o := .lst (bz.map V.int)) u2
        refine ⟨_, rfl, y3, _, rfl, .inl (SqL.of (t2 _ _ (t1 _ _ k3))), fun x6 u3 => ?_⟩
        have t3 := same_upd (o := .lst (oz.map V.int)) u3
        refine ⟨by show 3 ≤ sizeLine; decide, fun p6 n6 => ?_⟩
        have t5 := same_upd (o := .lst [V.ref x4, V.ref x5, V.ref x6]) n6
        have t := ((t1.trans t2).trans t3).trans t5
        have i1 := t _ _ k1
        have i2 := t _ _ k2
        have i3 := t _ _ k3
        have i5 := t _ _ k5
        have j1 := t5 _ _ (t3 _ _ (t2 _ _ (upd_same (H := H6) (a := x4) (o := .lst (rx.map V.int)))))
        have j2 := t5 _ _ (t3 _ _ (upd_same (H := upd H6 x4 (.lst (rx.map V.int))) (a := x5) (o := .lst (bz.map V.int))))
        have j3 := t5 _ _ (upd_same (H := upd (upd H6 x4 (.lst (rx.map V.int))) x5 (.lst (bz.map V.int))) (a := x6) (o := .lst (oz.map V.int)))
        have j6 := upd_same (H := upd (upd (upd H6 x4 (.lst (rx.map V.int))) x5 (.lst (bz.map V.int))) x6 (.lst (oz.map V.int))) (a := p6) (o := .lst [V.ref x4, V.ref x5, V.ref x6])
        generalize upd (upd (upd (upd H6 x4 (.lst (rx.map V.int))) x5 (.lst (bz.map V.int))) x6 (.lst (oz.map V.int))) p6 (.lst [V.ref x4, V.ref x5, V.ref x6]) = H7 at i1 i2 i3 i5 j1 j2 j3 j6
        clear k1 k2 k3 k5 t1 t2 t3 t5 t
        -- steps
        refine ⟨_, rfl, p6, _, 0, _, rfl, rfl, SqL.of j6, rfl, _, rfl, p6, _, 1, _, rfl, rfl, SqL.of j6, rfl, _, rfl, p6, _, 2, _, rfl, rfl, SqL.of j6, rfl, ?_⟩
        refine ⟨x4, x5, x6, rx, bz, oz, rfl, SqL.of j1, SqL.of j2, SqL.of j3, Two.good g gb go sb so ⟨fun _ => ⟨fun _ H8 p8 ts8 s8 n8 e8 h8 => ?_, fun z => absurd z e'⟩, fun z => absurd hw z⟩⟩
        have hl8 := h8.len
        have i1 := s8 _ _ i1
        have i2 := s8 _ _ i2
        have i3 := s8 _ _ i3
        have i5 := s8 _ _ i5
        have j1 := s8 _ _ j1
        have j2 := s8 _ _ j2
        have j3 := s8 _ _ j3
        have j6 := s8 _ _ j6
        clear s8
        -- left
        refine ⟨_, rfl, p5, _, rfl, .inl (SqL.of i5), fun p9 n9 => ?_⟩
        have t9 := same_upd (o := .lst ((N rx bz oz).map V.int)) n9
        have m9 := upd_same (H := H8) (a := p9) (o := .lst ((N rx bz oz).map V.int))
        have d1 : y1 ≠ p9 := ne_of_none i1 n9
        have d2 : y2 ≠ p9 := ne_of_none i2 n9
        have d3 : y3 ≠ p9 := ne_of_none i3 n9
        have d5 : p5 ≠ p9 := ne_of_none i5 n9
        have d8 : p8 ≠ p9 := ne_of_none e8 n9
        have i1 := t9 _ _ i1
        have i2 := t9 _ _ i2
        have i3 := t9 _ _ i3
        have i5 := t9 _ _ i5
        have j1 := t9 _ _ j1
        have j2 := t9 _ _ j2
        have j3 := t9 _ _ j3
        have j6 := t9 _ _ j6
        have e8 := t9 _ _ e8
        have h8 := h8.same t9
        generalize upd H8 p9 (.lst ((N rx bz oz).map V.int)) = H9 at i1 i2 i3 i5 j1 j2 j3 j6 e8 h8 m9
        clear t9
        refine ⟨_, rfl, _, rfl, _, rfl, _, rfl, by show 3 ≤ sizeLine; decide, fun x7 y7 => ?_⟩
        have t7 := same_upd (o := .lst [V.ref y1, V.ref y2, V.ref y3]) y7
        refine ⟨_, _, dp_L3 (SqL.of (t7 _ _ j6)) (SqL.of (t7 _ _ j1)) (SqL.of (t7 _ _ j2)) (SqL.of (t7 _ _ j3)), dp_L3 (SqL.of upd_same) (SqL.of (t7 _ _ i1)) (SqL.of (t7 _ _ i2)) (SqL.of (t7 _ _ i3)), shaped_dLL _, shaped_dLL _, _, rfl, ite_f (by rw [eqv_dLL, decide_eq_true rfl]; rfl) ?_⟩
        have i1 := t7 _ _ i1
        have i2 := t7 _ _ i2
        have i3 := t7 _ _ i3
        have i5 := t7 _ _ i5
        have e8 := t7 _ _ e8
        have m9 := t7 _ _ m9
        have h8 := h8.same t7
        generalize upd H9 x7 (.lst [V.ref y1, V.ref y2, V.ref y3]) = H10 at i1 i2 i3 i5 e8 h8 m9
        clear t7 j1 j2 j3 j6
        refine ⟨_, rfl, _, _, .type "list", _, true, rfl, .ty _, .base (.lst e8), kit_ty (by decide +kernel), _, rfl, ite_f rfl ?_⟩
        refine ⟨_, rfl, p8, _, rfl, .inl (SqL.of e8), _, rfl, rfl, _, rfl, ite_f ?_ ?_⟩
        · rw [List.length_map, hl8, hwl]
          simp
        refine ⟨_, rfl, _, rfl, _, rfl, _, rfl, y1, y2, p8, p9, rx, bz, _, _, _, ts8, _, rfl, i1, i2, e8, h8, m9, d1, d2, d8, g, gb, hl, hwalk, fun H11 p11 fr n11 e11 e9 => ?_⟩
        refine ⟨_, rfl, p11, y3, oz, rfl, e11, SqL.of (fr _ _ d3 i3), by omega, _, rfl, ite_f rfl ?_⟩
        have i5 := fr _ _ d5 i5
        refine ⟨_, rfl, _, rfl, p5, rfl, ⟨_, SqL.of i5⟩, fun T2 hT2 => ?_⟩
        refine lc_list (K := K) (a := p5) (xs := (N rx bz oz).map V.int) (Gr H11 T2 (((N rx bz oz).map fun _ => (0 : Int)).map V.int)) (Gr.zero _ hT2) (fun i H' _ gr => gr.1.seq (SqL.of i5)) ?_ ?_
        · rintro i x H' hx gr
          obtain ⟨z, hz, rfl⟩ := get_map hx
          refine ⟨rfl, _, gr.step hT2 (by rw [List.length_map, List.length_map]; omega) (map_get (z := 0) ?_) (Same.refl _)⟩
          rw [List.getElem?_map, hz]
          rfl
        intro H12 gr
        have w5 := gr.done (by rw [List.length_map, List.length_map, List.length_map]; exact Nat.le_refl _)
        have e0 : (N rx bz oz).map (fun _ => (0 : Int)) = tab rx.length fun _ => 0 := by
          refine List.ext_getElem? fun M => ?_
          by_cases hM : M < rx.length
          · rw [tab_get hM, List.getElem?_map, List.getElem?_eq_getElem (by omega)]
            rfl
          · rw [List.getElem?_eq_none (by rw [List.length_map]; omega), List.getElem?_eq_none (by rw [tab_len]; omega)]
        rw [e0] at w5
        refine ⟨_, _, dp_L (SqL.of (gr.1 _ _ e9)), dp_L (SqL.of w5), shaped_dL _, shaped_dL _, ?_⟩
        rw [eqv_dL, decide_eq_true rfl]
        exact q _
end
end CB
namespace CB
open PySem PySem.Spec PyProof.Rows L2
theorem all_mk {l : PySem.W.OpenLaw} {w : World} {K : PySem.W.Frag} {h : Heap} {mg : Str → Option Value} {fa : Addr} (X : K.In h) (G : h.Ns mainGlobals mg) (hfa : mg "law" = some (.ref fa))
    {t_MOST : Tok}
    {t_MOST_STEPS : Tok}
    {C_NoFrame : Addr}
    {C_NoBoard : Addr}
    {C_NoNumber : Addr}
    {C_NoStep : Addr}
    {C_NoWay : Addr}
    {C_TooLong : Addr}
    {C_NoLess : Addr}
    {C_NoNote : Addr}
    {C_BoardError : Addr}
    {f_asked_frame : Addr} {od_asked_frame an_asked_frame : Option Addr} {sl_asked_frame : Array (Option Value)} {oc_asked_frame kV_asked_frame dc_asked_frame pm_asked_frame cd_asked_frame ct_asked_frame : Value}
    {f_asked_board : Addr} {od_asked_board an_asked_board : Option Addr} {sl_asked_board : Array (Option Value)} {oc_asked_board kV_asked_board dc_asked_board pm_asked_board cd_asked_board ct_asked_board : Value}
    {f_worths : Addr} {od_worths an_worths : Option Addr} {sl_worths : Array (Option Value)} {oc_worths kV_worths dc_worths pm_worths cd_worths ct_worths : Value}
    {f_worth : Addr} {od_worth an_worth : Option Addr} {sl_worth : Array (Option Value)} {oc_worth kV_worth dc_worth pm_worth cd_worth ct_worth : Value}
    {f_raisings : Addr} {od_raisings an_raisings : Option Addr} {sl_raisings : Array (Option Value)} {oc_raisings kV_raisings dc_raisings pm_raisings cd_raisings ct_raisings : Value}
    {f_net : Addr} {od_net an_net : Option Addr} {sl_net : Array (Option Value)} {oc_net kV_net dc_net pm_net cd_net ct_net : Value}
    {f_fewest : Addr} {od_fewest an_fewest : Option Addr} {sl_fewest : Array (Option Value)} {oc_fewest kV_fewest dc_fewest pm_fewest cd_fewest ct_fewest : Value}
    {f_way : Addr} {od_way an_way : Option Addr} {sl_way : Array (Option Value)} {oc_way kV_way dc_way pm_way cd_way ct_way : Value}
    {f_law_cell_at : Addr} {od_law_cell_at an_law_cell_at : Option Addr} {sl_law_cell_at : Array (Option Value)} {oc_law_cell_at kV_law_cell_at dc_law_cell_at pm_law_cell_at cd_law_cell_at ct_law_cell_at : Value}
    {f_law_whole : Addr} {od_law_whole an_law_whole : Option Addr} {sl_law_whole : Array (Option Value)} {oc_law_whole kV_law_whole dc_law_whole pm_law_whole cd_law_whole ct_law_whole : Value}
    {f_law_worth : Addr} {od_law_worth an_law_worth : Option Addr} {sl_law_worth : Array (Option Value)} {oc_law_worth kV_law_worth dc_law_worth pm_law_worth cd_law_worth ct_law_worth : Value}
    {f_law_digits : Addr} {od_law_digits an_law_digits : Option Addr} {sl_law_digits : Array (Option Value)} {oc_law_digits kV_law_digits dc_law_digits pm_law_digits cd_law_digits ct_law_digits : Value}
    {f_law_spread : Addr} {od_law_spread an_law_spread : Option Addr} {sl_law_spread : Array (Option Value)} {oc_law_spread kV_law_spread dc_law_spread pm_law_spread cd_law_spread ct_law_spread : Value}
    {f_law_is_list : Addr} {od_law_is_list an_law_is_list : Option Addr} {sl_law_is_list : Array (Option Value)} {oc_law_is_list kV_law_is_list dc_law_is_list pm_law_is_list cd_law_is_list ct_law_is_list : Value}
    {f_law_word_of : Addr} {od_law_word_of an_law_word_of : Option Addr} {sl_law_word_of : Array (Option Value)} {oc_law_word_of kV_law_word_of dc_law_word_of pm_law_word_of cd_law_word_of ct_law_word_of : Value}
    {f_law_pair_by : Addr} {od_law_pair_by an_law_pair_by : Option Addr} {sl_law_pair_by : Array (Option Value)} {oc_law_pair_by kV_law_pair_by dc_law_pair_by pm_law_pair_by cd_law_pair_by ct_law_pair_by : Value}
    {f_law_walked : Addr} {od_law_walked an_law_walked : Option Addr} {sl_law_walked : Array (Option Value)} {oc_law_walked kV_law_walked dc_law_walked pm_law_walked cd_law_walked ct_law_walked : Value}
    {f_law_refused : Addr} {od_law_refused an_law_refused : Option Addr} {sl_law_refused : Array (Option Value)} {oc_law_refused kV_law_refused dc_law_refused pm_law_refused cd_law_refused ct_law_refused : Value}
    {f_law : Addr} {od_law an_law : Option Addr} {sl_law : Array (Option Value)} {oc_law kV_law dc_law pm_law cd_law ct_law : Value}
    (z_len : PySem.W.nsIn K mainGlobals "len" = some none)
    (z_list : PySem.W.nsIn K mainGlobals "list" = some none)
    (z_range : PySem.W.nsIn K mainGlobals "range" = some none)
    (z_isinstance : PySem.W.nsIn K mainGlobals "isinstance" = some none)
    (z_zip : PySem.W.nsIn K mainGlobals "zip" = some none)
    (z_reversed : PySem.W.nsIn K mainGlobals "reversed" = some none)
    (z_sum : PySem.W.nsIn K mainGlobals "sum" = some none)
    (z_all : PySem.W.nsIn K mainGlobals "all" = some none)
    (z_abs : PySem.W.nsIn K mainGlobals "abs" = some none)
    (z_max : PySem.W.nsIn K mainGlobals "max" = some none)
    (z_min : PySem.W.nsIn K mainGlobals "min" = some none)
    (z_str : PySem.W.nsIn K mainGlobals "str" = some none)
    (z_int : PySem.W.nsIn K mainGlobals "int" = some none)
    (z_bool : PySem.W.nsIn K mainGlobals "bool" = some none)
    (z_tuple : PySem.W.nsIn K mainGlobals "tuple" = some none)
    (z_ValueError : PySem.W.nsIn K mainGlobals "ValueError" = some none)
    (g_MOST : PySem.W.nsIn K mainGlobals "MOST" = some (some (.int 11 t_MOST)))
    (g_MOST_STEPS : PySem.W.nsIn K mainGlobals "MOST_STEPS" = some (some (.int 2000 t_MOST_STEPS)))
    (g_NoFrame : PySem.W.nsIn K mainGlobals "NoFrame" = some (some (.ref C_NoFrame)))
    (x_NoFrame : PySem.W.excIn K C_NoFrame [.type "ValueError", .type "Exception", .type "BaseException", .type "object"] "ValueError.__new__" = true)
    (k_NoFrame : PySem.W.keepIn K (.ref C_NoFrame) = true)
    (b_NoFrame : PySem.W.subIn K (.ref C_NoFrame) (.type "BaseException") = some true)
    (t_NoFrame : PySem.W.typeIn K (.ref C_NoFrame) = some (.type "type"))
    (g_NoBoard : PySem.W.nsIn K mainGlobals "NoBoard" = some (some (.ref C_NoBoard)))
    (x_NoBoard : PySem.W.excIn K C_NoBoard [.type "ValueError", .type "Exception", .type "BaseException", .type "object"] "ValueError.__new__" = true)
    (k_NoBoard : PySem.W.keepIn K (.ref C_NoBoard) = true)
    (b_NoBoard : PySem.W.subIn K (.ref C_NoBoard) (.type "BaseException") = some true)
    (t_NoBoard : PySem.W.typeIn K (.ref C_NoBoard) = some (.type "type"))
    (g_NoNumber : PySem.W.nsIn K mainGlobals "NoNumber" = some (some (.ref C_NoNumber)))
    (x_NoNumber : PySem.W.excIn K C_NoNumber [.type "ValueError", .type "Exception", .type "BaseException", .type "object"] "ValueError.__new__" = true)
    (k_NoNumber : PySem.W.keepIn K (.ref C_NoNumber) = true)
    (b_NoNumber : PySem.W.subIn K (.ref C_NoNumber) (.type "BaseException") = some true)
    (t_NoNumber : PySem.W.typeIn K (.ref C_NoNumber) = some (.type "type"))
    (g_NoStep : PySem.W.nsIn K mainGlobals "NoStep" = some (some (.ref C_NoStep)))
    (x_NoStep : PySem.W.excIn K C_NoStep [.type "ValueError", .type "Exception", .type "BaseException", .type "object"] "ValueError.__new__" = true)
    (k_NoStep : PySem.W.keepIn K (.ref C_NoStep) = true)
    (b_NoStep : PySem.W.subIn K (.ref C_NoStep) (.type "BaseException") = some true)
    (t_NoStep : PySem.W.typeIn K (.ref C_NoStep) = some (.type "type"))
    (g_NoWay : PySem.W.nsIn K mainGlobals "NoWay" = some (some (.ref C_NoWay)))
    (x_NoWay : PySem.W.excIn K C_NoWay [.type "ValueError", .type "Exception", .type "BaseException", .type "object"] "ValueError.__new__" = true)
    (k_NoWay : PySem.W.keepIn K (.ref C_NoWay) = true)
    (b_NoWay : PySem.W.subIn K (.ref C_NoWay) (.type "BaseException") = some true)
    (t_NoWay : PySem.W.typeIn K (.ref C_NoWay) = some (.type "type"))
    (g_TooLong : PySem.W.nsIn K mainGlobals "TooLong" = some (some (.ref C_TooLong)))
    (x_TooLong : PySem.W.excIn K C_TooLong [.type "ValueError", .type "Exception", .type "BaseException", .type "object"] "ValueError.__new__" = true)
    (k_TooLong : PySem.W.keepIn K (.ref C_TooLong) = true)
    (b_TooLong : PySem.W.subIn K (.ref C_TooLong) (.type "BaseException") = some true)
    (t_TooLong : PySem.W.typeIn K (.ref C_TooLong) = some (.type "type"))
    (g_NoLess : PySem.W.nsIn K mainGlobals "NoLess" = some (some (.ref C_NoLess)))
    (x_NoLess : PySem.W.excIn K C_NoLess [.type "ValueError", .type "Exception", .type "BaseException", .type "object"] "ValueError.__new__" = true)
    (k_NoLess : PySem.W.keepIn K (.ref C_NoLess) = true)
    (b_NoLess : PySem.W.subIn K (.ref C_NoLess) (.type "BaseException") = some true)
    (t_NoLess : PySem.W.typeIn K (.ref C_NoLess) = some (.type "type"))
    (g_NoNote : PySem.W.nsIn K mainGlobals "NoNote" = some (some (.ref C_NoNote)))
    (x_NoNote : PySem.W.excIn K C_NoNote [.type "ValueError", .type "Exception", .type "BaseException", .type "object"] "ValueError.__new__" = true)
    (k_NoNote : PySem.W.keepIn K (.ref C_NoNote) = true)
    (b_NoNote : PySem.W.subIn K (.ref C_NoNote) (.type "BaseException") = some true)
    (t_NoNote : PySem.W.typeIn K (.ref C_NoNote) = some (.type "type"))
    (g_BoardError : PySem.W.nsIn K mainGlobals "BoardError" = some (some (.ref C_BoardError)))
    (xn_all : PySem.W.specialIn K (.builtin "object.__class__") "__get__" = some (some (.builtin "getset_descriptor.__get__")))
    (xt_all : PySem.W.takesIn K (.builtin "object.__class__") = some true)
    (xg_TooLong : PySem.W.findIn K (.ref C_TooLong) "__getattribute__" = some (some (.builtin "BaseException.__getattribute__")))
    (xk_TooLong : PySem.W.findIn K (.ref C_TooLong) "__getattr__" = some none)
    (xd_TooLong : PySem.W.hasDictIn K C_TooLong = true)
    (xa_TooLong : PySem.W.findIn K (.ref C_TooLong) "__class__" = some (some (.builtin "object.__class__")))
    (xm_TooLong : PySem.W.mroIn K C_TooLong (.type "object") = some true)
    (q0_TooLong : PySem.W.kitOne K (.ref C_TooLong) (.ref C_NoFrame) = some false)
    (q1_TooLong : PySem.W.kitOne K (.ref C_TooLong) (.ref C_NoBoard) = some false)
    (q2_TooLong : PySem.W.kitOne K (.ref C_TooLong) (.ref C_NoNumber) = some false)
    (q3_TooLong : PySem.W.kitOne K (.ref C_TooLong) (.ref C_NoStep) = some false)
    (q4_TooLong : PySem.W.kitOne K (.ref C_TooLong) (.ref C_NoWay) = some false)
    (q5_TooLong : PySem.W.kitOne K (.ref C_TooLong) (.ref C_TooLong) = some true)
    (q6_TooLong : PySem.W.kitOne K (.ref C_TooLong) (.ref C_NoLess) = some false)
    (q7_TooLong : PySem.W.kitOne K (.ref C_TooLong) (.ref C_NoNote) = some false)
    (qv_TooLong : PySem.W.kitOne K (.ref C_TooLong) (.type "ValueError") = some true)
    (qb_TooLong : PySem.W.exmOne K (.ref C_TooLong) (.ref C_BoardError) = some true)
    (a_asked_frame : PySem.W.nsIn K mainGlobals "asked_frame" = some (some (.ref f_asked_frame)))
    (l_asked_frame : K.lookup f_asked_frame = some ⟨oc_asked_frame, od_asked_frame, .func (PySem.W.fnOf "asked_frame" "asked_frame" (defArgs s_asked_frame) (defBody s_asked_frame) (defScope s_asked_frame) .none kV_asked_frame dc_asked_frame pm_asked_frame an_asked_frame cd_asked_frame ct_asked_frame), sl_asked_frame⟩)
    (c_asked_frame : PySem.W.codeIn K cd_asked_frame "asked_frame" = true)
    (p_asked_frame : PySem.W.keepIn K (.ref f_asked_frame) = true)
    (a_asked_board : PySem.W.nsIn K mainGlobals "asked_board" = some (some (.ref f_asked_board)))
    (l_asked_board : K.lookup f_asked_board = some ⟨oc_asked_board, od_asked_board, .func (PySem.W.fnOf "asked_board" "asked_board" (defArgs s_asked_board) (defBody s_asked_board) (defScope s_asked_board) .none kV_asked_board dc_asked_board pm_asked_board an_asked_board cd_asked_board ct_asked_board), sl_asked_board⟩)
    (c_asked_board : PySem.W.codeIn K cd_asked_board "asked_board" = true)
    (p_asked_board : PySem.W.keepIn K (.ref f_asked_board) = true)
    (a_worths : PySem.W.nsIn K mainGlobals "worths" = some (some (.ref f_worths)))
    (l_worths : K.lookup f_worths = some ⟨oc_worths, od_worths, .func (PySem.W.fnOf "worths" "worths" (defArgs s_worths) (defBody s_worths) (defScope s_worths) .none kV_worths dc_worths pm_worths an_worths cd_worths ct_worths), sl_worths⟩)
    (c_worths : PySem.W.codeIn K cd_worths "worths" = true)
    (p_worths : PySem.W.keepIn K (.ref f_worths) = true)
    (a_worth : PySem.W.nsIn K mainGlobals "worth" = some (some (.ref f_worth)))
    (l_worth : K.lookup f_worth = some ⟨oc_worth, od_worth, .func (PySem.W.fnOf "worth" "worth" (defArgs s_worth) (defBody s_worth) (defScope s_worth) .none kV_worth dc_worth pm_worth an_worth cd_worth ct_worth), sl_worth⟩)
    (c_worth : PySem.W.codeIn K cd_worth "worth" = true)
    (p_worth : PySem.W.keepIn K (.ref f_worth) = true)
    (a_raisings : PySem.W.nsIn K mainGlobals "raisings" = some (some (.ref f_raisings)))
    (l_raisings : K.lookup f_raisings = some ⟨oc_raisings, od_raisings, .func (PySem.W.fnOf "raisings" "raisings" (defArgs s_raisings) (defBody s_raisings) (defScope s_raisings) .none kV_raisings dc_raisings pm_raisings an_raisings cd_raisings ct_raisings), sl_raisings⟩)
    (c_raisings : PySem.W.codeIn K cd_raisings "raisings" = true)
    (p_raisings : PySem.W.keepIn K (.ref f_raisings) = true)
    (a_net : PySem.W.nsIn K mainGlobals "net" = some (some (.ref f_net)))
    (l_net : K.lookup f_net = some ⟨oc_net, od_net, .func (PySem.W.fnOf "net" "net" (defArgs s_net) (defBody s_net) (defScope s_net) .none kV_net dc_net pm_net an_net cd_net ct_net), sl_net⟩)
    (c_net : PySem.W.codeIn K cd_net "net" = true)
    (p_net : PySem.W.keepIn K (.ref f_net) = true)
    (a_fewest : PySem.W.nsIn K mainGlobals "fewest" = some (some (.ref f_fewest)))
    (l_fewest : K.lookup f_fewest = some ⟨oc_fewest, od_fewest, .func (PySem.W.fnOf "fewest" "fewest" (defArgs s_fewest) (defBody s_fewest) (defScope s_fewest) .none kV_fewest dc_fewest pm_fewest an_fewest cd_fewest ct_fewest), sl_fewest⟩)
    (c_fewest : PySem.W.codeIn K cd_fewest "fewest" = true)
    (p_fewest : PySem.W.keepIn K (.ref f_fewest) = true)
    (a_way : PySem.W.nsIn K mainGlobals "way" = some (some (.ref f_way)))
    (l_way : K.lookup f_way = some ⟨oc_way, od_way, .func (PySem.W.fnOf "way" "way" (defArgs s_way) (defBody s_way) (defScope s_way) .none kV_way dc_way pm_way an_way cd_way ct_way), sl_way⟩)
    (c_way : PySem.W.codeIn K cd_way "way" = true)
    (p_way : PySem.W.keepIn K (.ref f_way) = true)
    (a_law_cell_at : PySem.W.nsIn K mainGlobals "_law_cell_at" = some (some (.ref f_law_cell_at)))
    (l_law_cell_at : K.lookup f_law_cell_at = some ⟨oc_law_cell_at, od_law_cell_at, .func (PySem.W.fnOf "_law_cell_at" "_law_cell_at" (defArgs s_law_cell_at) (defBody s_law_cell_at) (defScope s_law_cell_at) .none kV_law_cell_at dc_law_cell_at pm_law_cell_at an_law_cell_at cd_law_cell_at ct_law_cell_at), sl_law_cell_at⟩)
    (c_law_cell_at : PySem.W.codeIn K cd_law_cell_at "_law_cell_at" = true)
    (p_law_cell_at : PySem.W.keepIn K (.ref f_law_cell_at) = true)
    (a_law_whole : PySem.W.nsIn K mainGlobals "_law_whole" = some (some (.ref f_law_whole)))
    (l_law_whole : K.lookup f_law_whole = some ⟨oc_law_whole, od_law_whole, .func (PySem.W.fnOf "_law_whole" "_law_whole" (defArgs s_law_whole) (defBody s_law_whole) (defScope s_law_whole) .none kV_law_whole dc_law_whole pm_law_whole an_law_whole cd_law_whole ct_law_whole), sl_law_whole⟩)
    (c_law_whole : PySem.W.codeIn K cd_law_whole "_law_whole" = true)
    (p_law_whole : PySem.W.keepIn K (.ref f_law_whole) = true)
    (a_law_worth : PySem.W.nsIn K mainGlobals "_law_worth" = some (some (.ref f_law_worth)))
    (l_law_worth : K.lookup f_law_worth = some ⟨oc_law_worth, od_law_worth, .func (PySem.W.fnOf "_law_worth" "_law_worth" (defArgs s_law_worth) (defBody s_law_worth) (defScope s_law_worth) .none kV_law_worth dc_law_worth pm_law_worth an_law_worth cd_law_worth ct_law_worth), sl_law_worth⟩)
    (c_law_worth : PySem.W.codeIn K cd_law_worth "_law_worth" = true)
    (p_law_worth : PySem.W.keepIn K (.ref f_law_worth) = true)
    (a_law_digits : PySem.W.nsIn K mainGlobals "_law_digits" = some (some (.ref f_law_digits)))
    (l_law_digits : K.lookup f_law_digits = some ⟨oc_law_digits, od_law_digits, .func (PySem.W.fnOf "_law_digits" "_law_digits" (defArgs s_law_digits) (defBody s_law_digits) (defScope s_law_digits) .none kV_law_digits dc_law_digits pm_law_digits an_law_digits cd_law_digits ct_law_digits), sl_law_digits⟩)
    (c_law_digits : PySem.W.codeIn K cd_law_digits "_law_digits" = true)
    (p_law_digits : PySem.W.keepIn K (.ref f_law_digits) = true)
    (a_law_spread : PySem.W.nsIn K mainGlobals "_law_spread" = some (some (.ref f_law_spread)))
    (l_law_spread : K.lookup f_law_spread = some ⟨oc_law_spread, od_law_spread, .func (PySem.W.fnOf "_law_spread" "_law_spread" (defArgs s_law_spread) (defBody s_law_spread) (defScope s_law_spread) .none kV_law_spread dc_law_spread pm_law_spread an_law_spread cd_law_spread ct_law_spread), sl_law_spread⟩)
    (c_law_spread : PySem.W.codeIn K cd_law_spread "_law_spread" = true)
    (p_law_spread : PySem.W.keepIn K (.ref f_law_spread) = true)
    (a_law_is_list : PySem.W.nsIn K mainGlobals "_law_is_list" = some (some (.ref f_law_is_list)))
    (l_law_is_list : K.lookup f_law_is_list = some ⟨oc_law_is_list, od_law_is_list, .func (PySem.W.fnOf "_law_is_list" "_law_is_list" (defArgs s_law_is_list) (defBody s_law_is_list) (defScope s_law_is_list) .none kV_law_is_list dc_law_is_list pm_law_is_list an_law_is_list cd_law_is_list ct_law_is_list), sl_law_is_list⟩)
    (c_law_is_list : PySem.W.codeIn K cd_law_is_list "_law_is_list" = true)
    (p_law_is_list : PySem.W.keepIn K (.ref f_law_is_list) = true)
    (a_law_word_of : PySem.W.nsIn K mainGlobals "_law_word_of" = some (some (.ref f_law_word_of)))
    (l_law_word_of : K.lookup f_law_word_of = some ⟨oc_law_word_of, od_law_word_of, .func (PySem.W.fnOf "_law_word_of" "_law_word_of" (defArgs s_law_word_of) (defBody s_law_word_of) (defScope s_law_word_of) .none kV_law_word_of dc_law_word_of pm_law_word_of an_law_word_of cd_law_word_of ct_law_word_of), sl_law_word_of⟩)
    (c_law_word_of : PySem.W.codeIn K cd_law_word_of "_law_word_of" = true)
    (p_law_word_of : PySem.W.keepIn K (.ref f_law_word_of) = true)
    (a_law_pair_by : PySem.W.nsIn K mainGlobals "_law_pair_by" = some (some (.ref f_law_pair_by)))
    (l_law_pair_by : K.lookup f_law_pair_by = some ⟨oc_law_pair_by, od_law_pair_by, .func (PySem.W.fnOf "_law_pair_by" "_law_pair_by" (defArgs s_law_pair_by) (defBody s_law_pair_by) (defScope s_law_pair_by) .none kV_law_pair_by dc_law_pair_by pm_law_pair_by an_law_pair_by cd_law_pair_by ct_law_pair_by), sl_law_pair_by⟩)
    (c_law_pair_by : PySem.W.codeIn K cd_law_pair_by "_law_pair_by" = true)
    (p_law_pair_by : PySem.W.keepIn K (.ref f_law_pair_by) = true)
    (a_law_walked : PySem.W.nsIn K mainGlobals "_law_walked" = some (some (.ref f_law_walked)))
    (l_law_walked : K.lookup f_law_walked = some ⟨oc_law_walked, od_law_walked, .func (PySem.W.fnOf "_law_walked" "_law_walked" (defArgs s_law_walked) (defBody s_law_walked) (defScope s_law_walked) .none kV_law_walked dc_law_walked pm_law_walked an_law_walked cd_law_walked ct_law_walked), sl_law_walked⟩)
    (c_law_walked : PySem.W.codeIn K cd_law_walked "_law_walked" = true)
    (p_law_walked : PySem.W.keepIn K (.ref f_law_walked) = true)
    (a_law_refused : PySem.W.nsIn K mainGlobals "_law_refused" = some (some (.ref f_law_refused)))
    (l_law_refused : K.lookup f_law_refused = some ⟨oc_law_refused, od_law_refused, .func (PySem.W.fnOf "_law_refused" "_law_refused" (defArgs s_law_refused) (defBody s_law_refused) (defScope s_law_refused) .none kV_law_refused dc_law_refused pm_law_refused an_law_refused cd_law_refused ct_law_refused), sl_law_refused⟩)
    (c_law_refused : PySem.W.codeIn K cd_law_refused "_law_refused" = true)
    (p_law_refused : PySem.W.keepIn K (.ref f_law_refused) = true)
    (a_law : PySem.W.nsIn K mainGlobals "law" = some (some (.ref f_law)))
    (l_law : K.lookup f_law = some ⟨oc_law, od_law, .func (PySem.W.fnOf "law" "law" (defArgs s_law) (defBody s_law) (defScope s_law) .none kV_law dc_law pm_law an_law cd_law ct_law), sl_law⟩)
    (c_law : PySem.W.codeIn K cd_law "law" = true)
    (p_law : PySem.W.keepIn K (.ref f_law) = true) :
    ∃ fd : FuncData, (∀ (s : Shared) (v : Value), BindsTo s fd ⟨[v], []⟩ [("script", v)]) ∧ ∀ base : Heap, K.In base → base.Ns mainGlobals mg → FnOk l.prog w K mg base (L2.CX l.prog w) 8 fa fd ["script"] (sp_law K) := by
  have e := hfa.symm.trans (PySem.W.mg_of X G a_law)
  cases e
  have B : Bi mg := ⟨PySem.W.mg_none_of X G z_len, PySem.W.mg_none_of X G z_list, PySem.W.mg_none_of X G z_range, PySem.W.mg_none_of X G z_isinstance, PySem.W.mg_none_of X G z_zip, PySem.W.mg_none_of X G z_reversed, PySem.W.mg_none_of X G z_sum, PySem.W.mg_none_of X G z_all, PySem.W.mg_none_of X G z_abs, PySem.W.mg_none_of X G z_max, PySem.W.mg_none_of X G z_min, PySem.W.mg_none_of X G z_str, PySem.W.mg_none_of X G z_int, PySem.W.mg_none_of X G z_bool, PySem.W.mg_none_of X G z_tuple, PySem.W.mg_none_of X G z_ValueError⟩
  have m_MOST : ∃ t, mg "MOST" = some (.int 11 t) := ⟨_, PySem.W.mg_of X G g_MOST⟩
  have m_MOST_STEPS : ∃ t, mg "MOST_STEPS" = some (.int 2000 t) := ⟨_, PySem.W.mg_of X G g_MOST_STEPS⟩
  have e_NoFrame : Er K mg "NoFrame" := er_mk (PySem.W.mg_of X G g_NoFrame) x_NoFrame k_NoFrame b_NoFrame t_NoFrame
  have e_NoBoard : Er K mg "NoBoard" := er_mk (PySem.W.mg_of X G g_NoBoard) x_NoBoard k_NoBoard b_NoBoard t_NoBoard
  have e_NoNumber : Er K mg "NoNumber" := er_mk (PySem.W.mg_of X G g_NoNumber) x_NoNumber k_NoNumber b_NoNumber t_NoNumber
  have e_NoStep : Er K mg "NoStep" := er_mk (PySem.W.mg_of X G g_NoStep) x_NoStep k_NoStep b_NoStep t_NoStep
  have e_NoWay : Er K mg "NoWay" := er_mk (PySem.W.mg_of X G g_NoWay) x_NoWay k_NoWay b_NoWay t_NoWay
  have e_TooLong : Er K mg "TooLong" := er_mk (PySem.W.mg_of X G g_TooLong) x_TooLong k_TooLong b_TooLong t_TooLong
  have e_NoLess : Er K mg "NoLess" := er_mk (PySem.W.mg_of X G g_NoLess) x_NoLess k_NoLess b_NoLess t_NoLess
  have e_NoNote : Er K mg "NoNote" := er_mk (PySem.W.mg_of X G g_NoNote) x_NoNote k_NoNote b_NoNote t_NoNote
  have e_BoardError : mg "BoardError" = some (.ref (ErA mg "BoardError")) := er_g (PySem.W.mg_of X G g_BoardError)
  have w_TooLong : Wd K mg (ErA mg "TooLong") 5 := wd_mk (PySem.W.mg_of X G g_TooLong) ⟨xg_TooLong, xk_TooLong, b_TooLong, xd_TooLong, xa_TooLong, xn_all, xt_all, xm_TooLong⟩ (PySem.W.mg_of X G g_NoFrame) (PySem.W.mg_of X G g_NoBoard) (PySem.W.mg_of X G g_NoNumber) (PySem.W.mg_of X G g_NoStep) (PySem.W.mg_of X G g_NoWay) (PySem.W.mg_of X G g_TooLong) (PySem.W.mg_of X G g_NoLess) (PySem.W.mg_of X G g_NoNote) (PySem.W.mg_of X G g_BoardError) q0_TooLong q1_TooLong q2_TooLong q3_TooLong q4_TooLong q5_TooLong q6_TooLong q7_TooLong qv_TooLong qb_TooLong
  have F_asked_frame := fun_mk (st := s_asked_frame) l_asked_frame c_asked_frame p_asked_frame
  have b_asked_frame := F_asked_frame.binds (ps := ["ratios"]) fun _ _ _ _ _ _ us hl => match us, hl with | [_], _ => rfl
  have F_asked_board := fun_mk (st := s_asked_board) l_asked_board c_asked_board p_asked_board
  have b_asked_board := F_asked_board.binds (ps := ["ratios", "board"]) fun _ _ _ _ _ _ us hl => match us, hl with | [_, _], _ => rfl
  have F_worths := fun_mk (st := s_worths) l_worths c_worths p_worths
  have b_worths := F_worths.binds (ps := ["ratios"]) fun _ _ _ _ _ _ us hl => match us, hl with | [_], _ => rfl
  have F_worth := fun_mk (st := s_worth) l_worth c_worth p_worth
  have b_worth := F_worth.binds (ps := ["ratios", "board"]) fun _ _ _ _ _ _ us hl => match us, hl with | [_, _], _ => rfl
  have F_raisings := fun_mk (st := s_raisings) l_raisings c_raisings p_raisings
  have b_raisings := F_raisings.binds (ps := ["ratios", "board"]) fun _ _ _ _ _ _ us hl => match us, hl with | [_, _], _ => rfl
  have F_net := fun_mk (st := s_net) l_net c_net p_net
  have b_net := F_net.binds (ps := ["ratios", "one", "other"]) fun _ _ _ _ _ _ us hl => match us, hl with | [_, _, _], _ => rfl
  have F_fewest := fun_mk (st := s_fewest) l_fewest c_fewest p_fewest
  have b_fewest := F_fewest.binds (ps := ["ratios", "one", "other"]) fun _ _ _ _ _ _ us hl => match us, hl with | [_, _, _], _ => rfl
  have F_way := fun_mk (st := s_way) l_way c_way p_way
  have b_way := F_way.binds (ps := ["ratios", "one", "other"]) fun _ _ _ _ _ _ us hl => match us, hl with | [_, _, _], _ => rfl
  have F_law_cell_at := fun_mk (st := s_law_cell_at) l_law_cell_at c_law_cell_at p_law_cell_at
  have b_law_cell_at := F_law_cell_at.binds (ps := ["script", "k"]) fun _ _ _ _ _ _ us hl => match us, hl with | [_, _], _ => rfl
  have F_law_whole := fun_mk (st := s_law_whole) l_law_whole c_law_whole p_law_whole
  have b_law_whole := F_law_whole.binds (ps := ["found"]) fun _ _ _ _ _ _ us hl => match us, hl with | [_], _ => rfl
  have F_law_worth := fun_mk (st := s_law_worth) l_law_worth c_law_worth p_law_worth
  have b_law_worth := F_law_worth.binds (ps := ["ratios", "board"]) fun _ _ _ _ _ _ us hl => match us, hl with | [_, _], _ => rfl
  have F_law_digits := fun_mk (st := s_law_digits) l_law_digits c_law_digits p_law_digits
  have b_law_digits := F_law_digits.binds (ps := ["ratios", "number"]) fun _ _ _ _ _ _ us hl => match us, hl with | [_, _], _ => rfl
  have F_law_spread := fun_mk (st := s_law_spread) l_law_spread c_law_spread p_law_spread
  have b_law_spread := F_law_spread.binds (ps := ["script", "first", "ratios", "board"]) fun _ _ _ _ _ _ us hl => match us, hl with | [_, _, _, _], _ => rfl
  have F_law_is_list := fun_mk (st := s_law_is_list) l_law_is_list c_law_is_list p_law_is_list
  have b_law_is_list := F_law_is_list.binds (ps := ["found", "due"]) fun _ _ _ _ _ _ us hl => match us, hl with | [_, _], _ => rfl
  have F_law_word_of := fun_mk (st := s_law_word_of) l_law_word_of c_law_word_of p_law_word_of
  have b_law_word_of := F_law_word_of.binds (ps := ["e"]) fun _ _ _ _ _ _ us hl => match us, hl with | [_], _ => rfl
  have F_law_pair_by := fun_mk (st := s_law_pair_by) l_law_pair_by c_law_pair_by p_law_pair_by
  have b_law_pair_by := F_law_pair_by.binds (ps := ["script"]) fun _ _ _ _ _ _ us hl => match us, hl with | [_], _ => rfl
  have F_law_walked := fun_mk (st := s_law_walked) l_law_walked c_law_walked p_law_walked
  have b_law_walked := F_law_walked.binds (ps := ["ratios", "board", "steps", "left"]) fun _ _ _ _ _ _ us hl => match us, hl with | [_, _, _, _], _ => rfl
  have F_law_refused := fun_mk (st := s_law_refused) l_law_refused c_law_refused p_law_refused
  have b_law_refused := F_law_refused.binds (ps := ["ratios", "one", "other"]) fun _ _ _ _ _ _ us hl => match us, hl with | [_, _, _], _ => rfl
  have F_law := fun_mk (st := s_law) l_law c_law p_law
  refine ⟨PySem.W.fnOf "law" "law" (defArgs s_law) (defBody s_law) (defScope s_law) .none kV_law dc_law pm_law an_law cd_law ct_law, fun s v => .of_eq rfl, fun base _ _ => ?_⟩
  have c_asked_frame : Callee l.prog w K mg base 1 "asked_frame" ["ratios"] (sp_asked_frame K mg) := Callee.mk' (ok_asked_frame F_asked_frame B (m_MOST := m_MOST) (e_NoFrame := e_NoFrame)) (PySem.W.mg_of X G a_asked_frame) p_asked_frame b_asked_frame
  have c_asked_board : Callee l.prog w K mg base 2 "asked_board" ["ratios", "board"] (sp_asked_board K mg) := Callee.mk' (ok_asked_board F_asked_board B (e_NoBoard := e_NoBoard) (c_asked_frame := c_asked_frame)) (PySem.W.mg_of X G a_asked_board) p_asked_board b_asked_board
  have c_worths : Callee l.prog w K mg base 2 "worths" ["ratios"] (sp_worths K mg) := Callee.mk' (ok_worths F_worths B (c_asked_frame := c_asked_frame)) (PySem.W.mg_of X G a_worths) p_worths b_worths
  have c_worth : Callee l.prog w K mg base 3 "worth" ["ratios", "board"] (sp_worth K mg) := Callee.mk' (ok_worth F_worth B (c_asked_board := c_asked_board) (c_worths := c_worths)) (PySem.W.mg_of X G a_worth) p_worth b_worth
  have c_raisings : Callee l.prog w K mg base 3 "raisings" ["ratios", "board"] (sp_raisings K mg) := Callee.mk' (ok_raisings F_raisings B (c_asked_board := c_asked_board)) (PySem.W.mg_of X G a_raisings) p_raisings b_raisings
  have c_net : Callee l.prog w K mg base 4 "net" ["ratios", "one", "other"] (sp_net K mg) := Callee.mk' (ok_net F_net B (e_NoWay := e_NoWay) (c_worth := c_worth) (c_raisings := c_raisings)) (PySem.W.mg_of X G a_net) p_net b_net
  have c_fewest : Callee l.prog w K mg base 5 "fewest" ["ratios", "one", "other"] (sp_fewest K mg) := Callee.mk' (ok_fewest F_fewest B (c_net := c_net)) (PySem.W.mg_of X G a_fewest) p_fewest b_fewest
  have c_way : Callee l.prog w K mg base 6 "way" ["ratios", "one", "other"] (sp_way K mg) := Callee.mk' (ok_way F_way B (m_MOST_STEPS := m_MOST_STEPS) (e_TooLong := e_TooLong) (c_net := c_net) (c_fewest := c_fewest)) (PySem.W.mg_of X G a_way) p_way b_way
  have c_law_cell_at : Callee l.prog w K mg base 1 "_law_cell_at" ["script", "k"] (sp_law_cell_at K mg) := Callee.mk' (ok_law_cell_at F_law_cell_at B) (PySem.W.mg_of X G a_law_cell_at) p_law_cell_at b_law_cell_at
  have c_law_whole : Callee l.prog w K mg base 1 "_law_whole" ["found"] (sp_law_whole K mg) := Callee.mk' (ok_law_whole F_law_whole B) (PySem.W.mg_of X G a_law_whole) p_law_whole b_law_whole
  have c_law_worth : Callee l.prog w K mg base 1 "_law_worth" ["ratios", "board"] (sp_law_worth K mg) := Callee.mk' (ok_law_worth F_law_worth B) (PySem.W.mg_of X G a_law_worth) p_law_worth b_law_worth
  have c_law_digits : Callee l.prog w K mg base 1 "_law_digits" ["ratios", "number"] (sp_law_digits K mg) := Callee.mk' (ok_law_digits F_law_digits B) (PySem.W.mg_of X G a_law_digits) p_law_digits b_law_digits
  have c_law_spread : Callee l.prog w K mg base 2 "_law_spread" ["script", "first", "ratios", "board"] (sp_law_spread K mg) := Callee.mk' (ok_law_spread F_law_spread B (c_law_cell_at := c_law_cell_at)) (PySem.W.mg_of X G a_law_spread) p_law_spread b_law_spread
  have c_law_is_list : Callee l.prog w K mg base 2 "_law_is_list" ["found", "due"] (sp_law_is_list K mg) := Callee.mk' (ok_law_is_list F_law_is_list B (c_law_whole := c_law_whole)) (PySem.W.mg_of X G a_law_is_list) p_law_is_list b_law_is_list
  have c_law_word_of : CalleeE l.prog w K mg base 1 "_law_word_of" ["e"] (sp_law_word_of K mg) := CalleeE.mk' (ok_law_word_of F_law_word_of B (e_NoFrame := e_NoFrame) (e_NoBoard := e_NoBoard) (e_NoNumber := e_NoNumber) (e_NoStep := e_NoStep) (e_NoWay := e_NoWay) (e_TooLong := e_TooLong) (e_NoLess := e_NoLess) (e_NoNote := e_NoNote)) (PySem.W.mg_of X G a_law_word_of) p_law_word_of b_law_word_of
  have c_law_pair_by : Callee l.prog w K mg base 3 "_law_pair_by" ["script"] (sp_law_pair_by K mg) := Callee.mk' (ok_law_pair_by F_law_pair_by B (c_law_spread := c_law_spread) (c_law_cell_at := c_law_cell_at) (c_law_digits := c_law_digits) (c_law_worth := c_law_worth)) (PySem.W.mg_of X G a_law_pair_by) p_law_pair_by b_law_pair_by
  have c_law_walked : Callee l.prog w K mg base 2 "_law_walked" ["ratios", "board", "steps", "left"] (sp_law_walked K mg) := Callee.mk' (ok_law_walked F_law_walked B (c_law_whole := c_law_whole)) (PySem.W.mg_of X G a_law_walked) p_law_walked b_law_walked
  have c_law_refused : Callee l.prog w K mg base 7 "_law_refused" ["ratios", "one", "other"] (sp_law_refused K mg) := Callee.mk' (ok_law_refused F_law_refused B (e_BoardError := e_BoardError) (w_TooLong := w_TooLong) (c_way := c_way) (c_law_word_of := c_law_word_of)) (PySem.W.mg_of X G a_law_refused) p_law_refused b_law_refused
  exact ok_law F_law B (c_law_pair_by := c_law_pair_by) (c_net := c_net) (c_way := c_way) (c_law_refused := c_law_refused) (c_law_is_list := c_law_is_list) (c_law_cell_at := c_law_cell_at) (c_law_walked := c_law_walked)
end CB
open PySem PySem.W PyProof.Rows
set_option maxRecDepth 100000 in
set_option maxHeartbeats 0 in
theorem PySem.Challenge.cw_countboard_k10_whole_ways_holds : PySem.Challenge.rw_countboard_k10_whole_ways.Holds := by
  w_on; o_law; k_head; (case hw => w_witness2)
  k_fill
  refine L2.walk_of (l := PySem.Challenge.rw_countboard_k10_whole_ways) (n := 63) (k := 8) (x := "script") (CX := fun w => L2.CX PySem.Challenge.rw_countboard_k10_whole_ways.prog w) (sp := fun w => CB.sp_law _) rfl (by decide) rfl ⟨rfl, by decide, by decide⟩ (fun w h Y => PySem.W.kIn_of Y) ?F (fun _ _ a ns hl _ hS => ⟨a, ns, rfl, hS, hl, fun _ => rfl⟩) (CB.no_err _)
  case F =>
    intro w mg fa h KX G hmg
    refine' CB.all_mk KX G hmg ?z_len ?z_list ?z_range ?z_isinstance ?z_zip ?z_reversed ?z_sum ?z_all ?z_abs ?z_max ?z_min ?z_str ?z_int ?z_bool ?z_tuple ?z_ValueError ?g_MOST ?g_MOST_STEPS ?g_NoFrame ?x_NoFrame ?k_NoFrame ?b_NoFrame ?t_NoFrame ?g_NoBoard ?x_NoBoard ?k_NoBoard ?b_NoBoard ?t_NoBoard ?g_NoNumber ?x_NoNumber ?k_NoNumber ?b_NoNumber ?t_NoNumber ?g_NoStep ?x_NoStep ?k_NoStep ?b_NoStep ?t_NoStep ?g_NoWay ?x_NoWay ?k_NoWay ?b_NoWay ?t_NoWay ?g_TooLong ?x_TooLong ?k_TooLong ?b_TooLong ?t_TooLong ?g_NoLess ?x_NoLess ?k_NoLess ?b_NoLess ?t_NoLess ?g_NoNote ?x_NoNote ?k_NoNote ?b_NoNote ?t_NoNote ?g_BoardError ?xn_all ?xt_all ?xg_TooLong ?xk_TooLong ?xd_TooLong ?xa_TooLong ?xm_TooLong ?q0_TooLong ?q1_TooLong ?q2_TooLong ?q3_TooLong ?q4_TooLong ?q5_TooLong ?q6_TooLong ?q7_TooLong ?qv_TooLong ?qb_TooLong ?a_asked_frame ?l_asked_frame ?c_asked_frame ?p_asked_frame ?a_asked_board ?l_asked_board ?c_asked_board ?p_asked_board ?a_worths ?l_worths ?c_worths ?p_worths ?a_worth ?l_worth ?c_worth ?p_worth ?a_raisings ?l_raisings ?c_raisings ?p_raisings ?a_net ?l_net ?c_net ?p_net ?a_fewest ?l_fewest ?c_fewest ?p_fewest ?a_way ?l_way ?c_way ?p_way ?a_law_cell_at ?l_law_cell_at ?c_law_cell_at ?p_law_cell_at ?a_law_whole ?l_law_whole ?c_law_whole ?p_law_whole ?a_law_worth ?l_law_worth ?c_law_worth ?p_law_worth ?a_law_digits ?l_law_digits ?c_law_digits ?p_law_digits ?a_law_spread ?l_law_spread ?c_law_spread ?p_law_spread ?a_law_is_list ?l_law_is_list ?c_law_is_list ?p_law_is_list ?a_law_word_of ?l_law_word_of ?c_law_word_of ?p_law_word_of ?a_law_pair_by ?l_law_pair_by ?c_law_pair_by ?p_law_pair_by ?a_law_walked ?l_law_walked ?c_law_walked ?p_law_walked ?a_law_refused ?l_law_refused ?c_law_refused ?p_law_refused ?a_law ?l_law ?c_law ?p_law
    (case z_len => k_is)
    (case z_list => k_is)
    (case z_range => k_is)
    (case z_isinstance => k_is)
    (case z_zip => k_is)
    (case z_reversed => k_is)
    (case z_sum => k_is)
    (case z_all => k_is)
    (case z_abs => k_is)
    (case z_max => k_is)
    (case z_min => k_is)
    (case z_str => k_is)
    (case z_int => k_is)
    (case z_bool => k_is)
    (case z_tuple => k_is)
    (case z_ValueError => k_is)
    (case g_MOST => k_is)
    (case g_MOST_STEPS => k_is)
    (case g_NoFrame => k_is)
    (case x_NoFrame => k_exc)
    (case k_NoFrame => k_is)
    (case b_NoFrame => k_is)
    (case t_NoFrame => k_is)
    (case g_NoBoard => k_is)
    (case x_NoBoard => k_exc)
    (case k_NoBoard => k_is)
    (case b_NoBoard => k_is)
    (case t_NoBoard => k_is)
    (case g_NoNumber => k_is)
    (case x_NoNumber => k_exc)
    (case k_NoNumber => k_is)
    (case b_NoNumber => k_is)
    (case t_NoNumber => k_is)
    (case g_NoStep => k_is)
    (case x_NoStep => k_exc)
    (case k_NoStep => k_is)
    (case b_NoStep => k_is)
    (case t_NoStep => k_is)
    (case g_NoWay => k_is)
    (case x_NoWay => k_exc)
    (case k_NoWay => k_is)
    (case b_NoWay => k_is)
    (case t_NoWay => k_is)
    (case g_TooLong => k_is)
    (case x_TooLong => k_exc)
    (case k_TooLong => k_is)
    (case b_TooLong => k_is)
    (case t_TooLong => k_is)
    (case g_NoLess => k_is)
    (case x_NoLess => k_exc)
    (case k_NoLess => k_is)
    (case b_NoLess => k_is)
    (case t_NoLess => k_is)
    (case g_NoNote => k_is)
    (case x_NoNote => k_exc)
    (case k_NoNote => k_is)
    (case b_NoNote => k_is)
    (case t_NoNote => k_is)
    (case g_BoardError => k_is)
    (case xn_all => k_is)
    (case xt_all => k_is)
    (case xg_TooLong => k_is)
    (case xk_TooLong => k_is)
    (case xd_TooLong => k_is)
    (case xa_TooLong => k_is)
    (case xm_TooLong => k_is)
    (case q0_TooLong => kit_is)
    (case q1_TooLong => kit_is)
    (case q2_TooLong => kit_is)
    (case q3_TooLong => kit_is)
    (case q4_TooLong => kit_is)
    (case q5_TooLong => kit_is)
    (case q6_TooLong => kit_is)
    (case q7_TooLong => kit_is)
    (case qv_TooLong => kit_is)
    (case qb_TooLong => kts_exm)
    (case a_asked_frame => k_is)
    (case l_asked_frame => k_is)
    (case c_asked_frame => k_is)
    (case p_asked_frame => k_is)
    (case a_asked_board => k_is)
    (case l_asked_board => k_is)
    (case c_asked_board => k_is)
    (case p_asked_board => k_is)
    (case a_worths => k_is)
    (case l_worths => k_is)
    (case c_worths => k_is)
    (case p_worths => k_is)
    (case a_worth => k_is)
    (case l_worth => k_is)
    (case c_worth => k_is)
    (case p_worth => k_is)
    (case a_raisings => k_is)
    (case l_raisings => k_is)
    (case c_raisings => k_is)
    (case p_raisings => k_is)
    (case a_net => k_is)
    (case l_net => k_is)
    (case c_net => k_is)
    (case p_net => k_is)
    (case a_fewest => k_is)
    (case l_fewest => k_is)
    (case c_fewest => k_is)
    (case p_fewest => k_is)
    (case a_way => k_is)
    (case l_way => k_is)
    (case c_way => k_is)
    (case p_way => k_is)
    (case a_law_cell_at => k_is)
    (case l_law_cell_at => k_is)
    (case c_law_cell_at => k_is)
    (case p_law_cell_at => k_is)
    (case a_law_whole => k_is)
    (case l_law_whole => k_is)
    (case c_law_whole => k_is)
    (case p_law_whole => k_is)
    (case a_law_worth => k_is)
    (case l_law_worth => k_is)
    (case c_law_worth => k_is)
    (case p_law_worth => k_is)
    (case a_law_digits => k_is)
    (case l_law_digits => k_is)
    (case c_law_digits => k_is)
    (case p_law_digits => k_is)
    (case a_law_spread => k_is)
    (case l_law_spread => k_is)
    (case c_law_spread => k_is)
    (case p_law_spread => k_is)
    (case a_law_is_list => k_is)
    (case l_law_is_list => k_is)
    (case c_law_is_list => k_is)
    (case p_law_is_list => k_is)
    (case a_law_word_of => k_is)
    (case l_law_word_of => k_is)
    (case c_law_word_of => k_is)
    (case p_law_word_of => k_is)
    (case a_law_pair_by => k_is)
    (case l_law_pair_by => k_is)
    (case c_law_pair_by => k_is)
    (case p_law_pair_by => k_is)
    (case a_law_walked => k_is)
    (case l_law_walked => k_is)
    (case c_law_walked => k_is)
    (case p_law_walked => k_is)
    (case a_law_refused => k_is)
    (case l_law_refused => k_is)
    (case c_law_refused => k_is)
    (case p_law_refused => k_is)
    (case a_law => k_is)
    (case l_law => k_is)
    (case c_law => k_is)
    (case p_law => k_is)
