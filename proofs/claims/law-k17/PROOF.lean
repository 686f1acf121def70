import PyProof.Rows.All
import Wide.All
import OpenK.AllK
import Wide.FinOn
import HandS.ForMost
import HandS.ForExc
import HandS.Wide
import HandS.IsInst
import HandS.RevRange
import HandS.Zip
import HandS.Deep
import HandS.Conv
import HandS.Rev
import HandS.Walk
import HandS.Text
import HandS.RevTup
import KE.GoesRaise
import KE.GoesComp
import KE.KAsSuite
import HandS.HotCalls
import HandS.ExcIs
import KE.RegKIsAll
import KE.RegKTryMore
import PySem.Challenge.RW_countboard_k17_read
set_option Elab.async false
set_option linter.all false
set_option maxRecDepth 100000
set_option maxHeartbeats 4000000
set_option pp.maxSteps 500
namespace CB
open PySem
def top (i : Nat) : Stmt := PySem.Challenge.pw_countboard_k17_read.main.body.getD i (.Pass ⟨0, 0, 0, 0⟩)
end CB
namespace CB
open PySem PySem.Spec PyProof.Rows L2
/-! ### a def that stands at its name and keeps its promise; the built-in names; the classes of errors -/
structure Callee (P : Program) (w : World) (K : PySem.W.Frag) (mg : Str → Option Value) (base : Heap) (k : Nat) (x : Str) (ps : List Str) (sp : Sp) : Prop where
  ex : ∃ (f : Addr) (fd : FuncData), FnOk P w K mg base (L2.CX P w) k f fd ps sp ∧ mg x = some (.ref f) ∧ PySem.W.keepIn K (.ref f) = true ∧ Binds K fd ps []
def ErA (mg : Str → Option Value) (x : Str) : Addr := match mg x with
  | some (.ref a) => a
  | _ => 0
structure Er (K : PySem.W.Frag) (mg : Str → Option Value) (x : Str) : Prop where
  gC : mg x = some (.ref (ErA mg x))
  xP : PySem.W.excIn K (ErA mg x) [.type "ValueError", .type "Exception", .type "BaseException", .type "object"] "ValueError.__new__" = true
  kP : PySem.W.keepIn K (.ref (ErA mg x)) = true
  bP : PySem.W.subIn K (.ref (ErA mg x)) (.type "BaseException") = some true
  tP : PySem.W.typeIn K (.ref (ErA mg x)) = some (.type "type")
theorem er_mk {K : PySem.W.Frag} {mg : Str → Option Value} {x : Str} {C : Addr} (g : mg x = some (.ref C)) (x1 : PySem.W.excIn K C [.type "ValueError", .type "Exception", .type "BaseException", .type "object"] "ValueError.__new__" = true)
    (k : PySem.W.keepIn K (.ref C) = true) (b : PySem.W.subIn K (.ref C) (.type "BaseException") = some true) (t : PySem.W.typeIn K (.ref C) = some (.type "type")) : Er K mg x := by
  have e : ErA mg x = C := by unfold ErA; rw [g]
  exact ⟨by rw [e]; exact g, by rw [e]; exact x1, by rw [e]; exact k, by rw [e]; exact b, by rw [e]; exact t⟩
structure Bi (mg : Str → Option Value) : Prop where
  len : mg "len" = none
  list : mg "list" = none
  range : mg "range" = none
  isinstance : mg "isinstance" = none
  zip : mg "zip" = none
  reversed : mg "reversed" = none
  sum : mg "sum" = none
  all : mg "all" = none
  abs : mg "abs" = none
  max : mg "max" = none
  min : mg "min" = none
  str : mg "str" = none
  int : mg "int" = none
  bool : mg "bool" = none
  tuple : mg "tuple" = none
  ValueError : mg "ValueError" = none
section
variable {X : Cx}
theorem pe_f {W : WX} {j k : Nat} {x : Str} {ps : List Str} {sp : Sp} {e : Expr} {es : List Expr} {t : TA} {p pos : Pos} (c : Callee X.prog X.w X.K X.mg X.base k x ps sp) (hr : Room j X.A) (hk : k ≤ j) (tk : Takes X W)
    (ha : PA X (e :: es) t) (hg : Gl X x := by rfl) (hdb : (x == ("__debug__" : Str)) = false := by decide) (he : starEach (e :: es) X.env = (false, eval e X.env) :: starEach es X.env := by rfl) (hpl : (backTo pos (starEach es X.env)).any (·.1) = false := by rfl) :
    PE X (.Call (.Name x p) (e :: es) [] pos) (tCallS sp (WE W) t) := by
  obtain ⟨f, fd, F, hm, hkp, hb⟩ := c
  exact pe_callS F (hr.mono hk) hg hm hkp hb (fun σ => passAt tk σ) ha hdb he hpl
end
theorem ix_listK {X : Cx} (K : PySem.W.Frag) (h : X.K = K) : IxR X (rIxL K) := h ▸ ix_list
theorem ix_tupK {X : Cx} (K : PySem.W.Frag) (h : X.K = K) : IxR X (rIxT K) := h ▸ ix_tup
theorem Callee.mk' {P : Program} {w : World} {K : PySem.W.Frag} {mg : Str → Option Value} {base : Heap} {k : Nat} {x : Str} {ps : List Str} {sp : Sp} {f : Addr} {fd : FuncData} (F : FnOk P w K mg base (L2.CX P w) k f fd ps sp) (hm : mg x = some (.ref f)) (hk : PySem.W.keepIn K (.ref f) = true) (hb : Binds K fd ps []) :
    Callee P w K mg base k x ps sp := ⟨f, fd, F, hm, hk, hb⟩
/-! ### what a def tells: a number, a truth, a text, a new list -/
def TellV (H : Hp) (Q : VK) (v : V) : Prop := ∀ H', Same H H' → Q v H'
def TellL (H : Hp) (Q : VK) (xs : List V) : Prop := ∀ (H' : Hp) (p : Addr), Same H H' → H p = none → H' p = some (.lst xs) → Q (.ref p) H'
def Raise (mg : Str → Option Value) (x : Str) (H : Hp) (E : XK) : Prop := ∀ H', Same H H' → E (.ref (ErA mg x)) none H'
theorem same_upd {H : Hp} {p : Addr} {o : HO} (h : H p = none) : Same H (upd H p o) := fun b u e => by
  rw [upd_ne (ne_of_none e h)]
  exact e
theorem get_map {xs : List Int} {i : Nat} {x : V} (h : (xs.map V.int)[i]? = some x) : ∃ z, xs[i]? = some z ∧ x = .int z := by
  rw [List.getElem?_map] at h
  cases e : xs[i]? with
  | none => rw [e] at h; cases h
  | some z => rw [e] at h; exact ⟨z, rfl, (Option.some.inj h).symm⟩
theorem map_get {xs : List Int} {i : Nat} {z : Int} (h : xs[i]? = some z) : (xs.map V.int)[i]? = some (.int z) := by
  rw [List.getElem?_map, h]
  all_goals rfl
theorem ix_of {n : Nat} {z : Int} {j : Nat} (e : z = (j : Int)) (h : j < n) : ixN n z = some j := by
  subst e
  unfold ixN
  rw [if_pos (by omega), if_pos (by omega), Int.toNat_natCast]
theorem take_more {α : Type} {l : List α} {i : Nat} {x : α} (h : l[i]? = some x) : l.take (i + 1) = l.take i ++ [x] := by
  rw [List.take_add_one, h]
  all_goals rfl
theorem small64 {n : Nat} (h : n ≤ 100000) : n < sizeLine := Nat.lt_of_le_of_lt h (by decide)
theorem small64' {n : Nat} (h : n ≤ 100000) : n ≤ sizeLine := Nat.le_of_lt (small64 h)
theorem ite_t {A B : Prop} {c : Bool} (hc : c = true) (h : A) : if c = true then A else B := by
  rw [if_pos hc]
  exact h
theorem ite_f {A B : Prop} {c : Bool} (hc : c = false) (h : B) : if c = true then A else B := by
  rw [hc, if_neg Bool.false_ne_true]
  exact h
end CB
namespace CB
open PySem PySem.Spec PyProof.Rows L2
/-- what a frame is -/
def GF (rs : List Int) : Prop := rs.length ≤ 11 ∧ ∀ r ∈ rs, 2 ≤ r ∧ r ≤ 12
/-! ### the mathematics: worths -/
def prodL (l : List Int) : Int := l.foldl (· * ·) 1
def worthsL (rs : List Int) : List Int := (List.range (rs.length + 1)).map fun k => prodL (rs.take k)
theorem prodL_snoc (l : List Int) (r : Int) : prodL (l ++ [r]) = prodL l * r := by
  unfold prodL
  rw [List.foldl_append]
  rfl
theorem foldl_mul (l : List Int) (x : Int) : l.foldl (· * ·) x = x * l.foldl (· * ·) 1 := by
  induction l generalizing x with
  | nil => simp
  | cons a l ih =>
    rw [List.foldl_cons, List.foldl_cons, ih (x * a), ih (1 * a), Int.one_mul, Int.mul_assoc]
theorem prodL_cons (r : Int) (l : List Int) : prodL (r :: l) = r * prodL l := by
  unfold prodL
  rw [List.foldl_cons, Int.one_mul, foldl_mul]
theorem prodL_bound {l : List Int} (h : ∀ r ∈ l, 2 ≤ r ∧ r ≤ 12) : 1 ≤ prodL l ∧ prodL l ≤ ((12 ^ l.length : Nat) : Int) := by
  induction l with
  | nil => exact ⟨by decide, by decide⟩
  | cons a l ih =>
    obtain ⟨h1, h2⟩ := ih fun r hr => h r (List.mem_cons_of_mem _ hr)
    obtain ⟨h3, h4⟩ := h a List.mem_cons_self
    rw [prodL_cons, List.length_cons, Nat.pow_succ, Nat.mul_comm, Int.natCast_mul]
    refine ⟨?_, ?_⟩
    · have := Int.mul_le_mul (show (1 : Int) ≤ a by omega) h1 (by decide) (by omega)
      omega
    · exact Int.mul_le_mul h4 h2 (by omega) (by decide)
theorem prodL_lt {l : List Int} (h : ∀ r ∈ l, 2 ≤ r ∧ r ≤ 12) (hl : l.length ≤ 11) : 1 ≤ prodL l ∧ prodL l < 2 ^ 40 := by
  obtain ⟨h1, h2⟩ := prodL_bound h
  refine ⟨h1, ?_⟩
  have h3 : 12 ^ l.length ≤ 12 ^ 11 := Nat.pow_le_pow_right (by decide) hl
  have h4 : 12 ^ 11 < 2 ^ 40 := by decide
  omega
theorem abs_lt_pow {z : Int} {n : Nat} (h0 : 0 ≤ z) (h : z < 2 ^ n) : z.natAbs < 2 ^ n := by
  have e : (z.natAbs : Int) = z := Int.natAbs_of_nonneg h0
  have : (z.natAbs : Int) < ((2 ^ n : Nat) : Int) := by
    rw [e]
    simpa using h
  omega
theorem frame_gf (g : Nat → Int) (n : Nat) (hn : n ≤ 11) : GF ((List.range n).map fun i => 2 + g i % 11) := by
  refine ⟨by rw [List.length_map, List.length_range]; exact hn, fun r hr => ?_⟩
  obtain ⟨i, _, rfl⟩ := List.mem_map.mp hr
  omega
end CB
namespace CB
open PySem PySem.Spec PyProof.Rows L2
/-! ### the mathematics: boards -/
def W : List Int → List Int → Int
  | r :: rs, b :: bs => b + r * W rs bs
  | [], b :: _ => b
  | _, [] => 0
/-- a board's lines -/
def GB (rs bs : List Int) : Prop := bs.length = rs.length + 1 ∧ ∀ b ∈ bs, 0 ≤ b
theorem GB.tail {r b : Int} {rs bs : List Int} (h : GB (r :: rs) (b :: bs)) : GB rs bs := ⟨by have := h.1; simpa using this, fun x hx => h.2 x (List.mem_cons_of_mem _ hx)⟩
def BS (bs : List Int) : Prop := ∀ b ∈ bs, b < 2 ^ 200
def Rat (rs : List Int) : Prop := ∀ r ∈ rs, 2 ≤ r ∧ r ≤ 12
theorem Rat.tail {r : Int} {rs : List Int} (h : Rat (r :: rs)) : Rat rs := fun x hx => h x (List.mem_cons_of_mem _ hx)
theorem Rat.head {r : Int} {rs : List Int} (h : Rat (r :: rs)) : 2 ≤ r ∧ r ≤ 12 := h r List.mem_cons_self
/-- the plain board of n -/
def D : List Int → Int → List Int
  | [], n => [n]
  | r :: rs, n => n % r :: D rs (n / r)
theorem D_len (rs : List Int) (n : Int) : (D rs n).length = rs.length + 1 := by
  induction rs generalizing n with
  | nil => rfl
  | cons r rs ih => simp [D, ih]
/-- how often each line is raised -/
def R : List Int → List Int → Int → List Int
  | r :: rs, b :: bs, c => (b + c) / r :: R rs bs ((b + c) / r)
  | _, _, _ => []
theorem worths_cons (r : Int) (rs : List Int) : worthsL (r :: rs) = 1 :: (worthsL rs).map (r * ·) := by
  unfold worthsL
  rw [List.length_cons, List.range_succ_eq_map, List.map_cons, List.map_map, List.map_map]
  refine congr (congrArg _ rfl) (List.map_congr_left fun k _ => ?_)
  show prodL ((r :: rs).take (k + 1)) = r * prodL (rs.take k)
  rw [List.take_succ_cons, prodL_cons]
theorem zipW_map (r : Int) : ∀ bs os : List Int, (List.zipWith (· * ·) bs (os.map (r * ·))).sum = r * (List.zipWith (· * ·) bs os).sum
  | [], _ => by simp
  | _ :: _, [] => by simp
  | b :: bs, o :: os => by
    rw [List.map_cons, List.zipWith_cons_cons, List.zipWith_cons_cons, List.sum_cons, List.sum_cons, zipW_map r bs os, Int.mul_add, Int.mul_left_comm]
theorem W_sum : ∀ rs bs : List Int, bs.length = rs.length + 1 → (List.zipWith (· * ·) bs (worthsL rs)).sum = W rs bs
  | [], [b], _ => by simp [worthsL, prodL, W]
  | [], [], h => by cases h
  | [], _ :: _ :: _, h => by simp at h
  | _ :: _, [], h => by cases h
  | r :: rs, b :: bs, h => by
    rw [worths_cons, List.zipWith_cons_cons, List.sum_cons, zipW_map, W_sum rs bs (by simpa using h), Int.mul_one]
    rfl
theorem W_nonneg : ∀ (rs bs : List Int), Rat rs → (∀ b ∈ bs, 0 ≤ b) → 0 ≤ W rs bs
  | [], [], _, _ => by simp [W]
  | [], b :: _, _, h => h b List.mem_cons_self
  | _ :: _, [], _, _ => by simp [W]
  | r :: rs, b :: bs, hr, h => by
    have h1 := W_nonneg rs bs hr.tail fun x hx => h x (List.mem_cons_of_mem _ hx)
    have h2 := h b List.mem_cons_self
    have h3 := hr.head
    have h4 := Int.mul_nonneg (show (0 : Int) ≤ r by omega) h1
    show 0 ≤ b + r * W rs bs
    omega
theorem W_lt {B : Nat} : ∀ (rs bs : List Int), Rat rs → (∀ b ∈ bs, 0 ≤ b) → (∀ b ∈ bs, b < ((2 ^ B : Nat) : Int)) → W rs bs < ((13 ^ rs.length * 2 ^ B : Nat) : Int)
  | [], [], _, _, _ => by
    have : 0 < 2 ^ B := Nat.pow_pos (by decide)
    simp only [W, List.length_nil, Nat.pow_zero, Nat.one_mul]
    omega
  | [], b :: _, _, _, h => by
    have := h b List.mem_cons_self
    simp only [W, List.length_nil, Nat.pow_zero, Nat.one_mul]
    exact this
  | r :: rs, [], _, _, _ => by
    have : 0 < 13 ^ (r :: rs).length * 2 ^ B := Nat.mul_pos (Nat.pow_pos (by decide)) (Nat.pow_pos (by decide))
    simp only [W]
    omega
  | r :: rs, b :: bs, hr, h0, h => by
    have h1 := W_nonneg rs bs hr.tail fun x hx => h0 x (List.mem_cons_of_mem _ hx)
    have h2 := W_lt rs bs hr.tail (fun x hx => h0 x (List.mem_cons_of_mem _ hx)) fun x hx => h x (List.mem_cons_of_mem _ hx)
    have h3 := h b List.mem_cons_self
    have h4 := hr.head
    have h5 : r * W rs bs ≤ 12 * W rs bs := Int.mul_le_mul_of_nonneg_right h4.2 h1
    have h6 : 2 ^ B ≤ 13 ^ rs.length * 2 ^ B := Nat.le_mul_of_pos_left _ (Nat.pow_pos (by decide))
    have h7 : 13 ^ (r :: rs).length * 2 ^ B = 13 * (13 ^ rs.length * 2 ^ B) := by rw [List.length_cons, Nat.pow_succ, Nat.mul_comm (13 ^ rs.length) 13, Nat.mul_assoc]
    show b + r * W rs bs < _
    rw [h7]
    omega
theorem W_small {rs bs : List Int} (g : GF rs) (h0 : ∀ b ∈ bs, 0 ≤ b) (h : ∀ b ∈ bs, b < 2 ^ 200) : 0 ≤ W rs bs ∧ W rs bs < 2 ^ 250 := by
  refine ⟨W_nonneg rs bs g.2 h0, ?_⟩
  have h1 := W_lt (B := 200) rs bs g.2 h0 fun b hb => by have := h b hb; rw [Int.natCast_pow]; exact this
  have h2 : 13 ^ rs.length ≤ 13 ^ 11 := Nat.pow_le_pow_right (by decide) g.1
  have h3 : 13 ^ rs.length * 2 ^ 200 ≤ 13 ^ 11 * 2 ^ 200 := Nat.mul_le_mul_right _ h2
  have h4 : 13 ^ 11 * 2 ^ 200 < 2 ^ 250 := by decide
  have h5 : ((13 ^ rs.length * 2 ^ 200 : Nat) : Int) < ((2 ^ 250 : Nat) : Int) := by omega
  have h6 : ((2 ^ 250 : Nat) : Int) = 2 ^ 250 := by rw [Int.natCast_pow]; rfl
  rw [h6] at h5
  omega
theorem D_W : ∀ (rs : List Int) (n : Int), Rat rs → W rs (D rs n) = n
  | [], n, _ => rfl
  | r :: rs, n, h => by
    show n % r + r * W rs (D rs (n / r)) = n
    rw [D_W rs (n / r) h.tail]
    exact Int.emod_add_mul_ediv n r
theorem D_nonneg : ∀ (rs : List Int) (n : Int), Rat rs → 0 ≤ n → ∀ b ∈ D rs n, 0 ≤ b
  | [], n, _, h0, b, hb => by
    have : b = n := by simpa [D] using hb
    omega
  | r :: rs, n, h, h0, b, hb => by
    have h3 := h.head
    rcases List.mem_cons.mp hb with e | hb
    · rw [e]
      exact Int.emod_nonneg n (by omega)
    · exact D_nonneg rs (n / r) h.tail (Int.ediv_nonneg h0 (by omega)) b hb
theorem D_GB (rs : List Int) (n : Int) (h : Rat rs) (h0 : 0 ≤ n) : GB rs (D rs n) := ⟨D_len rs n, D_nonneg rs n h h0⟩
theorem D_le : ∀ (rs : List Int) (n : Int), Rat rs → 0 ≤ n → ∀ b ∈ D rs n, b ≤ n
  | [], n, _, h0, b, hb => by
    have : b = n := by simpa [D] using hb
    omega
  | r :: rs, n, h, h0, b, hb => by
    have h3 := h.head
    have h4 : n / r ≤ n := Int.ediv_le_self _ h0
    rcases List.mem_cons.mp hb with e | hb
    · rw [e]
      have := Int.emod_add_mul_ediv n r
      have h5 := Int.mul_nonneg (show (0 : Int) ≤ r by omega) (Int.ediv_nonneg h0 (show (0 : Int) ≤ r by omega))
      omega
    · have := D_le rs (n / r) h.tail (Int.ediv_nonneg h0 (by omega)) b hb
      omega
/-- fewer counters than its ratio on each line but the last -/
def Pl : List Int → List Int → Prop
  | r :: rs, b :: bs => b < r ∧ Pl rs bs
  | _, _ => True
theorem D_Pl : ∀ (rs : List Int) (n : Int), Rat rs → Pl rs (D rs n)
  | [], _, _ => trivial
  | r :: rs, n, h => by
    have h3 := h.head
    exact ⟨Int.emod_lt_of_pos n (by omega), D_Pl rs (n / r) h.tail⟩
/-- there is just one plain board of a worth -/
theorem D_uniq : ∀ (rs bs : List Int), Rat rs → GB rs bs → Pl rs bs → D rs (W rs bs) = bs
  | [], [b], _, _, _ => rfl
  | [], [], _, h, _ => by cases h.1
  | [], _ :: _ :: _, _, h, _ => by have := h.1; simp at this
  | _ :: _, [], _, h, _ => by cases h.1
  | r :: rs, b :: bs, hr, h, p => by
    have h3 := hr.head
    have h0 := h.2 b List.mem_cons_self
    have e1 : (b + r * W rs bs) % r = b := by
      rw [Int.add_mul_emod_self_left]
      exact Int.emod_eq_of_lt h0 p.1
    have e2 : (b + r * W rs bs) / r = W rs bs := by
      rw [Int.add_mul_ediv_left _ _ (by omega), Int.ediv_eq_zero_of_lt h0 p.1, Int.zero_add]
    show (b + r * W rs bs) % r :: D rs ((b + r * W rs bs) / r) = b :: bs
    rw [e1, e2, D_uniq rs bs hr.tail h.tail p.2]
theorem R_len : ∀ (rs bs : List Int) (c : Int), bs.length = rs.length + 1 → (R rs bs c).length = rs.length
  | [], [], _, _ => rfl
  | [], _ :: _, _, _ => rfl
  | _ :: _, [], _, h => by cases h
  | r :: rs, b :: bs, c, h => by
    show (R rs bs ((b + c) / r)).length + 1 = rs.length + 1
    rw [R_len rs bs _ (by simpa using h)]
end CB
namespace CB
open PySem PySem.Spec PyProof.Rows L2
theorem Pl_iff : ∀ rs bs : List Int, Pl rs bs ↔ ∀ (j : Nat) (r b : Int), rs[j]? = some r → bs[j]? = some b → b < r
  | [], bs => by simp [Pl]
  | r :: rs, [] => by simp [Pl]
  | r :: rs, b :: bs => by
    have ih := Pl_iff rs bs
    constructor
    · rintro ⟨h1, h2⟩ j r' b' hr hb
      cases j with
      | zero =>
        cases hr
        cases hb
        exact h1
      | succ j => exact ih.mp h2 j r' b' hr hb
    · intro h
      exact ⟨h 0 r b rfl rfl, ih.mpr fun j r' b' hr hb => h (j + 1) r' b' hr hb⟩
theorem bs_of20 {bs : List Int} (h : ∀ x ∈ bs, x < 10 ^ 20) : BS bs := fun b hb => by
  have h1 := h b hb
  have h2 : (10 : Int) ^ 20 < 2 ^ 200 := by decide
  omega
theorem and_true {a b : Bool} (h1 : a = true) (h2 : b = true) : (a && b) = true := by rw [h1, h2]; rfl
end CB
namespace CB
open PySem PySem.Spec PyProof.Rows L2
theorem W_step : ∀ (rs fs : List Int) (L : Nat) (r x y m : Int), fs.length = rs.length + 1 → rs[L]? = some r → fs[L]? = some x → fs[L + 1]? = some y → W rs ((fs.set (L + 1) (y - m)).set L (x + m * r)) = W rs fs
  | [], _, _, _, _, _, _, _, h, _, _ => by simp at h
  | r0 :: rs, [], _, _, _, _, _, h, _, _, _ => by cases h
  | r0 :: rs, [_], _, _, _, _, _, h, _, _, _ => by simp at h
  | r0 :: rs, f :: f2 :: fs, 0, r, x, y, m, h, hr, hx, hy => by
    cases hr
    cases hx
    cases hy
    show (f + m * r0) + r0 * W rs ((f2 - m) :: fs) = f + r0 * W rs (f2 :: fs)
    have e : W rs ((f2 - m) :: fs) = W rs (f2 :: fs) - m := by
      cases rs with
      | nil => rfl
      | cons s rs => show f2 - m + s * W rs fs = f2 + s * W rs fs - m; omega
    rw [e, Int.mul_sub, Int.mul_comm m r0]
    omega
  | r0 :: rs, f :: f2 :: fs, L + 1, r, x, y, m, h, hr, hx, hy => by
    have ih := W_step rs (f2 :: fs) L r x y m (by simpa using h) hr hx hy
    show f + r0 * W rs (((f2 :: fs).set (L + 1) (y - m)).set L (x + m * r)) = f + r0 * W rs (f2 :: fs)
    rw [ih]
theorem set_comm' {α : Type} {l : List α} {i j : Nat} {x y : α} (h : i ≠ j) : (l.set i x).set j y = (l.set j y).set i x := by
  refine List.ext_getElem? fun k => ?_
  rw [List.getElem?_set, List.getElem?_set, List.getElem?_set, List.getElem?_set]
  simp only [List.length_set]
  by_cases h1 : j = k <;> by_cases h2 : i = k
  · exact absurd (h2.trans h1.symm) h
  · simp [h1, h2]
  · simp [h1, h2]
  · simp [h1, h2]
theorem W_head (rs : List Int) (b c : Int) (bs : List Int) : W rs ((b + c) :: bs) = W rs (b :: bs) + c := by
  cases rs with
  | nil => rfl
  | cons r rs => show b + c + r * W rs bs = b + r * W rs bs + c; omega
/-- raising once for all on the lowest line -/
theorem D_carry (r : Int) (rs : List Int) (b b2 : Int) (bs : List Int) (h : 0 < r) : D (r :: rs) (W (r :: rs) (b :: b2 :: bs)) = b % r :: D rs (W rs ((b2 + b / r) :: bs)) := by
  show (b + r * W rs (b2 :: bs)) % r :: D rs ((b + r * W rs (b2 :: bs)) / r) = _
  rw [Int.add_mul_emod_self_left, Int.add_mul_ediv_left _ _ (by omega), W_head, Int.add_comm (b / r)]
theorem sumD : ∀ rs bs : List Int, Rat rs → GB rs bs → (D rs (W rs bs)).sum ≤ bs.sum ∧ ((D rs (W rs bs)).sum = bs.sum → D rs (W rs bs) = bs)
  | [], [b], _, _ => ⟨Int.le_refl _, fun _ => rfl⟩
  | [], [], _, h => by cases h.1
  | [], _ :: _ :: _, _, h => by have := h.1; simp at this
  | _ :: _, [], _, h => by cases h.1
  | _ :: _, [_], _, h => by have := h.1; simp at this
  | r :: rs, b :: b2 :: bs, hr, h => by
    have h3 := hr.head
    have hb := h.2 b List.mem_cons_self
    have hb2 := h.2 b2 (List.mem_cons_of_mem _ List.mem_cons_self)
    have hq : 0 ≤ b / r := Int.ediv_nonneg hb (by omega)
    have hg : GB rs ((b2 + b / r) :: bs) := ⟨by have := h.1; simpa using this, fun x hx => by
      rcases List.mem_cons.mp hx with e | hx
      · omega
      · exact h.2 x (List.mem_cons_of_mem _ (List.mem_cons_of_mem _ hx))⟩
    obtain ⟨i1, i2⟩ := sumD rs ((b2 + b / r) :: bs) hr.tail hg
    have e := Int.emod_add_mul_ediv b r
    have e2 : 2 * (b / r) ≤ r * (b / r) := Int.mul_le_mul_of_nonneg_right h3.1 hq
    rw [D_carry r rs b b2 bs (by omega)]
    rw [List.sum_cons] at i1 i2
    rw [List.sum_cons, List.sum_cons, List.sum_cons]
    refine ⟨by omega, fun hs => ?_⟩
    have hz : b / r = 0 := by omega
    rw [hz] at i2 hs e ⊢
    rw [Int.mul_zero, Int.add_zero] at e
    rw [Int.add_zero] at i2
    rw [Int.add_zero] at hs ⊢
    rw [i2 (by omega), e]
end CB
namespace CB
open PySem PySem.Spec PyProof.Rows L2
/-! ### equality of lists of numbers, of lists of such, of lists of steps -/
def dL (xs : List Int) : PyData := .list (xs.map .int)
def dStep (p : Int × Bool) : PyData := .tuple [.int p.1, .bool p.2]
theorem layAll {ds : List PyData} {n : Nat} (h : ∀ d ∈ ds, d.canLay0 = true ∧ d.depth ≤ n) : PyData.canLayAll0 ds = true ∧ PyData.depthAll ds ≤ n := by
  induction ds with
  | nil => exact ⟨rfl, by simp [PyData.depthAll]⟩
  | cons d ds ih =>
    obtain ⟨h1, h2⟩ := ih fun x hx => h x (List.mem_cons_of_mem _ hx)
    obtain ⟨h3, h4⟩ := h d List.mem_cons_self
    refine ⟨by simp [PyData.canLayAll0, h1, h3], ?_⟩
    simp only [PyData.depthAll]
    omega
theorem lay_int (i : Int) : (PyData.int i).canLay0 = true ∧ (PyData.int i).depth ≤ 0 := ⟨by simp [PyData.canLay0], by simp [PyData.depth]⟩
theorem lay_list {ds : List PyData} {n : Nat} (h : ∀ d ∈ ds, d.canLay0 = true ∧ d.depth ≤ n) : (PyData.list ds).canLay0 = true ∧ (PyData.list ds).depth ≤ n + 1 := by
  obtain ⟨h1, h2⟩ := layAll h
  refine ⟨by simpa [PyData.canLay0] using h1, ?_⟩
  simp only [PyData.depth]
  omega
theorem lay_dL (xs : List Int) : (dL xs).canLay0 = true ∧ (dL xs).depth ≤ 1 := lay_list (n := 0) fun d hd => by
  obtain ⟨i, _, rfl⟩ := List.mem_map.mp hd
  exact lay_int i
theorem lay_dStep (p : Int × Bool) : (dStep p).canLay0 = true ∧ (dStep p).depth ≤ 1 := ⟨by simp [dStep, PyData.canLay0, PyData.canLayAll0], by simp [dStep, PyData.depth, PyData.depthAll]⟩
theorem shaped_of {d : PyData} {n : Nat} (h : d.canLay0 = true ∧ d.depth ≤ n) (hn : n ≤ 64) : SeqAt.shaped d = true := by
  unfold SeqAt.shaped
  rw [h.1, Bool.true_and]
  exact decide_eq_true (Nat.le_trans h.2 hn)
theorem shaped_dL (xs : List Int) : SeqAt.shaped (dL xs) = true := shaped_of (lay_dL xs) (by decide)
theorem shaped_dLL (xss : List (List Int)) : SeqAt.shaped (.list (xss.map dL)) = true := shaped_of (lay_list (n := 1) fun d hd => by
  obtain ⟨xs, _, rfl⟩ := List.mem_map.mp hd
  exact lay_dL xs) (by decide)
theorem shaped_dStep (p : Int × Bool) : SeqAt.shaped (dStep p) = true := shaped_of (lay_dStep p) (by decide)
theorem shaped_dLT (ps : List (Int × Bool)) : SeqAt.shaped (.list (ps.map dStep)) = true := shaped_of (lay_list (n := 1) fun d hd => by
  obtain ⟨p, _, rfl⟩ := List.mem_map.mp hd
  exact lay_dStep p) (by decide)
theorem eqvAll_map {α : Type} [DecidableEq α] {f : α → PyData} (h : ∀ a b, PyData.eqv (f a) (f b) = decide (a = b)) : ∀ xs ys : List α, PyData.eqvAll (xs.map f) (ys.map f) = decide (xs = ys)
  | [], [] => by simp [PyData.eqvAll]
  | [], _ :: _ => by simp [PyData.eqvAll]
  | _ :: _, [] => by simp [PyData.eqvAll]
  | x :: xs, y :: ys => by
    simp only [List.map_cons, PyData.eqvAll, h, eqvAll_map h xs ys]
    by_cases e1 : x = y <;> by_cases e2 : xs = ys <;> simp [e1, e2]
theorem eqv_int (a b : Int) : PyData.eqv (.int a) (.int b) = decide (a = b) := by simp only [PyData.eqv]; exact Bool.beq_eq_decide_eq _ _
theorem eqv_dL (xs ys : List Int) : PyData.eqv (dL xs) (dL ys) = decide (xs = ys) := by
  unfold dL
  simp only [PyData.eqv]
  exact eqvAll_map eqv_int xs ys
theorem eqv_dLL (xs ys : List (List Int)) : PyData.eqv (.list (xs.map dL)) (.list (ys.map dL)) = decide (xs = ys) := by
  simp only [PyData.eqv]
  exact eqvAll_map eqv_dL xs ys
theorem eqv_dStep (p q : Int × Bool) : PyData.eqv (dStep p) (dStep q) = decide (p = q) := by
  obtain ⟨a, b⟩ := p
  obtain ⟨c, d⟩ := q
  unfold dStep
  simp only [PyData.eqv, PyData.eqvAll, Bool.and_true]
  by_cases e1 : a = c <;> by_cases e2 : b = d <;> simp [e1, e2]
theorem eqv_dLT (xs ys : List (Int × Bool)) : PyData.eqv (.list (xs.map dStep)) (.list (ys.map dStep)) = decide (xs = ys) := by
  simp only [PyData.eqv]
  exact eqvAll_map eqv_dStep xs ys
section
variable {K : PySem.W.Frag} {H : Hp}
theorem dpAll_int : ∀ xs : List Int, DpAll K H (xs.map V.int) (xs.map PyData.int)
  | [] => .nil
  | x :: xs => .cons (.int x) (dpAll_int xs)
theorem dp_L {a : Addr} {xs : List Int} (h : SqL K H a (xs.map V.int)) : Dp K H (.ref a) (dL xs) := .lst h (dpAll_int xs)
theorem dp_L2 {a p q : Addr} {xs ys : List Int} (h : SqL K H a [.ref p, .ref q]) (hp : SqL K H p (xs.map V.int)) (hq : SqL K H q (ys.map V.int)) : Dp K H (.ref a) (.list ([xs, ys].map dL)) :=
  .lst h (.cons (dp_L hp) (.cons (dp_L hq) .nil))
theorem dp_L3 {a p q r : Addr} {xs ys zs : List Int} (h : SqL K H a [.ref p, .ref q, .ref r]) (hp : SqL K H p (xs.map V.int)) (hq : SqL K H q (ys.map V.int)) (hr : SqL K H r (zs.map V.int)) : Dp K H (.ref a) (.list ([xs, ys, zs].map dL)) :=
  .lst h (.cons (dp_L hp) (.cons (dp_L hq) (.cons (dp_L hr) .nil)))
end
end CB
namespace CB
open PySem PySem.Spec PyProof.Rows L2
/-! ### a list that grows; walks over zip of any two lists -/
def Gr (H : Hp) (D : Addr) (out : List V) (i : Nat) (H' : Hp) : Prop := Same H H' ∧ H' D = some (.lst (out.take i))
theorem Gr.zero {H : Hp} {D : Addr} (out : List V) (h : H D = none) : Gr H D out 0 (upd H D (.lst [])) := ⟨same_upd h, upd_same⟩
theorem Gr.step {H H' H'' : Hp} {D : Addr} {out : List V} {i : Nat} {y : V} (g : Gr H D out i H') (h : H D = none) (hl : out.length ≤ 100000) (hy : out[i]? = some y) (s : Same H' H'') :
    H'' D = some (.lst (out.take i)) ∧ (out.take i).length < sizeLine ∧ Gr H D out (i + 1) (upd H'' D (.lst (out.take i ++ [y]))) := by
  refine ⟨s _ _ g.2, small64 (by rw [List.length_take]; omega), fun b o e => ?_, ?_⟩
  · rw [upd_ne (ne_of_none e h)]
    exact s _ _ (g.1 _ _ e)
  · rw [upd_same, take_more hy]
theorem Gr.done {H H' : Hp} {D : Addr} {out : List V} {i : Nat} (g : Gr H D out i H') (h : out.length ≤ i) : H' D = some (.lst out) := by
  have := g.2
  rw [List.take_of_length_le h] at this
  exact this
theorem lc_zip {K : PySem.W.Frag} {a b : Addr} {xs ys : List V} {g : TG} {tt : TT} {te : TE} {vs : List Nat} {σ : L2.St} {H1 : Hp} {D : Addr} {Qd : Hp → Prop} (n : Nat) (hn : n = min xs.length ys.length) (Pv : Nat → Hp → Prop) (h0 : Pv 0 (upd H1 D (.lst [])))
    (hq : ∀ i H, Pv i H → SqL K H a xs ∧ SqL K H b ys)
    (hs : ∀ (i : Nat) (x y : V) (T : Addr) (H : Hp), xs[i]? = some x → ys[i]? = some y → Pv i H → H T = none → g (.ref T) (wipe σ vs) (upd H T (.tup [x, y])) fun σ2 H2 => wipe σ2 vs = wipe σ vs ∧ tt σ2 H2 fun b H3 =>
      if b = true then te σ2 H3 fun y H4 => ∃ acc, H4 D = some (.lst acc) ∧ acc.length < sizeLine ∧ Pv (i + 1) (upd H4 D (.lst (acc ++ [y]))) else Pv (i + 1) H3) (hd : ∀ H, Pv n H → Qd H) :
    ∃ W : Nat → Nat → Hp → Prop, (∃ m, W 0 m (upd H1 D (.lst []))) ∧ ∀ i m H, W i m H →
      ((Itz K a b).stop i H ∧ Qd H) ∨ ((Itz K a b).go i H ∧ ∃ Nx : Hp → Prop, (∀ H', Nx H' → ∃ m', m' < m ∧ W (i + 1) m' H') ∧ ∀ x H', (Itz K a b).yld i H x H' → g x (wipe σ vs) H' fun σ2 H2 => wipe σ2 vs = wipe σ vs ∧ tt σ2 H2 fun b H3 =>
        if b = true then te σ2 H3 fun y H4 => ∃ acc, H4 D = some (.lst acc) ∧ acc.length < sizeLine ∧ Nx (upd H4 D (.lst (acc ++ [y]))) else Nx H3) := by
  refine ⟨fun i m H => m = n - i ∧ i ≤ n ∧ Pv i H, ⟨n, by simp, Nat.zero_le _, h0⟩, ?_⟩
  rintro i m H ⟨rfl, hi, p⟩
  obtain ⟨qx, qy⟩ := hq i H p
  by_cases hlt : i < n
  · have hl1 : i < xs.length := by omega
    have hl2 : i < ys.length := by omega
    refine .inr ⟨⟨xs, ys, _, _, qx, qy, List.getElem?_eq_getElem hl1, List.getElem?_eq_getElem hl2⟩, Pv (i + 1), fun H' p' => ⟨n - (i + 1), by omega, rfl, hlt, p'⟩, fun v H' y => ?_⟩
    obtain ⟨T, x', y', rfl, hT, rfl, f1, f2⟩ := y
    exact hs i x' y' T H (f1 xs qx) (f2 ys qy) p hT
  · have e : i = n := by omega
    subst e
    exact .inl ⟨⟨xs, ys, qx, qy, by omega⟩, hd H p⟩
theorem for_zip {K : PySem.W.Frag} {a b : Addr} {xs ys : List V} {g : TG} {tb : TS} {D : Ends} {σ : L2.St} {H : Hp} (n : Nat) (hn : n = min xs.length ys.length) (Pv : Nat → L2.St → Hp → Prop) (h0 : Pv 0 σ H) (hq : ∀ i σ H, Pv i σ H → SqL K H a xs ∧ SqL K H b ys)
    (hs : ∀ (i : Nat) (x y : V) (T : Addr) (σ : L2.St) (H : Hp), xs[i]? = some x → ys[i]? = some y → Pv i σ H → H T = none → g (.ref T) σ (upd H T (.tup [x, y])) fun σ2 H2 => tb { D with nx := Pv (i + 1), ct := Pv (i + 1), bk := D.nx } σ2 H2) (hd : ∀ σ H, Pv n σ H → D.nx σ H) :
    ∃ W : Nat → Nat → L2.St → Hp → Prop, (∃ m, W 0 m σ H) ∧ ∀ i m σ H, W i m σ H →
      ((Itz K a b).stop i H ∧ D.nx σ H) ∨ ((Itz K a b).go i H ∧ ∃ N : L2.St → Hp → Prop, (∀ σ' H', N σ' H' → ∃ m', m' < m ∧ W (i + 1) m' σ' H') ∧ ∀ v H', (Itz K a b).yld i H v H' → g v σ H' fun σ2 H2 => tb { D with nx := N, ct := N, bk := D.nx } σ2 H2) := by
  refine ⟨fun i m σ H => m = n - i ∧ i ≤ n ∧ Pv i σ H, ⟨n, rfl, Nat.zero_le _, h0⟩, ?_⟩
  rintro i m σ H ⟨rfl, hi, p⟩
  obtain ⟨qx, qy⟩ := hq i σ H p
  by_cases hlt : i < n
  · have hl1 : i < xs.length := by omega
    have hl2 : i < ys.length := by omega
    refine .inr ⟨⟨xs, ys, _, _, qx, qy, List.getElem?_eq_getElem hl1, List.getElem?_eq_getElem hl2⟩, Pv (i + 1), fun σ' H' p' => ⟨n - (i + 1), by omega, rfl, hlt, p'⟩, fun v H' y => ?_⟩
    obtain ⟨T, x', y', rfl, hT, rfl, f1, f2⟩ := y
    exact hs i x' y' T σ H (f1 xs qx) (f2 ys qy) p hT
  · have e : i = n := by omega
    subst e
    exact .inl ⟨⟨xs, ys, qx, qy, by omega⟩, hd σ H p⟩
end CB
namespace CB
open PySem PySem.Spec PyProof.Rows L2
/-! ### steps -/
def sg (up : Bool) : Int := if up then 1 else -1
def goesB (rs bs : List Int) (L : Nat) (up : Bool) : Bool := if up then decide (rs.getD L 0 ≤ bs.getD L 0) else decide (1 ≤ bs.getD (L + 1) 0)
def stepL (rs bs : List Int) (L : Nat) (up : Bool) : List Int := (bs.set L (bs.getD L 0 - sg up * rs.getD L 0)).set (L + 1) (bs.getD (L + 1) 0 + sg up)
def optP (rs bs : List Int) (L : Nat) (up : Bool) : List (Int × Bool) := if goesB rs bs L up = true then [((L : Int), up)] else []
def canP (rs bs : List Int) (i : Nat) : List (Int × Bool) := (List.range i).flatMap fun L => optP rs bs L true ++ optP rs bs L false
def canL (rs bs : List Int) : List (Int × Bool) := canP rs bs rs.length
theorem canP_succ (rs bs : List Int) (i : Nat) : canP rs bs (i + 1) = (canP rs bs i ++ optP rs bs i true) ++ optP rs bs i false := by
  unfold canP
  rw [List.range_succ, List.flatMap_append, List.flatMap_cons, List.flatMap_nil, List.append_nil, List.append_assoc]
theorem optP_len (rs bs : List Int) (L : Nat) (up : Bool) : (optP rs bs L up).length ≤ 1 := by
  unfold optP
  split <;> simp
theorem canP_len (rs bs : List Int) (i : Nat) : (canP rs bs i).length ≤ 2 * i := by
  induction i with
  | zero => exact Nat.le_refl _
  | succ i ih =>
    rw [canP_succ, List.length_append, List.length_append]
    have := optP_len rs bs i true
    have := optP_len rs bs i false
    omega
theorem mem_opt {rs bs : List Int} {L : Nat} {up : Bool} {p : Int × Bool} : p ∈ optP rs bs L up ↔ p = ((L : Int), up) ∧ goesB rs bs L up = true := by
  unfold optP
  split
  · rename_i h
    simp [h]
  · rename_i h
    simp [h]
theorem mem_can {rs bs : List Int} {p : Int × Bool} : p ∈ canL rs bs ↔ ∃ L : Nat, L < rs.length ∧ p.1 = (L : Int) ∧ goesB rs bs L p.2 = true := by
  unfold canL canP
  rw [List.mem_flatMap]
  constructor
  · rintro ⟨L, hL, hp⟩
    rcases List.mem_append.mp hp with h | h
    · obtain ⟨e, g⟩ := mem_opt.mp h
      subst e
      exact ⟨L, List.mem_range.mp hL, rfl, g⟩
    · obtain ⟨e, g⟩ := mem_opt.mp h
      subst e
      exact ⟨L, List.mem_range.mp hL, rfl, g⟩
  · rintro ⟨L, hL, e, g⟩
    obtain ⟨l, up⟩ := p
    simp only at e g
    subst e
    refine ⟨L, List.mem_range.mpr hL, List.mem_append.mpr ?_⟩
    cases up with
    | true => exact .inl (mem_opt.mpr ⟨rfl, g⟩)
    | false => exact .inr (mem_opt.mpr ⟨rfl, g⟩)
theorem stepL_len (rs bs : List Int) (L : Nat) (up : Bool) : (stepL rs bs L up).length = bs.length := by
  unfold stepL
  rw [List.length_set, List.length_set]
theorem stepL_get {rs bs : List Int} {L j : Nat} {up : Bool} (h : L + 1 < bs.length) : (stepL rs bs L up)[j]? = if j = L then some (bs.getD L 0 - sg up * rs.getD L 0) else if j = L + 1 then some (bs.getD (L + 1) 0 + sg up) else bs[j]? := by
  unfold stepL
  rw [List.getElem?_set, List.getElem?_set, List.length_set]
  by_cases h1 : j = L
  · subst h1
    rw [if_pos rfl, if_neg (by omega), if_pos rfl, if_pos (by omega)]
  · rw [if_neg h1]
    by_cases h2 : j = L + 1
    · subst h2
      rw [if_pos rfl, if_pos rfl, if_pos h]
    · rw [if_neg h2, if_neg (by omega), if_neg (by omega)]
theorem getD_of {l : List Int} {i : Nat} (h : i < l.length) : l[i]? = some (l.getD i 0) := by
  rw [List.getD_eq_getElem?_getD, List.getElem?_eq_getElem h]
  rfl
theorem W_stepL {rs bs : List Int} {L : Nat} (up : Bool) (hb : bs.length = rs.length + 1) (h : L < rs.length) : W rs (stepL rs bs L up) = W rs bs := by
  have := W_step rs bs L (rs.getD L 0) (bs.getD L 0) (bs.getD (L + 1) 0) (-(sg up)) hb (getD_of h) (getD_of (by omega)) (getD_of (by omega))
  unfold stepL
  rw [set_comm' (by omega)]
  rw [← this]
  congr 2
  · congr 1
    omega
  · rw [Int.neg_mul]
    omega
theorem GB_stepL {rs bs : List Int} {L : Nat} {up : Bool} (hr : Rat rs) (gb : GB rs bs) (h : L < rs.length) (hg : goesB rs bs L up = true) : GB rs (stepL rs bs L up) := by
  have hb := gb.1
  refine ⟨by rw [stepL_len]; exact hb, fun x hx => ?_⟩
  obtain ⟨j, hj⟩ := List.getElem?_of_mem hx
  rw [stepL_get (by omega)] at hj
  have hr0 := hr (rs.getD L 0) (List.mem_of_getElem? (getD_of h))
  have hb0 := gb.2 (bs.getD L 0) (List.mem_of_getElem? (getD_of (by omega)))
  have hb1 := gb.2 (bs.getD (L + 1) 0) (List.mem_of_getElem? (getD_of (by omega)))
  by_cases h1 : j = L
  · rw [if_pos h1] at hj
    have e := Option.some.inj hj
    cases up with
    | true =>
      have := of_decide_eq_true (show decide (rs.getD L 0 ≤ bs.getD L 0) = true from hg)
      simp only [sg, if_true, Int.one_mul] at e
      omega
    | false =>
      have e' : bs.getD L 0 - -1 * rs.getD L 0 = x := e
      omega
  · rw [if_neg h1] at hj
    by_cases h2 : j = L + 1
    · rw [if_pos h2] at hj
      have e := Option.some.inj hj
      cases up with
      | true =>
        have e' : bs.getD (L + 1) 0 + 1 = x := e
        omega
      | false =>
        have := of_decide_eq_true (show decide (1 ≤ bs.getD (L + 1) 0) = true from hg)
        have e' : bs.getD (L + 1) 0 + -1 = x := e
        omega
    · rw [if_neg h2] at hj
      exact gb.2 x (List.mem_of_getElem? hj)
theorem sg_not (up : Bool) : sg (!up) = - sg up := by cases up <;> rfl
theorem stepL_getD {rs bs : List Int} {L : Nat} {up : Bool} (h : L + 1 < bs.length) : (stepL rs bs L up).getD L 0 = bs.getD L 0 - sg up * rs.getD L 0 ∧ (stepL rs bs L up).getD (L + 1) 0 = bs.getD (L + 1) 0 + sg up := by
  constructor
  · rw [List.getD_eq_getElem?_getD, stepL_get h, if_pos rfl]
    rfl
  · rw [List.getD_eq_getElem?_getD, stepL_get h, if_neg (by omega), if_pos rfl]
    rfl
/-- the contrary step can be done and leads back -/
theorem step_back {rs bs : List Int} {L : Nat} {up : Bool} (hr : Rat rs) (gb : GB rs bs) (h : L < rs.length) : goesB rs (stepL rs bs L up) L (!up) = true ∧ stepL rs (stepL rs bs L up) L (!up) = bs := by
  have hb := gb.1
  have hl : L + 1 < bs.length := by omega
  have hb0 := gb.2 (bs.getD L 0) (List.mem_of_getElem? (getD_of (by omega)))
  have hb1 := gb.2 (bs.getD (L + 1) 0) (List.mem_of_getElem? (getD_of (by omega)))
  obtain ⟨e1, e2⟩ := stepL_getD (rs := rs) (bs := bs) (L := L) (up := up) hl
  constructor
  · cases up with
    | true =>
      show decide (1 ≤ (stepL rs bs L true).getD (L + 1) 0) = true
      rw [e2]
      exact decide_eq_true (show 1 ≤ bs.getD (L + 1) 0 + 1 by omega)
    | false =>
      show decide (rs.getD L 0 ≤ (stepL rs bs L false).getD L 0) = true
      rw [e1]
      exact decide_eq_true (show rs.getD L 0 ≤ bs.getD L 0 - -1 * rs.getD L 0 by omega)
  · refine List.ext_getElem? fun j => ?_
    rw [stepL_get (by rw [stepL_len]; exact hl), e1, e2, sg_not]
    by_cases h1 : j = L
    · rw [if_pos h1, h1, getD_of (show L < bs.length by omega)]
      congr 1
      rw [Int.neg_mul]
      omega
    · rw [if_neg h1]
      by_cases h2 : j = L + 1
      · rw [if_pos h2, h2, getD_of hl]
        congr 1
        omega
      · rw [if_neg h2, stepL_get hl, if_neg h1, if_neg h2]
/-! ### steps in the heap -/
def Tups (H : Hp) : List Addr → List (Int × Bool) → Prop
  | [], [] => True
  | t :: ts, s :: ss => H t = some (.tup [.int s.1, .bl s.2]) ∧ Tups H ts ss
  | _, _ => False
theorem Tups.imp {H H' : Hp} (k : ∀ t xs, H t = some (.tup xs) → H' t = some (.tup xs)) : ∀ {ts : List Addr} {ss : List (Int × Bool)}, Tups H ts ss → Tups H' ts ss
  | [], [], _ => trivial
  | [], _ :: _, h => h.elim
  | _ :: _, [], h => h.elim
  | t :: ts, s :: ss, h => ⟨k _ _ h.1, Tups.imp k h.2⟩
theorem Tups.same {H H' : Hp} {ts : List Addr} {ss : List (Int × Bool)} (h : Tups H ts ss) (s : Same H H') : Tups H' ts ss := h.imp fun t xs e => s _ _ e
theorem Tups.upd {H : Hp} {p : Addr} {xs : List V} {o : HO} {ts : List Addr} {ss : List (Int × Bool)} (h : Tups H ts ss) (e : H p = some (.lst xs)) : Tups (L2.upd H p o) ts ss := h.imp fun t ys e' => by
  rw [upd_ne (ne_of e' e (fun z => by cases z))]
  exact e'
theorem Tups.len {H : Hp} : ∀ {ts : List Addr} {ss : List (Int × Bool)}, Tups H ts ss → ts.length = ss.length
  | [], [], _ => rfl
  | [], _ :: _, h => h.elim
  | _ :: _, [], h => h.elim
  | t :: ts, s :: ss, h => by rw [List.length_cons, List.length_cons, Tups.len h.2]
theorem Tups.append {H : Hp} : ∀ {ts us : List Addr} {ss rr : List (Int × Bool)}, Tups H ts ss → Tups H us rr → Tups H (ts ++ us) (ss ++ rr)
  | [], _, [], _, _, h => h
  | [], _, _ :: _, _, h, _ => h.elim
  | _ :: _, _, [], _, h, _ => h.elim
  | t :: ts, us, s :: ss, rr, h, h2 => ⟨h.1, Tups.append h.2 h2⟩
theorem Tups.get {H : Hp} : ∀ {ts : List Addr} {ss : List (Int × Bool)} {i : Nat} {s : Int × Bool}, Tups H ts ss → ss[i]? = some s → ∃ t, ts[i]? = some t ∧ H t = some (.tup [.int s.1, .bl s.2])
  | [], [], i, s, _, e => by simp at e
  | [], _ :: _, _, _, h, _ => h.elim
  | _ :: _, [], _, _, h, _ => h.elim
  | t :: ts, s :: ss, 0, s', h, e => by
    cases e
    exact ⟨t, rfl, h.1⟩
  | t :: ts, s :: ss, i + 1, s', h, e => Tups.get (i := i) h.2 e
def TellT (H : Hp) (Q : VK) (ss : List (Int × Bool)) : Prop := ∀ (H' : Hp) (p : Addr) (ts : List Addr), Same H H' → H p = none → H' p = some (.lst (ts.map V.ref)) → Tups H' ts ss → Q (.ref p) H'
theorem dpAll_T {K : PySem.W.Frag} {H : Hp} : ∀ {ts : List Addr} {ss : List (Int × Bool)}, Tups H ts ss → DpAll K H (ts.map V.ref) (ss.map dStep)
  | [], [], _ => .nil
  | [], _ :: _, h => h.elim
  | _ :: _, [], h => h.elim
  | t :: ts, s :: ss, h => .cons (.tup (SqT.of h.1) (.cons (.int _) (.cons (.bl _) .nil))) (dpAll_T h.2)
theorem dp_LT {K : PySem.W.Frag} {H : Hp} {a : Addr} {ts : List Addr} {ss : List (Int × Bool)} (h : SqL K H a (ts.map V.ref)) (t : Tups H ts ss) : Dp K H (.ref a) (.list (ss.map dStep)) := .lst h (dpAll_T t)
theorem dp_T {K : PySem.W.Frag} {H : Hp} {a : Addr} {s : Int × Bool} (h : H a = some (.tup [.int s.1, .bl s.2])) : Dp K H (.ref a) (dStep s) := .tup (SqT.of h) (.cons (.int _) (.cons (.bl _) .nil))
theorem units65 {A : Around} {k : Nat} (hr : Room k A) : A.units + 65 < cLine := by
  have := hr.un
  omega
theorem any_step (ss : List (Int × Bool)) (s : Int × Bool) : ((ss.map dStep).any fun z => PyData.eqv z (dStep s)) = decide (s ∈ ss) := by
  induction ss with
  | nil => simp
  | cons x xs ih =>
    rw [List.map_cons, List.any_cons, ih, eqv_dStep]
    by_cases h : x = s
    · simp [h]
    · have h' : ¬ s = x := fun z => h z.symm
      simp [h, h']
end CB
namespace CB
open PySem PySem.Spec PyProof.Rows L2
/-! ### a comprehension that a call in its element may leave by an exception -/
section
variable {X : Cx} {pins pins' : List (Addr × Obj)} {σ σ' : L2.St} {H3 H : Hp} {s3 s s' : Shared} {scope : Scope} {ce : Env} {fp : List Addr} {E0 : XK} {e : Value}
/-- an exception that came out of a call in the block: the block's names are let go, then it flies on in the def's own frame -/
theorem block_fails (I3 : Inv X pins σ H3 s3) (hst : X.stack = X.env :: X.outer) (hfl : X.env.frame = some X.env.locals) (tk : Takes X (fun cls d _ H => E0 cls d H)) (hcf : ce.frame = X.env.frame) (hcl : ce.locals = s3.heap.objs.size)
    (hfp : ∀ b ∈ fp, FpOk X pins H3 b) (Ib : Inv (X.blk s3 H3 scope ce fp) pins' σ' H s) (c : L2.CX X.prog X.w X.stack H s E0 e s') :
    notedBy (model X.prog X.w) X.A ce (CompFails (model X.prog X.w) X.A X.xe ce) e s' := by
  obtain ⟨a, B, H', cls, d, rfl, fl, hok, ub, na, os, ag, hE⟩ := c
  have hfr : X.A.frames = some (X.env :: X.outer) := by rw [I3.ok.frames, hst]
  have hC : H ce.locals = none := Ib.free
  obtain ⟨m, ⟨oC, es, ep, hoC, rN⟩, _⟩ := Ib.loc
  have hoC : s.heap.get? ce.locals = some oC := hoC
  have small : ∀ b o, s3.heap.get? b = some o → b ≠ ce.locals := fun b o q => by rw [hcl]; exact Nat.ne_of_lt (Heap.lt_size q)
  have Cfr : ce.locals ∉ frs X.stack := fun hm => by
    rcases List.mem_cons.mp (I3.stkSub _ hm) with z | z
    · have := I3.lt
      rw [← z, hcl] at this
      exact absurd this (Nat.lt_irrefl _)
    · exact I3.nofs (a := ce.locals) (by rw [hcl]; exact Nat.le_refl _) z
  have BC : B.get? ce.locals = some oC := ub.keep _ _ hoC hC Cfr
  have HC : H' ce.locals = none := ub.free _ _ hoC hC
  -- the ground and the state without the block's names
  obtain ⟨G, g1, g2⟩ := restrict s'.heap fun b => ((B.get? b).isSome && !decide (b = ce.locals)) || decide (b ∈ frs X.stack)
  obtain ⟨B', b1, b2⟩ := restrict B fun b => !decide (b = ce.locals)
  have st : B.StaysIn s'.heap := fl.1
  have gB : ∀ b o, B.get? b = some o → b ≠ ce.locals → G.get? b = some o := fun b o q hb => by
    rw [g1 b (by simp [q, hb])]
    exact st b o q
  have gF : ∀ b, b ∈ frs X.stack → G.get? b = s'.heap.get? b := fun b hb => g1 b (by simp [hb])
  have oG : ∀ b o, G.get? b = some o → s'.heap.get? b = some o ∧ (((B.get? b).isSome = true ∧ b ≠ ce.locals) ∨ b ∈ frs X.stack) := fun b o q => by
    cases z : (((B.get? b).isSome && !decide (b = ce.locals)) || decide (b ∈ frs X.stack)) with
    | false => rw [g2 b z] at q; cases q
    | true =>
      rw [g1 b z] at q
      refine ⟨q, ?_⟩
      simpa [Bool.or_eq_true] using z
  have B'C : B'.get? ce.locals = none := b2 _ (by simp)
  have B'o : ∀ b, b ≠ ce.locals → B'.get? b = B.get? b := fun b hb => b1 b (by simp [hb])
  have hokG : HOk X.prog X.w H' G := fun b o q => (hok b o q).stay (fun c u hc r => gB c u r fun z => by
    subst z
    rcases hc with hc | hc
    · rw [hc, q] at HC; cases HC
    · rw [hc] at HC; cases HC) (fun _ r => r) fun _ _ r => r
  have IX : Inv X pins σ H' { s' with heap := G } := by
    refine I3.call' (s' := { s' with heap := G }) (ch := fp) (os.trans Ib.os) ⟨fun b o q n hb hx => ?_, fun b o q n hb hx => ?_, fun b o q n hx => ?_, fun b o q hx => ?_, fun b xs q => ub.tups b xs (Ib.base.tups b xs q), fun b o u q => ub.frzs b o u (Ib.base.frzs b o u q), fun b ps q => ?_⟩ hokG ag
      fun b hb => ⟨(hfp b hb).2.2.2.1, (hfp b hb).2.1, (hfp b hb).2.2.2.2.1, (hfp b hb).2.2.2.2.2⟩
    · exact gB b o (ub.keep b o (Ib.base.keep b o q n hb hx) (Ib.base.free b o q n hx) hb) (small b o q)
    · obtain ⟨sl, q1⟩ := Ib.base.slot b o q n hb hx
      obtain ⟨sl2, q2⟩ := ub.slot b _ q1 hb
      exact ⟨sl2, by rw [gF b hb]; exact q2⟩
    · obtain ⟨sl, q1⟩ := Ib.base.any q n hx
      exact ub.free b _ q1 (Ib.base.free b o q n hx)
    · obtain ⟨o1, q1⟩ := Ib.base.there b o q hx
      by_cases hb : b ∈ frs X.stack
      · obtain ⟨sl, q2⟩ := ub.slot b o1 q1 hb
        exact ⟨_, by rw [gF b hb]; exact q2⟩
      · obtain ⟨o2, q2⟩ := ub.there b o1 q1 hb
        exact ⟨o2, gB b o2 q2 (small b o q)⟩
    · obtain ⟨m1, q1⟩ := Ib.base.tbls b ps q
      obtain ⟨m2, q2⟩ := ub.tbls b _ q1
      exact ⟨m1 ++ m2, by rw [q2, Array.append_assoc]⟩
  -- noted by the def's own frame
  show wpAny (model X.prog X.w) X.A (noteFrame (.ref a) ce) _ _ s'
  rw [noteFrame_env _ hcf]
  refine HandSPX.looks_onZ Zc.steady hfr hfl (by rw [← hst]; exact fl) fun h1 hh1 up1 => ?_
  obtain ⟨k1, k2, k3, oe, vs, T, oT, ts, he, hz, hd, h1f, hnT, hTe, hT, hdT, ht3⟩ := hh1
  have aC : a ≠ ce.locals := fun z => by rw [z, BC] at k2; cases k2
  have TC : T ≠ ce.locals := fun z => by rw [z, BC] at hnT; cases hnT
  refine ⟨m, ⟨oC, es, ep, k1 _ _ BC, rN⟩, fun h2 m2 hn2 sb => ?_⟩
  have he2 : h2.get? a = some oe := (sb.2 a aC).trans he
  have hT2 : h2.get? T = some oT := (sb.2 T TC).trans hT
  have st2 : B'.StaysIn h2 := fun b o q => by
    have hb : b ≠ ce.locals := fun z => by rw [z, B'C] at q; cases q
    rw [B'o b hb] at q
    exact (sb.2 b hb).trans (k1 b o q)
  have f2 : h2.FunFrames B' (X.env :: X.outer) := funFrames_none (Heap.FunFrames.sameBut sb hn2 k3) fun L hL => by
    by_cases z : L = ce.locals
    · rw [z]; exact B'C
    · rw [B'o L z]; exact (k3.mem hL).1
  have tr2 : HandSPX.TracedZ h2 B' a (Zc cls d) (rawInt X.env.locals) := ⟨oe, vs, T, oT, ts, he2, hz, hd, h1f, (by rw [B'o T TC]; exact hnT), hTe, hT2, hdT, ht3⟩
  unfold PySem.passOn
  refine wpAny_bind (wpAny_field he2 hd h1f ?_)
  rw [if_neg (show ¬ ((Value.ref T == Value.none) = true) from by simp)]
  rw [hcf, hfl]
  refine wpAny_bind (HandSPX.setFlight_anyZ (fr := some X.env.locals) st2 f2 tr2 fun h4 q1 q2 q3 q4 => wpAny_throw (tk _ _ ?_))
  refine ⟨a, B', { s' with heap := G }, pins, σ, H', cls, d, rfl, IX, fun b o q hb => ?_, fun b o q hnf => ?_, .inr (.inr ⟨q1, (by rw [B'o a aC]; exact k2), (by rw [hst]; exact q2), q3⟩), na, rfl, ag, hE⟩
  · obtain ⟨q5, q6⟩ := oG b o q
    rcases q6 with ⟨q6, q7⟩ | q6
    · obtain ⟨o', q8⟩ := Option.isSome_iff_exists.mp q6
      have q9 := st b o' q8
      rw [q5] at q9
      rw [B'o b q7, q8, ← q9]
    · exact absurd q6 hb
  · obtain ⟨q5, q6⟩ := oG b o q
    have hb : b ≠ ce.locals := by
      rcases q6 with ⟨_, q7⟩ | q7
      · exact q7
      · exact fun z => Cfr (by rw [← z]; exact q7)
    obtain ⟨sl1, r1⟩ := up1 b o q5 hnf
    have r2 : h2.get? b = some { o with slots := sl1 } := (sb.2 b hb).trans r1
    obtain ⟨sl2, r3⟩ := q4 b _ r2 hnf
    exact ⟨sl2, r3⟩
end
section
variable {X : Cx} {elt tg iter : Expr} {scope : Scope} {own : List (Str × Nat)} {pos spos py : Pos} {wi : TI} {g : TG} {te : TE} {E0 : XK} {i : Nat} {y : Str}
/-- name = [elt for tg in iter], where a call in elt may raise -/
theorem ps_setLcX (hst : X.stack = X.env :: X.outer) (hfl : X.env.frame = some X.env.locals) (tk : Takes X (fun cls d _ H => E0 cls d H)) (hc : X.calm = true) (hN : X.N.Nodup) (hy : X.N[i]? = some y) (hyl : X.env.scope.names.lookup y = some .local)
    (hsw : swapsWith (.ListComp elt [⟨tg, iter, [], 0⟩] scope pos) (some (.Name y py)) spos.line X.env = pure true) (hi : PI X tg iter wi) (ok : BlkOk X.N X.env.scope scope own)
    (hg : ∀ (s : Shared) (H : Hp) (C : Addr) (cl : List (Str × Addr)) (fp : List Addr), PG (X.blk s H scope (compEnvC scope cl C X.env) fp) tg g)
    (he : ∀ (s : Shared) (H : Hp) (C : Addr) (cl : List (Str × Addr)) (fp : List Addr) (xe : Value → Shared → Prop), (∀ σ, PassesAt (L2.CX X.prog X.w) ((X.blk s H scope (compEnvC scope cl C X.env) fp).wish xe) σ E0) → PE ((X.blk s H scope (compEnvC scope cl C X.env) fp).wish xe) elt te)
    (hs : ∀ x, foldedSetIterable iter X.env x = pure x := by intro _; rfl) :
    PS X (.Assign [.Name y py] (.ListComp elt [⟨tg, iter, [], 0⟩] scope pos) spos) (tAsg (tLc wi g tYes te (own.map (·.2))) (gName i)) := by
  refine ⟨fun pins s σ H D I h => ?_⟩
  rw [exec_Assign_Name_used _ _ _ _ hsw]
  refine wpAny_bind (wpAny_standAt (wpAny_bind ?_))
  have h : tLc wi g tYes te (own.map (·.2)) σ H (fun x H1 => gName i x σ H1 D.nx) := h
  have hfree : ∀ z ∈ scope.names, z.2 = .free → ∃ c, X.env.cells.lookup z.1 = some c := fun z hz q => (ok.free z hz q).elim (fun k => I.ok.has _ (.inl k)) (fun k => I.ok.has _ (.inr k))
  show wpAny _ X.A (do let _ ← comprehension (.ListComp elt [⟨tg, iter, [], 0⟩] scope pos) scope X.env (firstIterPos [⟨tg, iter, [], 0⟩] pos) (newList []) false (eval iter X.env) (some (assign (.Name y py) X.env))) _ _ s
  refine wpAny_bind (wpAny_mono (comprehension_at (use := some (assign (.Name y py) X.env)) (Q := fun _ s' => SP X pins D .next s') rfl hs (closure_ok hfree) ok.kind (fun z hz q => by rw [ok.uniq z hz, q])
    (thn (hi.run pins s σ H _ I h) fun xv s1 hx => thn hx fun itv s2 h2 => ?_)) (fun _ s' hq => wpAny_pure (wpAny_pure hq)) fun _ _ q => q)
  obtain ⟨it, fp, tn, J, H2, e, I2, T, st2, f2, q⟩ := h2
  subst e
  refine wpAny_newObj_type (newEnv_comp ?_) (by show 0 ≤ sizeLine; decide)
  generalize hL : s2.heap.objs.size = L
  have hLn : H2 L = none := I2.hok.fresh (Nat.le_of_eq hL)
  obtain ⟨W, ⟨m0, w0⟩, turn⟩ := q L hLn
  generalize hs3 : ({ s2 with heap := s2.heap.push { cls := .type "list", data := .seq ([] : List Value).toArray } } : Shared) = s3
  have h3 : s3.heap = s2.heap.push { cls := .type "list", data := .seq ([] : List Value).toArray } := by rw [← hs3]
  have I3 : Inv X pins σ (upd H2 L (.lst [])) s3 := by
    rw [← hs3]
    refine I2.laid (t' := s2.toks) (fun b o q => Heap.get?_push_of_some _ q) (Nat.le_of_eq hL) ⟨Nat.zero_le _, [], 0, .nil, ?_⟩
    rw [← hL]
    exact Heap.get?_push_size _ rfl
  have f3 : ∀ b ∈ fp, FpOk X pins (upd H2 L (.lst [])) b ∧ b < s3.heap.objs.size := fun b hb => by
    obtain ⟨o, q, _⟩ := T.obj _ _ st2 b hb
    have hlt := Heap.lt_size q
    refine ⟨⟨?_, (f2 b hb).2⟩, by rw [h3, Heap.size_push]; exact Nat.lt_succ_of_lt hlt⟩
    rw [upd_ne (by rw [← hL]; exact Nat.ne_of_lt hlt)]
    exact (f2 b hb).1
  have I4 := block_start I3 ok hN f3
  have pg := hg s3 (upd H2 L (.lst [])) s3.heap.objs.size (cellsFrom (s3.heap.objs.size + 1) scope.names (cloFrom X.env.cells scope.names [])) fp
  have pe := he s3 (upd H2 L (.lst [])) s3.heap.objs.size (cellsFrom (s3.heap.objs.size + 1) scope.names (cloFrom X.env.cells scope.names [])) fp
  have st3 : tn 0 s3.heap := T.keep _ _ _ st2 fun b _ o q => by rw [h3]; exact Heap.get?_push_of_some _ q
  show codeAny _ _ (.compStart (.ListComp elt [⟨tg, iter, [], 0⟩] scope pos) 0 (.ref it) (.ref L) (compEnvC scope (cellsFrom (s3.heap.objs.size + 1) scope.names (cloFrom X.env.cells scope.names [])) s3.heap.objs.size X.env))
    (compEnds (model X.prog X.w) X.A X.xe (some (assign (.Name y py) X.env)) (fun _ s' => SP X pins D .next s') (.ref L) (compEnvC scope (cellsFrom (s3.heap.objs.size + 1) scope.names (cloFrom X.env.cells scope.names [])) s3.heap.objs.size X.env)) { s3 with heap := pushCells (s3.heap.push { cls := .type "dict", data := .dict #[] }) scope.names }
  generalize hce : compEnvC scope (cellsFrom (s3.heap.objs.size + 1) scope.names (cloFrom X.env.cells scope.names [])) s3.heap.objs.size X.env = ce at I4 pg pe ⊢
  have cL : ce.locals = s3.heap.objs.size := by subst hce; rfl
  have cF : ce.frame = X.env.frame := by subst hce; rfl
  generalize hH3 : upd H2 L (.lst []) = H3 at I3 I4 pg pe w0 f3
  generalize hs4 : ({ s3 with heap := pushCells (s3.heap.push { cls := .type "dict", data := .dict #[] }) scope.names } : Shared) = s4 at I4 ⊢
  have st4 : tn 0 s4.heap := T.keep _ _ _ st3 fun b _ o q => by rw [← hs4]; exact pushCells_keeps _ _ _ _ (Heap.get?_push_of_some _ q)
  have out : ∀ {pins' : List (Addr × Obj)} {σ' : L2.St} {H' : Hp} {s' : Shared}, Inv (X.blk s3 H3 scope ce fp) pins' σ' H' s' → ∀ u s'', L2.CX X.prog X.w X.stack H' s' E0 u s'' → notedBy (model X.prog X.w) X.A ce (CompFails (model X.prog X.w) X.A X.xe ce) u s'' :=
    fun I' u s'' c => block_fails I3 hst hfl tk cF cL (fun b hb => (f3 b hb).1) I' c
  have pe := pe (notedBy (model X.prog X.w) X.A ce (CompFails (model X.prog X.w) X.A X.xe ce)) fun σ' pins' H' s' u s'' I' c => out (Inv.unwish (X := X.blk s3 H3 scope ce fp) I') u s'' c
  have stat : ∀ {σ' : L2.St} {H' : Hp} {s' : Shared}, Inv (X.blk s3 H3 scope ce fp) [] σ' H' s' → (∀ b ∈ fp, H' b = none) → ∀ b ∈ fp, FpOk (X.blk s3 H3 scope ce fp) [] H' b := fun {σ' H' s'} I' hn b hb =>
    ⟨hn b hb, (I'.ok.exf b hb).1, I'.ok.exfs b hb, .inl hb, fun x c q => (I'.ok.exf b hb).2 x c q, fun p hp => absurd (show p ∈ ([] : List (Addr × Obj)) ++ [] from hp) (by simp)⟩
  refine codeAny_compStart_list ?_ (T.self X.A 0 _ _ _ st4 ?_)
  all_goals
    refine compLoop_any (fun n s' => ∃ i H', Inv (X.blk s3 H3 scope ce fp) [] (wipe σ (own.map (·.2))) H' s' ∧ tn i s'.heap ∧ (∀ b ∈ fp, H' b = none) ∧ W i n H') ?_ m0 ⟨0, H3, I4, st4, fun b hb => (f3 b hb).1.1, w0⟩
    rintro n s5 ⟨k, H5, I5, st5, n5, w5⟩
    rcases turn k n H5 w5 with ⟨stop, qq⟩ | ⟨go, Nx, hNx, step⟩
    · refine thnF (T.done (X.blk s3 H3 scope ce fp) rfl rfl rfl hc k [] s5 _ H5 (fun _ _ => False) I5 (stat I5 n5) st5 stop) fun r s6 ⟨hr, I6⟩ => ?_
      subst hr
      have I7 : Inv X pins σ H5 s6 := I3.call' (ch := fp) I6.os I6.base I6.hok I6.bare fun b hb => ⟨(f3 b hb).1.2.2.2.1, (f3 b hb).1.2.1, (f3 b hb).1.2.2.2.2.1, (f3 b hb).1.2.2.2.2.2⟩
      have nC : H5 ce.locals = none := I6.free
      obtain ⟨m, hn, _⟩ := I6.loc
      have hn : s6.heap.Ns ce.locals m := hn
      obtain ⟨f0, f1, _, f3', f4, f5⟩ := I3.fpOk (b := ce.locals) (by rw [cL]; exact Nat.le_refl _) nC
      show wpAny _ _ (assign (.Name y py) X.env (.ref L)) _ _ _
      refine wpAny_assign_Name (store_ok2 (v := V.ref L) I7 hN hy (.inl hyl) rfl (fun s8 I8 ⟨a, sb, ha⟩ => ?_) (.inr hyl))
      have haC : ce.locals ≠ a := by
        rcases ha with z | z
        · rw [z]; exact f1
        · exact fun q => f4 y a z q.symm
      exact ⟨m, hn.sameBut sb haC, fun h9 sb9 => ⟨_, H5, I8.turned (t' := s8.toks) (fun b o hb q => (sb9.2 b hb).trans q) f0 f1 f3' f4 f5, qq⟩⟩
    · refine thnF (T.item (X.blk s3 H3 scope ce fp) rfl rfl rfl hc k [] s5 _ H5 (fun _ _ => False) I5 (stat I5 n5) st5 go) fun r s6 ⟨u, hr, h6⟩ => ?_
      subst hr
      refine thnF h6 fun _ s7 ⟨x, H7, I7, r7, y7, st7, n7⟩ => ?_
      have I7' := I7.pinned (stat I7 n7) (T.obj _ _ st7)
      refine thnF (pg.run _ s7 _ H7 x u _ I7' r7 (step x H7 y7)) fun _ s8 ⟨σ8, H8, I8, hw8, q8⟩ => ?_
      refine wpAny_tests_nil ?_
      rw [if_pos rfl]
      have q8 : te σ8 H8 fun z H4 => ∃ acc, H4 L = some (.lst acc) ∧ acc.length < sizeLine ∧ Nx (upd H4 L (.lst (acc ++ [z]))) := q8
      have fin : ∀ {s' : Shared} {H' : Hp}, Inv (X.blk s3 H3 scope ce fp) ([] ++ pinsAt fp s7.heap) σ8 H' s' → Nx H' → ∃ m, m < n ∧ ∃ i H', Inv (X.blk s3 H3 scope ce fp) [] (wipe σ (own.map (·.2))) H' s' ∧ tn i s'.heap ∧ (∀ b ∈ fp, H' b = none) ∧ W i m H' := fun {s' H'} I' nx => by
        obtain ⟨m', hm, w'⟩ := hNx H' nx
        have pin' : ∀ b ∈ fp, ∀ o, s7.heap.get? b = some o → s'.heap.get? b = some o ∧ H' b = none := fun b hb o q =>
          let z := I'.pin (b, o) (List.mem_append_right _ (List.mem_append_right _ (mem_pinsAt hb q)))
          ⟨z.1, z.2.1⟩
        have hl : (wipe σ (own.map (·.2))).length = σ8.length := by rw [← hw8, wipe_length]
        refine ⟨m', hm, k + 1, H', (I'.unpinned (pins := [])).weak hl (fun j v q => ?_), T.keep _ _ _ st7 fun b hb o q => (pin' b hb o q).1, fun b hb => ?_, w'⟩
        · rw [← hw8] at q
          exact (wipe_some q).1
        · obtain ⟨o, q, _⟩ := T.obj _ _ st7 b hb
          exact (pin' b hb o q).2
      refine wpAny_mono (pe.run _ s8 σ8 H8 _ (I8.wish _) q8) (fun z s10 ⟨yv, H10, I10, r10, acc, hD10, hz10, nx⟩ => ?_) fun _ _ q => q
      exact app_ok (X := X.blk s3 H3 scope ce fp) (Inv.unwish (X := X.blk s3 H3 scope ce fp) I10) hD10 hz10 r10 fun s11 I11 => fin I11 nx
end
theorem pe_fA {X : Cx} {E0 : XK} {j k : Nat} {x : Str} {ps : List Str} {sp : Sp} {e : Expr} {es : List Expr} {t : TA} {p pos : Pos} (c : Callee X.prog X.w X.K X.mg X.base k x ps sp) (hr : Room j X.A) (hk : k ≤ j) (pa : ∀ σ, PassesAt (L2.CX X.prog X.w) X σ E0)
    (ha : PA X (e :: es) t) (hg : Gl X x := by rfl) (hdb : (x == ("__debug__" : Str)) = false := by decide) (he : starEach (e :: es) X.env = (false, eval e X.env) :: starEach es X.env := by rfl) (hpl : (backTo pos (starEach es X.env)).any (·.1) = false := by rfl) :
    PE X (.Call (.Name x p) (e :: es) [] pos) (tCallS sp (fun _ => E0) t) := by
  obtain ⟨f, fd, F, hm, hkp, hb⟩ := c
  exact pe_callS F (hr.mono hk) hg hm hkp hb pa ha hdb he hpl
end CB
namespace CB
open PySem PySem.Spec PyProof.Rows L2
open RT
/-! ### list(reversed(x)), x a list -/
section
variable {prog : Program} {w : World} {A : Around} {E : Value → Shared → Prop} {s : Shared}
theorem call_list_revIter {it l : Addr} {items : Array Value} {Q : Value → Shared → Prop} (hh : A.handled = none) (hit : s.heap.IsRevIter it l ((items.size : Int) - 1)) (hl : s.heap.IsList l items) (hne : l ≠ it) (hn : items.size ≤ sizeLine)
    (hQ : ∀ (h' : Heap) (tk : Nat) (acc : Array Value) (c' : Nat), (∀ b o, b ≠ it → s.heap.get? b = some o → h'.get? b = some o) → h'.get? s.heap.objs.size = some { cls := .type "list", dict := none, data := .seq acc c', slots := #[] } →
      ItemsOf (fun i v => items[items.size - 1 - i]? = some v) acc items.size → Q (.ref s.heap.objs.size) { s with heap := h', toks := tk }) :
    wpAny (model prog w) A (call (.type "list") [.ref it]) Q E s := by
  refine callType_codes (Q₁ := fun obj s₁ => obj = .ref s.heap.objs.size ∧ s₁ = { s with heap := s.heap.push { cls := .type "list", data := .seq #[] } }) F.called_list (F.typeCall_list_1 _) F.entry_list_init
    (code_list_new _ ⟨rfl, rfl⟩) fun obj s₁ h₁ => ?_
  obtain ⟨rfl, rfl⟩ := h₁
  have hS : (s.heap.push { cls := .type "list", data := .seq #[] }).get? s.heap.objs.size = some { cls := .type "list", data := .seq #[] } := Heap.get?_push_size _ rfl
  obtain ⟨oi, hoi, _⟩ := id hit
  obtain ⟨ol, hol, _⟩ := id hl
  have hSi : s.heap.objs.size ≠ it := Nat.ne_of_gt (Heap.lt_size hoi)
  have hSl : s.heap.objs.size ≠ l := Nat.ne_of_gt (Heap.lt_size hol)
  have hSf : s.heap.objs.size ∉ [it, l] := by simp only [List.mem_cons, List.not_mem_nil, or_false, not_or]; exact ⟨hSi, hSl⟩
  refine ⟨⟨_, hS, rfl⟩, F.args_list_init_2 _ _, ?_⟩
  show wpAny _ _ (do let old ← Builtin.List.listItems (.ref s.heap.objs.size); Builtin.List.listUpdate (.ref s.heap.objs.size) (fun _ => #[]); letGo old.toList.reverse; Builtin.List.listExtendWith (.ref s.heap.objs.size) (.ref it) .none) _ _ _
  refine wpAny_bind ?_
  unfold Builtin.List.listItems
  refine wpAny_bind (wpAny_seqItems hS rfl (wpAny_pure ?_))
  show wpAny _ _ (updateSeq s.heap.objs.size (fun _ => #[]) >>= fun _ => letGo (#[] : Array Value).toList.reverse >>= fun _ => Builtin.List.listExtendWith (.ref s.heap.objs.size) (.ref it) .none) _ _ _
  refine wpAny_bind (wpAny_updateSeq hS rfl ?_)
  have hS₂ := Heap.get?_update_self (Obj.mapSeq (fun _ => (#[] : Array Value))) hS rfl
  have oth : ∀ b o, s.heap.get? b = some o → ((s.heap.push { cls := .type "list", data := .seq #[] }).update s.heap.objs.size (Obj.mapSeq (fun _ => (#[] : Array Value)))).get? b = some o :=
    fun b o e => (Heap.get?_update_other _ _ (Nat.ne_of_gt (Heap.lt_size e))).trans (Heap.get?_push_of_some _ e)
  refine wpAny_bind (wpAny_letGo ?_)
  have hit1 := hit.at (oth it)
  have hl1 : ((s.heap.push { cls := .type "list", data := .seq #[] }).update s.heap.objs.size (Obj.mapSeq (fun _ => (#[] : Array Value)))).IsList l items := by
    obtain ⟨o, h1, r⟩ := hl
    exact ⟨o, oth l o h1, r⟩
  generalize (s.heap.push { cls := .type "list", data := .seq #[] }).update s.heap.objs.size (Obj.mapSeq (fun _ => (#[] : Array Value))) = h2 at hS₂ oth hit1 hl1
  have W := (Walks.listRev (prog := prog) (w := w) (A := A.in1.in1) hh it l hne items).toS
  have hT : ({ s with heap := h2 } : Shared).TypeIs (.ref it) "list_reverseiterator" := Heap.IsRevIter.typeIs (s := { s with heap := h2 }) hit1
  have h1 : Builtin.List.listSameRef (.ref s.heap.objs.size) (.ref it) = false := by simp [Builtin.List.listSameRef, hSi]
  unfold Builtin.List.listExtendWith
  refine wpAny_bind (wpAny_typeOf hT ?_)
  rw [if_neg (by rw [h1]; decide)]
  refine wpAny_bind (wpAny_pyIter_revIter (s := { s with heap := h2 }) hit1 ?_)
  refine wpAny_bind (wpAny_holding ?_)
  unfold Builtin.List.listLengthHint
  refine wpAny_bind (wpAny_specialOf hT nolen_lri ?_)
  show wpAny _ _ (specialOf (Value.ref it) (Str.ofString "__length_hint__") >>= _) _ _ _
  refine wpAny_bind (wpAny_specialOf hT hint_lri ?_)
  generalize hid : ("list_reverseiterator.__length_hint__" : String) = id0
  wp_delta
  rw [show splitId id0 = some ("list_reverseiterator", "__length_hint__") from by subst hid; decide +kernel]
  subst hid
  refine wpAny_bind (wpAny_isInstance (b := true) hT (by rw [isSubtype_type]; kernel_rfl) ?_)
  refine wpAny_pure ?_
  rw [if_neg (by decide)]
  have e0 : ((items.size : Nat) : Int) - 1 - ((0 : Nat) : Int) = (items.size : Int) - 1 := by omega
  refine wpAny_pure ⟨plainId_quiet F.plain_extend_loop _, codeAny_extend_loopS W hn _ hSf _ items.size 0 _ _ _ rfl (Nat.zero_le _) ⟨Nat.zero_le _, by rw [e0]; exact hit1, hl1⟩ hS₂ (ItemsOf.nil _) fun s' acc' c' hm hS' hacc => ?_⟩
  refine ⟨rfl, ?_⟩
  rw [Moved.eq_with hm]
  refine hQ s'.heap s'.toks acc' c' (fun b o hb e => hm.heap b o (fun hmem => ?_) (oth b o e)) hS' hacc
  rcases List.mem_cons.mp hmem with e' | hmem
  · exact absurd (Heap.lt_size e) (by rw [e']; exact Nat.lt_irrefl _)
  · exact hb (List.mem_singleton.mp hmem)
end
def tLstRev (K : PySem.W.Frag) (te : TE) : TE := fun σ H Q => te σ H fun v H1 => ∃ (a : Addr) (xs : List V), v = .ref a ∧ SqL K H1 a xs ∧ ∀ q, H1 q = none → Q (.ref q) (upd H1 q (.lst xs.reverse))
section
variable {X : Cx}
theorem pe_lrev {e : Expr} {te : TE} {p p2 pos pos2 : Pos} (hc : X.calm = true) (hg : Gl X "list") (hm : X.mg "list" = none) (hg2 : Gl X "reversed") (hm2 : X.mg "reversed" = none) (he : PE X e te)
    (hs : starEach [e] X.env = (false, eval e X.env) :: starEach [] X.env := by rfl)
    (hs2 : starEach [.Call (.Name "reversed" p2) [e] [] pos2] X.env = (false, eval (.Call (.Name "reversed" p2) [e] [] pos2) X.env) :: starEach [] X.env := by rfl) :
    PE X (.Call (.Name "list" p) [.Call (.Name "reversed" p2) [e] [] pos2] [] pos) (tLstRev X.K te) := by
  refine ⟨fun pins s σ H Q I h => ?_⟩
  refine Call_ (ld_blt I hg hm boot_list (PyProof.Rows.callWith_type1 (args_cons (Call_ (ld_blt I hg2 hm2 PyProof.Rows.boot_reversed (PyProof.Rows.callWith_type1 (args_cons (thn (he.run pins s σ H _ I h) fun u s1 ⟨v, H1, I1, r1, q1⟩ => args_nil ?_) hs) hs rfl))) hs2) hs2 rfl))
  obtain ⟨a, xs, ev, hq, q⟩ := q1
  subst ev
  obtain rfl : u = Value.ref a := r1
  obtain ⟨its, rv, p', hz⟩ := I1.list hq
  refine call_reversed_list p'.isList (args_nil ?_)
  have I2 : Inv X pins σ H1 { s1 with heap := s1.heap.push (revObj a ((its.toArray.size : Int) - 1)) } := I1.kept (t' := s1.toks) fun b o e => Heap.get?_push_of_some _ e
  obtain ⟨f0, f1, f2, f3, f4, f5⟩ := I1.fpOk (H' := H1) (b := s1.heap.objs.size) (Nat.le_refl _) (I1.hok.fresh (Nat.le_refl _))
  have hl := p'.isList
  obtain ⟨ol, hol, _⟩ := id hl
  have hne : a ≠ s1.heap.objs.size := Nat.ne_of_lt (Heap.lt_size hol)
  have hn : its.toArray.size ≤ sizeLine := by rw [List.size_toArray, ← rv.length]; exact hz
  refine call_list_revIter (s := { s1 with heap := s1.heap.push (revObj a ((its.toArray.size : Int) - 1)) }) (I1.ok.hd hc) ⟨_, Heap.get?_push_size _ rfl, rfl, rfl⟩ (hl.push _) hne hn fun h' tk acc c' hk hS' hi => ?_
  have sz : (s1.heap.push (revObj a ((its.toArray.size : Int) - 1))).objs.size = s1.heap.objs.size + 1 := Heap.size_push ..
  have hS'' : h'.get? (s1.heap.push (revObj a ((its.toArray.size : Int) - 1))).objs.size = some { cls := .type "list", dict := none, data := .seq acc c', slots := #[] } := hS'
  refine ⟨.ref (s1.heap.push (revObj a ((its.toArray.size : Int) - 1))).objs.size, upd H1 _ (.lst xs.reverse), I1.laid (t' := tk) (fun b o e => hk b o (Nat.ne_of_lt (Heap.lt_size e)) (Heap.get?_push_of_some _ e)) (by rw [sz]; exact Nat.le_succ _)
    (show ObjOk X.prog X.w _ _ _ (.lst xs.reverse) from ⟨by rw [List.length_reverse]; exact hz, acc.toList, c', vals_rev rv hi, ?_⟩), rfl, q _ (I1.hok.fresh (by rw [sz]; exact Nat.le_succ _))⟩
  rw [Array.toArray_toList]
  exact hS''
end
end CB
namespace CB
open PySem PySem.Spec PyProof.Rows L2
/-! ### "0" * 30 -/
def zeros : Str := ⟨(List.replicate 30 (Str.ofString "0").cps).foldl (· ++ ·) #[]⟩
def rMulS : R2 := fun x y H Q => x = .str (Str.ofString "0") ∧ y = .int 30 ∧ Q (.str zeros) H
theorem op_mulS {X : Cx} : OpR X (binaryOp .Mult) rMulS := by
  intro pins s σ H x y v u Q I rx ry h
  obtain ⟨rfl, rfl, q⟩ := h
  obtain ⟨t, rfl⟩ := rx
  obtain ⟨t', rfl⟩ := ry
  refine PySem.P.mul_str (by decide) (fun _ _ => by decide +kernel) (fun _ _ => by decide +kernel) ?_
  rw [if_neg (by decide), if_neg (by decide +kernel)]
  exact ⟨by decide +kernel, .str zeros, H, I.tok _, ⟨_, rfl⟩, q⟩
theorem tl_zeros : TL.tl zeros = List.replicate 30 48 := by decide +kernel
end CB
namespace CB
open PySem PySem.Spec PyProof.Rows L2
/-! ### a def that is called on the exception that an except suite holds -/
/-- xs.count(y), flat items -/
def rCntV (K : PySem.W.Frag) : V → List V → Hp → VK → Prop := fun x xs H Q => ∃ (p : Addr) (ys : List V) (y : V), x = V.ref p ∧ xs = [y] ∧ SqL K H p ys ∧ flatV y = true ∧ ys.all flatV = true ∧ Q (.int (ys.countP (fun z => eqV z y) : Nat)) H
theorem count_eqU {y : V} : ∀ {xs : List V} {us : List Value}, Vals xs us → xs.all flatV = true → us.countP (eqU y) = xs.countP fun z => eqV z y
  | _, _, .nil, _ => rfl
  | _ :: _, _ :: _, .cons r t, f => by
    rw [List.all_cons, Bool.and_eq_true] at f
    rw [List.countP_cons, List.countP_cons, count_eqU t f.2, eqU_of r f.1]
theorem mt_countV {X : Cx} : MtR X "list.count" (rCntV X.K) := by
  intro pins s σ H x xs v us Q I rx rxs h
  obtain ⟨p, ys, y, rfl, rfl, hs, fy, fys, q⟩ := h
  cases rx
  obtain ⟨u, rfl, ru⟩ := rxs.one
  obtain ⟨its, rv, ⟨⟨cls, dd, data, sl⟩, n, ho, hc, hdn, hd⟩, hlen⟩ := I.list hs
  simp only at hc hd
  subst hc hd
  refine call_meets PySem.F.slot_list_count ⟨_, ho, rfl⟩ PySem.F.entry_list_count (PySem.F.args_list_count_2 _ _)
    (SeqAt.list_countAt p its.toArray n dd sl u (eqU y)) ⟨ho, fun w hw => mem_eqAt ru fy rv fys w (by simpa using hw), ?_⟩
  have ec : its.toArray.toList.countP (eqU y) = ys.countP fun z => eqV z y := count_eqU rv fys
  refine ⟨.int (ys.countP (fun z => eqV z y) : Nat), H, I.tok _, ⟨s.toks, ?_⟩, q⟩
  show Value.int ((its.toArray.toList.countP (eqU y) : Nat) : Int) s.toks = _
  rw [ec]
/-- isinstance of the exception that stands pinned -/
theorem call_isP {X : Cx} {a D : Addr} {oe : Obj} (hp : (a, oe) ∈ X.pn) (C : ExcC X.K D) (hz : Zc (.ref D) none oe) (hf : ∃ vs, oe.data = .fields vs) : CallR X (.builtin "isinstance") (rIsE X.K D a) := by
  intro pins s σ H xs us Q I r h
  obtain ⟨c, cv, b, rfl, hcv, e, q⟩ := h
  obtain ⟨u1, u2, rfl, r1, r2⟩ := vals2 r
  cases (show u1 = Value.ref a from r1)
  cases hcv _ r2
  obtain ⟨hget, _⟩ := I.pin (a, oe) (List.mem_append_left _ hp)
  obtain ⟨vs, hv⟩ := hf
  have J : PySem.W.InstAt s.heap a oe D none := by
    obtain ⟨oc, od, oda, osl⟩ := oe
    obtain ⟨h1, h2⟩ := hz
    dsimp only at h1 h2 hv
    subst h1 h2 hv
    exact ⟨hget, rfl, rfl, trivial⟩
  exact PySem.W.kia_one (PySem.W.handS_kitx_exc C.hg C.hk C.hs C.hd C.ha C.hn C.ht C.hm) I.kIn J e (fun z => nomatch z) fun tk => ⟨.bl b, H, I.kept (t' := tk) fun _ _ z => z, rfl, q⟩
/-- what such a def promises: of the exception at a, of the class at D -/
abbrev SpE := Addr → Addr → Sp
structure ExIs (D : Addr) (p : Addr × Obj) : Prop where
  z : Zc (.ref D) none p.2
  f : ∃ vs, p.2.data = .fields vs
structure FnE (P : Program) (w : World) (K : PySem.W.Frag) (mg : Str → Option Value) (base : Heap) (k : Nat) (f : Addr) (fd : FuncData) (ps : List Str) (sp : SpE) : Prop where
  len : ∀ a D vs H Q E, sp a D vs H Q E → vs.length = ps.length
  run : ∀ (A : Around) (outer : List Env) (s : Shared) (H : Hp) (args : Args) (us : List Value) (vs : List V) (Q : VK) (E : XK) (p : Addr × Obj) (D : Addr), L2H.RoomH k A → ExIs D p → L2H.PinOk outer H s p → Env0 P w K mg base A outer s H → BindsTo s fd args (ps.zip us) → Vals vs us → sp p.1 D vs H Q E →
    codeAny (model P w) A (.call (.ref f) args) (CR (L2.CX P w) outer P w H s Q E) s
theorem fn_ofE {P : Program} {w : World} {K : PySem.W.Frag} {mg : Str → Option Value} {base : Heap} {k : Nat} {f : Addr} {name qual : Str} {params : Arguments} {body : List Stmt} {scope : Scope} {dV kV doc pm cdv ct oc : Value} {an od : Option Addr}
    {osl : Array (Option Value)} {N ps : List Str} {sp : SpE} (lk : K.lookup f = some ⟨oc, od, .func (PySem.W.fnOf name qual params body scope dV kV doc pm an cdv ct), osl⟩) (hcd : PySem.W.codeIn K cdv qual = true) (S : FnScope N ps scope)
    (len : ∀ a D vs H Q E, sp a D vs H Q E → vs.length = ps.length)
    (hbody : ∀ (A : Around) (outer : List Env) (s : Shared) (H : Hp) (vs : List V) (Q : VK) (E : XK) (p : Addr × Obj) (D : Addr), ExIs D p → L2H.RoomH k (A.deeper (envOfC qual scope s.heap.objs.size f cdv)) → sp p.1 D vs H Q E →
      ∃ t, PSs (L2H.cxH (L2.CX P w) P w K mg base N qual scope f cdv A outer s H E p) body t ∧ t { nx := fun _ H' => Q .non H', rt := Q } (L2.start N vs) H) :
    FnE P w K mg base (k + 1) f (PySem.W.fnOf name qual params body scope dV kV doc pm an cdv ct) ps sp := by
  refine ⟨len, fun A outer s H args us vs Q E p D hr hex hpin e0 hb r hsp => ?_⟩
  have hl := len _ _ _ _ _ _ hsp
  have KX : K.In s.heap := e0.mod.kin.keeps fun b o e => (e0.bs b o e).1
  have lim : s.heap.NoLimit := e0.mod.nolimit.keeps fun b o e => (e0.bs b o e).1
  have hkind : ∀ y ∈ ps.zip us, scope.names.lookup y.1 = some .local ∨ (scope.names.lookup y.1 = some .cell ∧ ((cellsFrom (s.heap.objs.size + 1) scope.names []).lookup y.1).isSome = true) := fun ⟨n, v⟩ hy => by
    rcases S.par n (List.of_mem_zip hy).1 with q | q
    · exact .inl q
    · exact .inr ⟨q, PySem.W.cellsFrom_some _ _ _ (.inl q)⟩
  refine codeAny_call_function hr.depth (KX _ _ lk) rfl S.co S.gen rfl (PySem.W.codeRec_of KX hcd) (hb _ _ _ _ ?_)
  refine wpAny_newFunctionEnv_cells S.kind hkind fun env he s1 x => ?_
  subst he
  refine ⟨lim.keeps x.toInCall.keep, codeAny_func ?_⟩
  obtain ⟨t, ht, hq⟩ := hbody A outer s H vs Q E p D hex (hr.deeper _) hsp
  have I : Inv (L2H.cxH (L2.CX P w) P w K mg base N qual scope f cdv A outer s H E p) [] (L2.start N vs) H s1 := L2H.inv_startH S hpin e0 hl r x
  refine wpAny_mono (ht.run [] s1 (L2.start N vs) H _ I hq) (fun fl s' hs => ?_) fun e s' hs => hs
  have fin : ∀ {σ' : L2.St} {H' : Hp} {v : V} {u : Value}, Inv (L2H.cxH (L2.CX P w) P w K mg base N qual scope f cdv A outer s H E p) [] σ' H' s' → RelV v u → Q v H' → CE outer P w H s Q u s' :=
    fun {σ' H' v u} J rv q => ⟨v, H', J.os, J.bare, J.base, J.hok, rv, q⟩
  cases fl with
  | ret u =>
    obtain ⟨v, σ', H', J, rv, q⟩ := hs
    exact fin J rv q
  | next =>
    obtain ⟨σ', H', J, q⟩ := hs
    exact fin (v := V.non) (u := Value.none) J rfl q
  | brk =>
    obtain ⟨_, _, _, q⟩ := hs
    exact False.elim q
  | cont =>
    obtain ⟨_, _, _, q⟩ := hs
    exact False.elim q
theorem fun_okE {P : Program} {w : World} {K : PySem.W.Frag} {mg : Str → Option Value} {base : Heap} {x qual : Str} {st : Stmt} {f : Addr} {fd : FuncData} {N ps : List Str} {k : Nat} {sp : SpE} (F : Fun K x qual st f fd) (S : FnScope N ps (defScope st)) (len : ∀ a D vs H Q E, sp a D vs H Q E → vs.length = ps.length)
    (hbody : ∀ (cdv : Value) (A : Around) (outer : List Env) (s : Shared) (H : Hp) (vs : List V) (Q : VK) (E : XK) (p : Addr × Obj) (D : Addr), ExIs D p → L2H.RoomH k (A.deeper (envOfC qual (defScope st) s.heap.objs.size f cdv)) → sp p.1 D vs H Q E →
      ∃ t, PSs (L2H.cxH (L2.CX P w) P w K mg base N qual (defScope st) f cdv A outer s H E p) (defBody st) t ∧ t { nx := fun _ H' => Q .non H', rt := Q } (L2.start N vs) H) : FnE P w K mg base (k + 1) f fd ps sp := by
  obtain ⟨oc, od, kV, doc, pm, an, cdv, ct, osl, rfl, lk, hcd⟩ := F.ex
  exact fn_ofE lk hcd S len fun A outer s H vs Q E p D hex hr hsp => hbody cdv A outer s H vs Q E p D hex hr hsp
structure CalleeE (P : Program) (w : World) (K : PySem.W.Frag) (mg : Str → Option Value) (base : Heap) (k : Nat) (x : Str) (ps : List Str) (sp : SpE) : Prop where
  ex : ∃ (f : Addr) (fd : FuncData), FnE P w K mg base k f fd ps sp ∧ mg x = some (.ref f) ∧ PySem.W.keepIn K (.ref f) = true ∧ Binds K fd ps []
theorem CalleeE.mk' {P : Program} {w : World} {K : PySem.W.Frag} {mg : Str → Option Value} {base : Heap} {k : Nat} {x : Str} {ps : List Str} {sp : SpE} {f : Addr} {fd : FuncData} (F : FnE P w K mg base k f fd ps sp) (hm : mg x = some (.ref f)) (hk : PySem.W.keepIn K (.ref f) = true) (hb : Binds K fd ps []) :
    CalleeE P w K mg base k x ps sp := ⟨f, fd, F, hm, hk, hb⟩
/-- f(e) in the suite that holds the exception at a -/
def tCallE (a : Addr) (cls : Value) (d : Option Addr) (sp : SpE) (t : TA) : TE := fun σ H Q => t σ H fun vs H1 => ∃ D, cls = .ref D ∧ d = none ∧ sp a D vs H1 Q (fun _ _ _ => False)
theorem pe_callE {X : Cx} {j k : Nat} {x : Str} {ps : List Str} {sp : SpE} {e : Expr} {es : List Expr} {t : TA} {q pos : Pos} {a : Addr} {oe : Obj} {cls : Value} {d : Option Addr} {pn : List (Addr × Obj)} (c : CalleeE X.prog X.w X.K X.mg X.base k x ps sp) (hr : Room j X.A) (hk : k ≤ j)
    (hz : Zc cls d oe) (hf : ∃ vs, oe.data = .fields vs) (ha : PA (X.suite a ((a, oe) :: pn)) (e :: es) t) (hg : Gl X x := by rfl) (hdb : (x == ("__debug__" : Str)) = false := by decide)
    (he : starEach (e :: es) X.env = (false, eval e X.env) :: starEach es X.env := by rfl) (hpl : (backTo pos (starEach es X.env)).any (·.1) = false := by rfl) :
    PE (X.suite a ((a, oe) :: pn)) (.Call (.Name x q) (e :: es) [] pos) (tCallE a cls d sp t) := by
  obtain ⟨f, fd, F, hm, hkp, hb⟩ := c
  refine ⟨fun pins s σ H Q I h => ?_⟩
  refine wpAny_Call_Name_kw (ld_glob (X := X.suite a ((a, oe) :: pn)) I hg hm ?_ hdb)
  refine PySem.W.callWith_K (h₀ := X.base) I.ok.mod.kin hkp (thn (ha.run pos pins s σ H _ I h) fun us s1 ⟨vs, H1, I1, r, D, ec, ed, hsp⟩ => ⟨I1.kIn, ?_⟩) he hpl
  subst ec ed
  have hl : us.length = ps.length := by rw [← r.length]; exact F.len _ _ _ _ _ _ hsp
  have b := hb s1 us I1.kIn (by rw [List.append_nil]; exact hl)
  rw [List.append_nil] at b
  have P1 := I1.pin (a, oe) (List.mem_append_left _ List.mem_cons_self)
  have hpin : L2H.PinOk X.stack H1 s1 (a, oe) := ⟨P1.1, P1.2.1, fun hm => (List.mem_cons.mp (I1.stkSub a hm)).elim P1.2.2.1 P1.2.2.2.1, P1.2.2.2.2⟩
  have hrH : L2H.RoomH k (X.A.mark (some (.ref a))) := ⟨by have := hr.dp; show X.A.depth + 3 * k + 5 < _; omega, by have := hr.un; show X.A.units + 16 * k + 200 < _; omega⟩
  refine wpAny_call (codeAny_mono (F.run _ X.stack s1 H1 ⟨us, []⟩ us vs Q _ (a, oe) D hrH ⟨hz, hf⟩ hpin I1.env0 b r hsp) fun rr s' hq => ?_)
  cases rr with
  | error ee => exact passAt (X := X.suite a ((a, oe) :: pn)) (W := fun _ _ _ _ => False) takes0 σ pins H1 s1 ee s' I1 hq
  | ok fl =>
    cases fl with
    | ret u => exact I1.after hq
    | next => exact False.elim hq
    | brk => exact False.elim hq
    | cont => exact False.elim hq
end CB
namespace CB
open PySem PySem.Spec PyProof.Rows L2
abbrev s_asked_frame : Stmt := top 12
abbrev N_asked_frame : List Str := ["ratios", "ratio"]
theorem sc_asked_frame : FnScope N_asked_frame ["ratios"] (defScope s_asked_frame) := ⟨rfl, rfl, rfl, by decide +kernel, rfl, by decide +kernel, by decide +kernel⟩
end CB

namespace CB
open PySem PySem.Spec PyProof.Rows L2
def sp_asked_frame (K : PySem.W.Frag) (mg : Str → Option Value) : Sp := fun vs H Q E => ∃ (a : Addr) (rs : List Int), vs = [.ref a] ∧ SqL K H a (rs.map V.int) ∧
  (GF rs → Q .non H) ∧ (¬ GF rs → E (.ref (ErA mg "NoFrame")) none H)
section
variable {P : Program} {w : World} {K : PySem.W.Frag} {mg : Str → Option Value} {base : Heap}
theorem ok_asked_frame {f : Addr} {fd : FuncData} (F : Fun K "asked_frame" "asked_frame" s_asked_frame f fd) (B : Bi mg) (m_MOST : ∃ t, mg "MOST" = some (.int 11 t)) (e_NoFrame : Er K mg "NoFrame") :
    FnOk P w K mg base (L2.CX P w) 1 f fd ["ratios"] (sp_asked_frame K mg) := by
  obtain ⟨tM, m_MOST⟩ := m_MOST
  refine F.okX sc_asked_frame (fun vs H Q E h => ?_) (fun cdv A outer s H vs Q E hr h => ?_)
  · obtain ⟨a, rs, rfl, _⟩ := h
    rfl
  · obtain ⟨a, rs, rfl, hS, kG, kB⟩ := h
    have tk : Takes (cxOf (L2.CX P w) P w K mg base N_asked_frame "asked_frame" (defScope s_asked_frame) f cdv A outer s H E) (fun cls d _ H => E cls d H) := takes_of rfl rfl rfl rfl
    refine ⟨_, (pss_cons (ps_if (pt_cmpR op_gt (pe_callB call_len_seq (by rfl) B.len PySem.boot_len (pa_cons (pv 0) pa_nil)) (pe_glob (v := .int 11) (by rfl) m_MOST ⟨_, rfl⟩) (nomark _)) (pss_one (ps_raise rfl tk (pmk_own PySem.F.excBase_ValueError e_NoFrame.xP e_NoFrame.gC e_NoFrame.kP (raises_own e_NoFrame.bP e_NoFrame.tP) (by rfl)))) pss_nil)
  (pss_one (ps_for (passes_of rfl) rfl (pi_list (pv 0)) (pg_name (i := 1) sc_asked_frame.nd rfl (Or.inl rfl)) (pss_one (ps_if (pw_or (pt_cmpR op_lt (pv 1) pe_int (nomark _)) (pw_or1 (pt_cmpR op_gt (pv 1) pe_int (nomark _)))).pt (pss_one (ps_raise rfl tk (pmk_own PySem.F.excBase_ValueError e_NoFrame.xP e_NoFrame.gC e_NoFrame.kP (raises_own e_NoFrame.bP e_NoFrame.tP) (by rfl)))) pss_nil))))), ?_⟩
    refine ⟨_, rfl, a, _, rfl, .inl hS, _, _, rfl, rfl, _, rfl, ite2 (fun e => ?_) (fun e => ?_)⟩
    · refine kB fun g => ?_
      have e1 := of_decide_eq_true e
      rw [List.length_map] at e1
      have := g.1
      omega
    · have hl : rs.length ≤ 11 := by
        have e1 : ¬ (11 < ((rs.map V.int).length : Int)) := fun z => e (decide_eq_true z)
        rw [List.length_map] at e1
        omega
      refine ⟨_, rfl, a, rfl, ⟨_, hS⟩, for_list (K := K) (a := a) (xs := rs.map V.int) (fun i σ H' => ∃ v, σ = [some (.ref a), v] ∧ H' = H ∧ ∀ (j : Nat) (r : Int), j < i → rs[j]? = some r → 2 ≤ r ∧ r ≤ 12)
        ⟨none, rfl, rfl, fun j r hj => absurd hj (Nat.not_lt_zero _)⟩ (fun i σ H' _ ⟨_, _, e, _⟩ => by rw [e]; exact hS) ?_ ?_⟩
      · rintro i y σ H' hi ⟨v, rfl, rfl, hg⟩
        obtain ⟨z, hz, rfl⟩ := get_map hi
        have bad : ¬ (2 ≤ z ∧ z ≤ 12) → ¬ GF rs := fun h g => h (g.2 z (List.mem_of_getElem? hz))
        refine ⟨_, rfl, _, _, rfl, rfl, _, rfl, ite2 (fun e => ?_) (fun e => ?_)⟩
        · refine ite_t rfl (kB (bad ?_))
          have := of_decide_eq_true e
          omega
        · have h1 : ¬ z < 2 := fun q => e (decide_eq_true q)
          refine ⟨_, rfl, _, _, rfl, rfl, _, rfl, ite2 (fun e2 => ?_) (fun e2 => ?_)⟩
          · refine kB (bad ?_)
            have := of_decide_eq_true e2
            omega
          · have h2 : ¬ 12 < z := fun q => e2 (decide_eq_true q)
            refine ⟨_, rfl, rfl, fun j r hj hr => ?_⟩
            rcases Nat.lt_succ_iff_lt_or_eq.mp hj with q | q
            · exact hg j r q hr
            · subst q
              rw [hz] at hr
              cases hr
              omega
      · rintro σ H' ⟨v, rfl, rfl, hg⟩
        rw [List.length_map] at hg
        refine kG ⟨hl, fun r hr => ?_⟩
        obtain ⟨j, hj, e⟩ := List.getElem_of_mem hr
        exact hg j r hj (by rw [List.getElem?_eq_getElem hj, e])
end
end CB
namespace CB
open PySem PySem.Spec PyProof.Rows L2
abbrev s_number_of : Stmt := top 15
abbrev N_number_of : List Str := ["figures", "sign"]
theorem sc_number_of : FnScope N_number_of ["figures"] (defScope s_number_of) := ⟨rfl, rfl, rfl, by decide +kernel, rfl, by decide +kernel, by decide +kernel⟩
end CB

namespace CB
open PySem PySem.Spec PyProof.Rows L2
/-! ### a number's figures -/
def sNum (x : Int) : Str := Str.ofString (toString x)
/-- what writes no number -/
def BadZ (z : Str) : Prop := z.length = 0 ∨ 30 < z.length ∨ ((TL.tl z)[0]? = some 48 ∧ 1 < z.length) ∨ ∃ c ∈ TL.tl z, c < 48 ∨ 57 < c
def GoodZ (z : Str) (n : Nat) : Prop := z = sNum (n : Int) ∧ z.length ≤ 30
theorem figs : TL.tl (Str.ofString "0123456789") = [48, 49, 50, 51, 52, 53, 54, 55, 56, 57] := by rw [TL.tl_ofString]; rfl
theorem in_figs (c : Nat) : c ∈ (Str.ofString "0123456789").cps.toList ↔ 48 ≤ c ∧ c ≤ 57 := by
  rw [show (Str.ofString "0123456789").cps.toList = [48, 49, 50, 51, 52, 53, 54, 55, 56, 57] from figs]
  simp only [List.mem_cons, List.not_mem_nil, or_false]
  omega
theorem num_head {n : Nat} (h : (TL.numL n)[0]? = some 48) : n = 0 := by
  induction n using Nat.strongRecOn with
  | _ n ih =>
    by_cases h10 : n < 10
    · rw [TL.numL_lt h10] at h
      simp at h
      omega
    · rw [TL.numL_step (by omega)] at h
      have hne := TL.numL_ne (n / 10)
      rw [List.getElem?_append_left (List.length_pos_iff.mpr hne)] at h
      have := ih (n / 10) (by omega) h
      omega
theorem tl_sNum (n : Nat) : TL.tl (sNum (n : Int)) = TL.numL n := TL.tl_num n
theorem good_not_bad {z : Str} {n : Nat} (h : GoodZ z n) : ¬ BadZ z := by
  obtain ⟨rfl, hl⟩ := h
  have ht := tl_sNum n
  have hlen := TL.len_tl (sNum (n : Int))
  rw [ht] at hlen
  have hne := List.length_pos_iff.mpr (TL.numL_ne n)
  rintro (h | h | ⟨h1, h2⟩ | ⟨c, hc, h⟩)
  · omega
  · omega
  · rw [ht] at h1
    have := num_head h1
    subst this
    rw [hlen] at h2
    have : (TL.numL 0).length = 1 := rfl
    omega
  · rw [ht] at hc
    have := TL.numL_digits n c hc
    omega
def sp_number_of (K : PySem.W.Frag) (mg : Str → Option Value) : Sp := fun vs H Q E => ∃ (z : Str), vs = [.str z] ∧ z.length ≤ 100000 ∧ ((∃ n, GoodZ z n ∧ Q (.int (n : Int)) H) ∨ (BadZ z ∧ E (.ref (ErA mg "NoNote")) none H))
section
variable {P : Program} {w : World} {K : PySem.W.Frag} {mg : Str → Option Value} {base : Heap}
theorem ok_number_of {f : Addr} {fd : FuncData} (F : Fun K "number_of" "number_of" s_number_of f fd) (B : Bi mg) (m_FIGURES : ∃ t, mg "FIGURES" = some (.str "0123456789" t)) (e_NoNote : Er K mg "NoNote") :
    FnOk P w K mg base (L2.CX P w) 1 f fd ["figures"] (sp_number_of K mg) := by
  obtain ⟨tf, m_FIGURES⟩ := m_FIGURES
  refine F.okX sc_number_of (fun vs H Q E h => ?_) (fun cdv A outer s H vs Q E hr h => ?_)
  · obtain ⟨z, rfl, _⟩ := h
    rfl
  · obtain ⟨z, rfl, hz, k⟩ := h
    have tk : Takes (cxOf (L2.CX P w) P w K mg base N_number_of "number_of" (defScope s_number_of) f cdv A outer s H E) (fun cls d _ H => E cls d H) := takes_of rfl rfl rfl rfl
    have kB : BadZ z → E (.ref (ErA mg "NoNote")) none H := fun hb => by
      rcases k with ⟨n, hg, _⟩ | ⟨_, h⟩
      · exact absurd hb (good_not_bad hg)
      · exact h
    have hsl : z.length ≤ sizeLine := small64' hz
    have hlen := TL.len_tl z
    refine ⟨_, (pss_cons (ps_if (pw_or (pt_cmpR op_eq (pv 0) pe_str (nomark _)) (pw_or (pt_cmpR op_gt (pe_callB call_len_str (by rfl) B.len PySem.boot_len (pa_cons (pv 0) pa_nil)) pe_int (nomark _)) (pw_or1 (pw_and (pt_cmpR op_eq (pe_ix ix_str (pv 0) pe_int (fun _ _ => rfl)) pe_str (nomark _)) (pw_and1 (pt_cmpR op_gt (pe_callB call_len_str (by rfl) B.len PySem.boot_len (pa_cons (pv 0) pa_nil)) pe_int (nomark _)))).pt))).pt (pss_one (ps_raise rfl tk (pmk_own PySem.F.excBase_ValueError e_NoNote.xP e_NoNote.gC e_NoNote.kP (raises_own e_NoNote.bP e_NoNote.tP) (by rfl)))) pss_nil)
  (pss_cons (ps_for (passes_of rfl) rfl (pi_str (pv 0)) (pg_name (i := 1) sc_number_of.nd rfl (Or.inl rfl)) (pss_one (ps_if (pt_cmpR op_notIn_sign (pv 1) (pe_glob (v := .str "0123456789") (by rfl) m_FIGURES ⟨_, rfl⟩) (by rfl)) (pss_one (ps_raise rfl tk (pmk_own PySem.F.excBase_ValueError e_NoNote.xP e_NoNote.gC e_NoNote.kP (raises_own e_NoNote.bP e_NoNote.tP) (by rfl)))) pss_nil)))
  (pss_one (ps_ret (pe_callTy call_int_str (by rfl) B.int (by decide +kernel) (pa_cons (pv 0) pa_nil)))))), ?_⟩
    have hdec : ∀ t : Str, decide (V.str z = V.str t) = decide (z = t) := fun t => by
      by_cases h : z = t
      · subst h; simp
      · have : ¬ V.str z = V.str t := fun q => h (V.str.inj q)
        simp [h, this]
    have he : z = "" ↔ z.length = 0 := by
      constructor
      · intro h; rw [h]; rfl
      · intro h
        refine TL.ext_tl ?_
        rw [hlen] at h
        rw [List.length_eq_zero_iff.mp h]
        rfl
    refine ⟨_, rfl, rfl, _, rfl, ?_⟩
    rw [hdec]
    by_cases h1 : z = ""
    · refine ite_t (decide_eq_true h1) (ite_t rfl (kB (.inl (he.mp h1))))
    refine ite_f (decide_eq_false h1) ?_
    have hpos : 0 < z.length := by
      have : ¬ z.length = 0 := fun q => h1 (he.mpr q)
      omega
    refine ⟨_, rfl, z, rfl, hsl, _, _, rfl, rfl, _, rfl, ite2 (fun e => ?_) (fun e => ?_)⟩
    · exact ite_t rfl (kB (.inr (.inl (by have := of_decide_eq_true e; omega))))
    have h2 : z.length ≤ 30 := by
      have : ¬ (30 : Int) < (z.length : Int) := fun q => e (decide_eq_true q)
      omega
    obtain ⟨c, hc⟩ : ∃ c, (TL.tl z)[0]? = some c := ⟨(TL.tl z)[0]'(by omega), List.getElem?_eq_getElem (by omega)⟩
    refine ⟨_, rfl, z, _, c, rfl, rfl, hsl, (show atI (TL.tl z) ((0 : Nat) : Int) = some c from atI_nat hc), rfl, _, rfl, ?_⟩
    have hc1 : ∀ d : Nat, ((⟨#[d]⟩ : Str) = "0") ↔ d = 48 := fun d => by
      constructor
      · intro h
        have h' : TL.tl (⟨#[d]⟩ : Str) = TL.tl (Str.ofString "0") := congrArg TL.tl h
        rw [TL.tl_ofString] at h'
        have h2 : [d] = [48] := h'
        exact (List.cons.inj h2).1
      · rintro rfl
        refine TL.ext_tl ?_
        rw [show TL.tl ("0" : Str) = ("0" : String).toList.map Char.toNat from TL.tl_ofString "0"]
        rfl
    have hdc : decide (V.str (⟨#[c]⟩ : Str) = V.str "0") = decide (c = 48) := by
      by_cases h : c = 48
      · rw [decide_eq_true h, decide_eq_true (congrArg V.str ((hc1 c).mpr h))]
      · rw [decide_eq_false h, decide_eq_false fun q => h ((hc1 c).mp (V.str.inj q))]
    rw [hdc]
    -- the signs
    have loop : ((TL.tl z)[0]? = some 48 → ¬ 1 < z.length) →
        tFor (iStr (tVar 0)) (gName 1) (tIfS (tTest (tOp (fun x y H Q => ∃ (c : Nat) (z : Str), x = .str ⟨#[c]⟩ ∧ y = .str z ∧ Q (.bl (!decide (c ∈ z.cps.toList))) H) (tVar 1) (tC (.str "0123456789")))) (fun _ σ H => E (.ref (ErA mg "NoNote")) none H) tNext)
          { nx := fun σ' H' => tRet (tCB (fun xs H Q => ∃ a n, xs = [.str a] ∧ PySem.intText? a = some n ∧ a.length ≤ 640 ∧ Q (.int n) H) (tCons (tVar 0) tNil)) { nx := fun _ H' => Q .non H', rt := Q } σ' H', rt := Q } [some (.str z), none] H := by
      intro h0
      refine ⟨_, rfl, z, rfl, for_it (walk_str (z := z)) (fun i σ' H' => ∃ v, σ' = [some (.str z), v] ∧ H' = H ∧ ∀ c ∈ (TL.tl z).take i, 48 ≤ c ∧ c ≤ 57) ⟨none, rfl, rfl, fun c hc => by simp at hc⟩ (fun _ _ _ _ _ => trivial) ?_ ?_⟩
      · rintro i x σ' H1 H2 hi ⟨v, rfl, rfl, hd⟩ ⟨rfl, d, hd1, rfl⟩
        have hd2 : (TL.tl z)[i]? = some d := by rw [← hd1]; exact Array.getElem?_toList
        refine ⟨_, rfl, d, _, rfl, rfl, _, rfl, ?_⟩
        by_cases hg : 48 ≤ d ∧ d ≤ 57
        · refine ite_f (by rw [decide_eq_true ((in_figs d).mpr hg)]; rfl) ?_
          refine ⟨_, rfl, rfl, fun e he => ?_⟩
          rw [take_more hd2] at he
          rcases List.mem_append.mp he with he | he
          · exact hd e he
          · rw [List.mem_singleton.mp he]
            exact hg
        · refine ite_t (by rw [decide_eq_false fun q => hg ((in_figs d).mp q)]; rfl) (kB (.inr (.inr (.inr ⟨d, List.mem_of_getElem? hd2, by omega⟩))))
      · rintro σ' H1 ⟨v, rfl, rfl, hd⟩
        rw [List.take_of_length_le (by simp [TL.tl])] at hd
        rcases k with ⟨n, hg, hq⟩ | ⟨hb, _⟩
        · refine ⟨_, rfl, z, (n : Int), rfl, ?_, by omega, hq⟩
          have hl : (TL.numL n).length ≤ 4300 := by
            have := TL.len_tl z
            rw [hg.1, tl_sNum, ← hg.1] at this
            omega
          rw [hg.1]
          exact TL.int_num hl
        · rcases hb with hb | hb | ⟨hb1, hb2⟩ | ⟨d, hd1, hd2⟩
          · omega
          · omega
          · exact absurd hb2 (h0 hb1)
          · have := hd d hd1
            omega
    by_cases h48 : c = 48
    · refine ite_t (decide_eq_true h48) ?_
      refine ⟨_, rfl, z, rfl, hsl, _, _, rfl, rfl, _, rfl, ite2 (fun e => ?_) (fun e => ?_)⟩
      · exact kB (.inr (.inr (.inl ⟨by rw [hc, h48], by have := of_decide_eq_true e; omega⟩)))
      · exact loop fun _ q => e (decide_eq_true (by omega))
    · refine ite_f (decide_eq_false h48) ?_
      exact loop fun q => by rw [hc] at q; exact absurd (Option.some.inj q) h48

end
end CB
namespace CB
open PySem PySem.Spec PyProof.Rows L2
/-! ### a board as a text -/
def bar : Str := Str.ofString "|"
def txt (bs : List Int) : Str := Txt.join bar (bs.reverse.map sNum)
theorem sNum_len {x : Int} (h0 : 0 ≤ x) (h1 : x < 10 ^ 30) : (sNum x).length ≤ 30 := by
  obtain ⟨n, rfl⟩ : ∃ n : Nat, x = (n : Int) := ⟨x.toNat, by omega⟩
  rw [TL.len_tl, tl_sNum]
  have e : (10 : Int) ^ 30 = ((10 ^ 30 : Nat) : Int) := by decide
  exact TL.numL_len (by decide) (by omega)
theorem sum_len {ps : List Str} (h : ∀ p ∈ ps, p.length ≤ 31) : (ps.map (·.length)).sum ≤ 31 * ps.length := by
  induction ps with
  | nil => simp
  | cons p ps ih =>
    rw [List.map_cons, List.sum_cons, List.length_cons]
    have := ih fun q hq => h q (List.mem_cons_of_mem _ hq)
    have := h p List.mem_cons_self
    omega
end CB
namespace CB
open PySem PySem.Spec PyProof.Rows L2
/-! ### a board's text, split again -/
theorem tl_bar : TL.tl bar = [124] := by
  unfold bar
  rw [TL.tl_ofString]
  rfl
theorem sNum_free {x : Int} (h : 0 ≤ x) : 124 ∉ TL.tl (sNum x) := by
  obtain ⟨n, rfl⟩ : ∃ n : Nat, x = (n : Int) := ⟨x.toNat, by omega⟩
  rw [tl_sNum]
  exact TL.numL_free (.inr (by decide))
theorem split_txt {bs : List Int} (hne : bs ≠ []) (h : ∀ x ∈ bs, 0 ≤ x) : Txt.split (txt bs) bar = bs.reverse.map sNum := by
  refine TL.split_join tl_bar (by decide +kernel) (fun e => hne ?_) fun p hp => ?_
  · have := congrArg List.length e
    rw [List.length_map, List.length_reverse] at this
    exact List.length_eq_zero_iff.mp this
  · obtain ⟨x, hx, rfl⟩ := List.mem_map.mp hp
    exact sNum_free (h x (List.mem_reverse.mp hx))
theorem toNat_map {bs : List Int} (h : ∀ x ∈ bs, 0 ≤ x) : (bs.map Int.toNat).map (fun n : Nat => (n : Int)) = bs := by
  rw [List.map_map]
  refine (List.map_congr_left fun x hx => ?_).trans (List.map_id _)
  have := h x hx
  show ((x.toNat : Nat) : Int) = x
  omega
theorem sNum_map {bs : List Int} (h : ∀ x ∈ bs, 0 ≤ x) : bs.map sNum = (bs.map Int.toNat).map (fun n : Nat => sNum (n : Int)) := by
  rw [List.map_map]
  refine List.map_congr_left fun x hx => ?_
  have := h x hx
  show sNum x = sNum ((x.toNat : Nat) : Int)
  congr 1
  omega
theorem str_assoc (x y z : Str) : x ++ y ++ z = x ++ (y ++ z) := TL.ext_tl (by rw [TL.tl_append, TL.tl_append, TL.tl_append, TL.tl_append, List.append_assoc])
theorem join_cons {x z : Str} {r : List Str} : Str.join bar (x :: z :: r) = x ++ bar ++ Str.join bar (z :: r) := rfl
theorem str_len (x y : Str) : (x ++ y).length = x.length + y.length := by rw [TL.len_tl, TL.len_tl x, TL.len_tl y, TL.tl_append, List.length_append]
theorem log_small {z : Int} (h0 : 0 ≤ z) (h1 : z < 10 ^ 30) : z.natAbs.log2 < 1920 := by
  have h2 : z.natAbs < 2 ^ 100 := by
    have h3 : (10 : Int) ^ 30 < ((2 ^ 100 : Nat) : Int) := by decide
    omega
  rcases Nat.eq_zero_or_pos z.natAbs with hz | hz
  · rw [hz]; decide
  · have := (Nat.log2_lt (by omega)).mpr h2
    omega
/-- what is written after i parts, and the parts that are left -/
def Writ (ps : List Str) (i : Nat) (d : Str) : Prop := (i < ps.length → d ++ Str.join bar (ps.drop i) = Str.join bar ps) ∧ (i = ps.length → d = Str.join bar ps) ∧ d.length ≤ 32 * i
theorem Writ.more {ps : List Str} {i : Nat} {d p : Str} (h : Writ ps i d) (hp : ps[i]? = some p) (hl : p.length ≤ 30) (h1 : i + 1 < ps.length) : Writ ps (i + 1) (d ++ p ++ bar) := by
  have hi : i < ps.length := by omega
  refine ⟨fun _ => ?_, fun e => by omega, ?_⟩
  · rw [← h.1 hi]
    have e1 : ps.drop i = p :: ps.drop (i + 1) := by
      obtain ⟨_, e⟩ := List.getElem?_eq_some_iff.mp hp
      rw [List.drop_eq_getElem_cons hi, e]
    have e2 : ps.drop (i + 1) = ps[i + 1] :: ps.drop (i + 1 + 1) := List.drop_eq_getElem_cons h1
    rw [e1, e2, join_cons, str_assoc, str_assoc, str_assoc]
  · rw [str_len, str_len, show bar.length = 1 from rfl]
    have := h.2.2
    omega
theorem Writ.last {ps : List Str} {i : Nat} {d p : Str} (h : Writ ps i d) (hp : ps[i]? = some p) (hl : p.length ≤ 30) (h1 : i + 1 = ps.length) : Writ ps (i + 1) (d ++ p) := by
  have hi : i < ps.length := by omega
  refine ⟨fun e => by omega, fun _ => ?_, ?_⟩
  · rw [← h.1 hi]
    have e1 : ps.drop i = [p] := by
      obtain ⟨_, e⟩ := List.getElem?_eq_some_iff.mp hp
      rw [List.drop_eq_getElem_cons hi, e, List.drop_eq_nil_of_le (by omega)]
    rw [e1]
    rfl
  · rw [str_len]
    have := h.2.2
    omega
end CB
namespace CB
open PySem PySem.Spec PyProof.Rows L2
/-! ### spoilt texts -/
theorem cut_take {xs : List V} {k : Nat} : cutV xs none (some (k : Int)) = xs.take k := by
  unfold cutV
  rw [HT.sIx_nat, HT.sIx_none, Nat.sub_zero, List.drop_zero]
  by_cases h : k ≤ xs.length
  · rw [Nat.min_eq_left h]
  · rw [Nat.min_eq_right (by omega), List.take_of_length_le (Nat.le_refl _), List.take_of_length_le (by omega)]
theorem cut_drop {xs : List V} {k : Nat} : cutV xs (some (k : Int)) none = xs.drop k := by
  unfold cutV
  rw [HT.sIx_nat, HT.sIx_none]
  by_cases h : k ≤ xs.length
  · rw [Nat.min_eq_left h, List.take_of_length_le (by rw [List.length_drop]; exact Nat.le_refl _)]
  · rw [Nat.min_eq_right (by omega), List.drop_eq_nil_of_le (Nat.le_refl _), List.drop_eq_nil_of_le (by omega), List.take_nil]
theorem join_mid (u v : Str) (C : List Str) : ∀ A : List Str, Str.join bar (A ++ (u ++ bar ++ v) :: C) = Str.join bar (A ++ u :: v :: C)
  | [] => by
    cases C with
    | nil => rfl
    | cons c C =>
      show (u ++ bar ++ v) ++ bar ++ Str.join bar (c :: C) = u ++ bar ++ (v ++ bar ++ Str.join bar (c :: C))
      rw [str_assoc, str_assoc, str_assoc, str_assoc, str_assoc]
  | [a] => by
    show a ++ bar ++ Str.join bar ([] ++ (u ++ bar ++ v) :: C) = a ++ bar ++ Str.join bar ([] ++ u :: v :: C)
    rw [join_mid u v C []]
  | a :: b :: A => by
    show a ++ bar ++ Str.join bar ((b :: A) ++ (u ++ bar ++ v) :: C) = a ++ bar ++ Str.join bar ((b :: A) ++ u :: v :: C)
    rw [join_mid u v C (b :: A)]
theorem join_len : ∀ ps : List Str, (Str.join bar ps).length ≤ (ps.map (·.length)).sum + ps.length
  | [] => Nat.zero_le _
  | [p] => by
    show p.length ≤ (p.length + 0) + 1
    omega
  | p :: q :: r => by
    have ih := join_len (q :: r)
    rw [join_cons, str_len, str_len, List.map_cons, List.sum_cons, List.length_cons, show bar.length = 1 from rfl]
    omega
theorem sum_lenM {M : Nat} {ps : List Str} (h : ∀ p ∈ ps, p.length ≤ M) : (ps.map (·.length)).sum ≤ M * ps.length := by
  induction ps with
  | nil => simp
  | cons p ps ih =>
    rw [List.map_cons, List.sum_cons, List.length_cons, Nat.mul_add]
    have := ih fun q hq => h q (List.mem_cons_of_mem _ hq)
    have := h p List.mem_cons_self
    omega
theorem goods {ps : List Str} (h : ∀ p ∈ ps, ∃ n, GoodZ p n) : ∃ ns : List Nat, ps = ns.map fun n : Nat => sNum (n : Int) := by
  induction ps with
  | nil => exact ⟨[], rfl⟩
  | cons p ps ih =>
    obtain ⟨ns, hn⟩ := ih fun q hq => h q (List.mem_cons_of_mem _ hq)
    obtain ⟨n, hg⟩ := h p List.mem_cons_self
    exact ⟨n :: ns, by rw [List.map_cons, hn, hg.1]⟩
theorem bad_char {z : Str} {c : Nat} (h : c ∈ TL.tl z) (hc : c < 48 ∨ 57 < c) : BadZ z := .inr (.inr (.inr ⟨c, h, hc⟩))
/-- one part, good or bad, with no stroke in it -/
def Part (q : Str) : Prop := 124 ∉ TL.tl q ∧ q.length ≤ 40 ∧ (BadZ q ∨ ∃ n, GoodZ q n)
/-- a text of parts that no board of n lines has -/
def Spo (n : Nat) (z : Str) : Prop := ∃ qs : List Str, z = Str.join bar qs ∧ qs ≠ [] ∧ qs.length ≤ 20 ∧ (∀ q ∈ qs, Part q) ∧ ((∃ q ∈ qs, BadZ q) ∨ qs.length ≠ n)
theorem good_part {p : Str} {n : Nat} (h : GoodZ p n) : Part p := by
  refine ⟨?_, by have := h.2; omega, .inr ⟨n, h⟩⟩
  rw [h.1]
  exact sNum_free (Int.natCast_nonneg n)
theorem good_digits {p : Str} {n : Nat} (h : GoodZ p n) : ∀ c ∈ TL.tl p, 48 ≤ c ∧ c ≤ 57 := fun c hc => by
  rw [h.1, tl_sNum] at hc
  exact TL.numL_digits n c hc
theorem good_pos {p : Str} {n : Nat} (h : GoodZ p n) : 0 < p.length := by
  rw [TL.len_tl, h.1, tl_sNum]
  exact List.length_pos_iff.mpr (TL.numL_ne n)
def someL (w : Str) : List Str := [Str.ofString "0" ++ w, Str.ofString "+" ++ w, Str.ofString "-" ++ w, w ++ Str.ofString "a", w ++ Str.ofString "_0", Str.ofString " " ++ w, w ++ Str.ofString " ", w ++ Str.ofString "\t",
  w ++ Str.ofString "\n", Str.ofString "", Str.ofString "1" ++ zeros, w ++ bar ++ w, w ++ Str.ofString ".0", w ++ bar, Str.ofString "1 0", Str.ofString "1\t0"]
section
variable {w : Str} {n : Nat}
/-- a word with another sign in it -/
theorem bad_word {z : Str} {l : List Nat} {c : Nat} (h : GoodZ w n) (ez : TL.tl z = l ++ TL.tl w ∨ TL.tl z = TL.tl w ++ l) (hc : c ∈ l) (hb : c < 48 ∨ 57 < c) (hl : ∀ d ∈ l, d ≠ 124) (hll : l.length ≤ 8) : Part z ∧ BadZ z := by
  have hd := good_digits h
  have hlw := TL.len_tl w
  have hlz := TL.len_tl z
  have h30 := h.2
  have hm : ∀ d, d ∈ TL.tl z ↔ d ∈ l ∨ d ∈ TL.tl w := fun d => by
    rcases ez with e | e
    · rw [e, List.mem_append]
    · rw [e, List.mem_append]; exact Or.comm
  have hlen : (TL.tl z).length = l.length + (TL.tl w).length := by
    rcases ez with e | e
    · rw [e, List.length_append]
    · rw [e, List.length_append]; exact Nat.add_comm _ _
  have bz : BadZ z := bad_char ((hm c).mpr (.inl hc)) hb
  refine ⟨⟨fun hx => ?_, by omega, .inl bz⟩, bz⟩
  rcases (hm 124).mp hx with hx | hx
  · exact hl _ hx rfl
  · have := hd _ hx
    omega
theorem bad_alone {z : Str} (h1 : 124 ∉ TL.tl z) (h2 : z.length ≤ 40) (h3 : BadZ z) : Part z ∧ BadZ z := ⟨⟨h1, h2, .inl h3⟩, h3⟩
theorem tlS (s : String) : TL.tl (Str.ofString s) = s.toList.map Char.toNat := TL.tl_ofString s
/-- each of the sixteen: bad, but for the two that bring a stroke -/
theorem some_bad (h : GoodZ w n) : ∀ (k : Nat) (z : Str), (someL w)[k]? = some z → k ≠ 11 → k ≠ 13 → Part z ∧ BadZ z := by
  intro k z hz h11 h13
  have hpos := good_pos h
  have hlw := TL.len_tl w
  have h30 := h.2
  match k, hz with
  | 0, e =>
    cases e
    have et : TL.tl (Str.ofString "0" ++ w) = 48 :: TL.tl w := by rw [TL.tl_append, tlS]; rfl
    have hd := good_digits h
    have hl := TL.len_tl (Str.ofString "0" ++ w)
    rw [et, List.length_cons] at hl
    refine bad_alone ?_ (by omega) (.inr (.inr (.inl ⟨by rw [et]; rfl, by omega⟩)))
    rw [et]
    intro hx
    rcases List.mem_cons.mp hx with hx | hx
    · cases hx
    · have := hd _ hx
      omega
  | 1, e => cases e; exact bad_word (l := [43]) (c := 43) h (.inl (by rw [TL.tl_append, tlS]; rfl)) (by decide) (by decide) (by decide) (by decide)
  | 2, e => cases e; exact bad_word (l := [45]) (c := 45) h (.inl (by rw [TL.tl_append, tlS]; rfl)) (by decide) (by decide) (by decide) (by decide)
  | 3, e => cases e; exact bad_word (l := [97]) (c := 97) h (.inr (by rw [TL.tl_append, tlS]; rfl)) (by decide) (by decide) (by decide) (by decide)
  | 4, e => cases e; exact bad_word (l := [95, 48]) (c := 95) h (.inr (by rw [TL.tl_append, tlS]; rfl)) (by decide) (by decide) (by decide) (by decide)
  | 5, e => cases e; exact bad_word (l := [32]) (c := 32) h (.inl (by rw [TL.tl_append, tlS]; rfl)) (by decide) (by decide) (by decide) (by decide)
  | 6, e => cases e; exact bad_word (l := [32]) (c := 32) h (.inr (by rw [TL.tl_append, tlS]; rfl)) (by decide) (by decide) (by decide) (by decide)
  | 7, e => cases e; exact bad_word (l := [9]) (c := 9) h (.inr (by rw [TL.tl_append, tlS]; rfl)) (by decide) (by decide) (by decide) (by decide)
  | 8, e => cases e; exact bad_word (l := [10]) (c := 10) h (.inr (by rw [TL.tl_append, tlS]; rfl)) (by decide) (by decide) (by decide) (by decide)
  | 9, e => cases e; exact bad_alone (by rw [tlS]; decide) (by decide) (.inl rfl)
  | 10, e =>
    cases e
    have et : TL.tl (Str.ofString "1" ++ zeros) = 49 :: List.replicate 30 48 := by rw [TL.tl_append, tlS, tl_zeros]; rfl
    have hl := TL.len_tl (Str.ofString "1" ++ zeros)
    rw [et] at hl
    have hl31 : (Str.ofString "1" ++ zeros).length = 31 := hl
    exact bad_alone (by rw [et]; decide) (by omega) (.inr (.inl (by omega)))
  | 11, _ => exact absurd rfl h11
  | 12, e => cases e; exact bad_word (l := [46, 48]) (c := 46) h (.inr (by rw [TL.tl_append, tlS]; rfl)) (by decide) (by decide) (by decide) (by decide)
  | 13, _ => exact absurd rfl h13
  | 14, e => cases e; exact bad_alone (by rw [tlS]; decide) (by decide) (bad_char (c := 32) (by rw [tlS]; decide) (by decide))
  | 15, e => cases e; exact bad_alone (by rw [tlS]; decide) (by decide) (bad_char (c := 9) (by rw [tlS]; decide) (by decide))
  | k + 16, e => cases e
/-- the sixteen texts with one word changed -/
theorem spo_word {A C : List Str} (h : GoodZ w n) (hA : ∀ p ∈ A, ∃ m, GoodZ p m) (hC : ∀ p ∈ C, ∃ m, GoodZ p m) (hl : A.length + C.length ≤ 15) {k : Nat} {z : Str} (hz : (someL w)[k]? = some z) : Spo (A.length + 1 + C.length) (Str.join bar (A ++ z :: C)) := by
  have pA : ∀ q ∈ A, Part q := fun q hq => by obtain ⟨m, hm⟩ := hA q hq; exact good_part hm
  have pC : ∀ q ∈ C, Part q := fun q hq => by obtain ⟨m, hm⟩ := hC q hq; exact good_part hm
  by_cases h11 : k = 11
  · subst h11
    cases hz
    refine ⟨A ++ w :: w :: C, join_mid w w C A, by simp, by simp only [List.length_append, List.length_cons]; omega, fun q hq => ?_, .inr (by simp only [List.length_append, List.length_cons]; omega)⟩
    simp only [List.mem_append, List.mem_cons] at hq
    rcases hq with hq | rfl | rfl | hq
    · exact pA q hq
    · exact good_part h
    · exact good_part h
    · exact pC q hq
  · by_cases h13 : k = 13
    · subst h13
      cases hz
      have e : w ++ bar = w ++ bar ++ Str.ofString "" := TL.ext_tl (by
        rw [TL.tl_append (w ++ bar)]
        rw [tlS]
        exact (List.append_nil _).symm)
      have be : Part (Str.ofString "") ∧ BadZ (Str.ofString "") := bad_alone (by rw [tlS]; decide) (by decide) (.inl rfl)
      refine ⟨A ++ w :: Str.ofString "" :: C, by rw [e]; exact join_mid w _ C A, by simp, by simp only [List.length_append, List.length_cons]; omega, fun q hq => ?_, .inl ⟨Str.ofString "", by simp, be.2⟩⟩
      simp only [List.mem_append, List.mem_cons] at hq
      rcases hq with hq | rfl | rfl | hq
      · exact pA q hq
      · exact good_part h
      · exact be.1
      · exact pC q hq
    · obtain ⟨p1, p2⟩ := some_bad h k z hz h11 h13
      refine ⟨A ++ z :: C, rfl, by simp, by simp only [List.length_append, List.length_cons]; omega, fun q hq => ?_, .inl ⟨z, by simp, p2⟩⟩
      simp only [List.mem_append, List.mem_cons] at hq
      rcases hq with hq | rfl | hq
      · exact pA q hq
      · exact p1
      · exact pC q hq
/-- a line too few -/
theorem spo_few {A C : List Str} (hA : ∀ p ∈ A, ∃ m, GoodZ p m) (hC : ∀ p ∈ C, ∃ m, GoodZ p m) (hl : A.length + C.length ≤ 15) : Spo (A.length + 1 + C.length) (Str.join bar (A ++ C)) := by
  by_cases he : A ++ C = []
  · have be : Part (Str.ofString "") ∧ BadZ (Str.ofString "") := bad_alone (by rw [tlS]; decide) (by decide) (.inl rfl)
    refine ⟨[Str.ofString ""], by rw [he]; exact TL.ext_tl (by rw [show Str.join bar [Str.ofString ""] = Str.ofString "" from rfl, tlS]; rfl), by simp, by simp, fun q hq => ?_, .inl ⟨_, List.mem_singleton.mpr rfl, be.2⟩⟩
    rw [List.mem_singleton.mp hq]
    exact be.1
  · refine ⟨A ++ C, rfl, he, by rw [List.length_append]; omega, fun q hq => ?_, .inr (by rw [List.length_append]; omega)⟩
    rcases List.mem_append.mp hq with hq | hq
    · obtain ⟨m, hm⟩ := hA q hq; exact good_part hm
    · obtain ⟨m, hm⟩ := hC q hq; exact good_part hm
theorem seven : GoodZ (Str.ofString "7") 7 := ⟨rfl, by decide⟩
/-- a line too many -/
theorem spo_many {A C : List Str} (hA : ∀ p ∈ A, ∃ m, GoodZ p m) (hC : ∀ p ∈ C, ∃ m, GoodZ p m) (hl : A.length + C.length ≤ 15) : Spo (A.length + C.length) (Str.join bar (A ++ Str.ofString "7" :: C)) := by
  refine ⟨A ++ Str.ofString "7" :: C, rfl, by simp, by simp only [List.length_append, List.length_cons]; omega, fun q hq => ?_, .inr (by simp only [List.length_append, List.length_cons]; omega)⟩
  simp only [List.mem_append, List.mem_cons] at hq
  rcases hq with hq | rfl | hq
  · obtain ⟨m, hm⟩ := hA q hq; exact good_part hm
  · exact good_part seven
  · obtain ⟨m, hm⟩ := hC q hq; exact good_part hm
theorem someL_len (h : GoodZ w n) : ∀ z ∈ someL w, z.length ≤ 61 := by
  intro z hz
  have h30 := h.2
  have hb : bar.length = 1 := rfl
  have hz0 : zeros.length = 30 := by rw [TL.len_tl, tl_zeros]; rfl
  simp only [someL, List.mem_cons, List.not_mem_nil, or_false] at hz
  have l1 : ∀ s : String, (Str.ofString s).length = s.toList.length := fun s => by rw [TL.len_tl, tlS, List.length_map]
  rcases hz with rfl | rfl | rfl | rfl | rfl | rfl | rfl | rfl | rfl | rfl | rfl | rfl | rfl | rfl | rfl | rfl
  all_goals simp only [str_len, l1, hz0, hb]
  all_goals first
    | (show _ + w.length ≤ 61; have : ∀ a : Nat, a ≤ 5 → a + w.length ≤ 61 := fun a ha => (by omega); exact this _ (by decide))
    | (show w.length + _ ≤ 61; have : ∀ a : Nat, a ≤ 5 → w.length + a ≤ 61 := fun a ha => (by omega); exact this _ (by decide))
    | decide
    | omega
end
end CB
namespace CB
open PySem PySem.Spec PyProof.Rows L2
abbrev s_read : Stmt := top 16
abbrev N_read : List Str := ["ratios", "text", "found", "part"]
theorem sc_read : FnScope N_read ["ratios", "text"] (defScope s_read) := ⟨rfl, rfl, rfl, by decide +kernel, rfl, by decide +kernel, by decide +kernel⟩
end CB

namespace CB
open PySem PySem.Spec PyProof.Rows L2
/-! ### a board read -/
def sp_read (K : PySem.W.Frag) (mg : Str → Option Value) : Sp := fun vs H Q E => ∃ (a : Addr) (z : Str) (rs : List Int) (ps : List Str), vs = [.ref a, .str z] ∧ SqL K H a (rs.map V.int) ∧ z.length ≤ 100000 ∧ Txt.split z bar = ps ∧ ps.length ≤ 100000 ∧ (∀ p ∈ ps, p.length ≤ 100000) ∧
  (¬ GF rs → E (.ref (ErA mg "NoFrame")) none H) ∧
  (GF rs → (∃ ns : List Nat, ps = ns.map (fun n : Nat => sNum (n : Int)) ∧ (∀ p ∈ ps, p.length ≤ 30) ∧ (ps.length = rs.length + 1 → TellL H Q ((ns.map fun n : Nat => (n : Int)).reverse.map V.int)) ∧ (ps.length ≠ rs.length + 1 → Raise mg "NoNote" H E)) ∨
    ((∃ p ∈ ps, BadZ p) ∧ (∀ p ∈ ps, BadZ p ∨ ∃ n, GoodZ p n) ∧ Raise mg "NoNote" H E))
section
variable {P : Program} {w : World} {K : PySem.W.Frag} {mg : Str → Option Value} {base : Heap}
theorem ok_read {f : Addr} {fd : FuncData} (F : Fun K "read" "read" s_read f fd) (B : Bi mg) (e_NoNote : Er K mg "NoNote") (c_asked_frame : Callee P w K mg base 1 "asked_frame" ["ratios"] (sp_asked_frame K mg))
    (c_number_of : Callee P w K mg base 1 "number_of" ["figures"] (sp_number_of K mg)) :
    FnOk P w K mg base (L2.CX P w) 2 f fd ["ratios", "text"] (sp_read K mg) := by
  refine F.okX sc_read (fun vs H Q E h => ?_) (fun cdv A outer s H vs Q E hr h => ?_)
  · obtain ⟨a, z, rs, ps, rfl, _⟩ := h
    rfl
  · obtain ⟨a, z, rs, ps, rfl, hA, hz, hps, hpl, hpz, kF, kG⟩ := h
    have tk : Takes (cxOf (L2.CX P w) P w K mg base N_read "read" (defScope s_read) f cdv A outer s H E) (fun cls d _ H => E cls d H) := takes_of rfl rfl rfl rfl
    refine ⟨_, (pss_cons (ps_expr (pe_f c_asked_frame hr (by decide) tk (pa_cons (pv 0) pa_nil)))
  (pss_cons (ps_setLcX (i := 2) (own := [("part", 3)]) (g := gName 3) rfl rfl tk rfl sc_read.nd rfl rfl (sw_true rfl rfl rfl (by decide +kernel)) (pi_list (pe_split (pv 1) pe_str)) (blkOk_by (own := [("part", 3)]) (N := N_read) (sc := defScope s_read) (by decide +kernel)) (fun _ _ _ _ _ => pg_name (i := 3) sc_read.nd rfl (Or.inl rfl)) (fun _ _ _ _ _ xe pa => (pe_fA c_number_of hr (by decide) pa (pa_cons (pv 3) pa_nil))))
  (pss_cons (ps_if (pt_cmpR op_ne (pe_callB call_len_seq (by rfl) B.len PySem.boot_len (pa_cons (pv 2) pa_nil)) (pe_op op_add (pe_callB call_len_seq (by rfl) B.len PySem.boot_len (pa_cons (pv 0) pa_nil)) pe_int) (nomark _)) (pss_one (ps_raise rfl tk (pmk_own PySem.F.excBase_ValueError e_NoNote.xP e_NoNote.gC e_NoNote.kP (raises_own e_NoNote.bP e_NoNote.tP) (by rfl)))) pss_nil)
  (pss_one (ps_ret (pe_lrev rfl (by rfl) B.list (by rfl) B.reversed (pv 2))))))), ?_⟩
    refine ⟨_, rfl, a, rs, rfl, hA, fun g => ?_, kF⟩
    have g11 := g.1
    have hbar : z.length + 2 ≤ sizeLine := Nat.le_trans (show z.length + 2 ≤ 100002 by omega) (by decide)
    refine ⟨_, rfl, ⟨_, rfl⟩, z, bar, rfl, rfl, rfl, hbar, fun pl npl => ?_⟩
    rw [hps]
    have s1 := same_upd (o := .lst (ps.map V.str)) npl
    have e1 := upd_same (H := H) (a := pl) (o := .lst (ps.map V.str))
    generalize upd H pl (.lst (ps.map V.str)) = H1 at s1 e1
    refine ⟨pl, rfl, ⟨_, SqL.of e1⟩, fun T hT => ?_⟩
    have nT : H T = none := s1.free hT
    rcases kG g with ⟨ns, en, h30, kT, kN⟩ | ⟨⟨pb, hpb, hbb⟩, hall, kR⟩
    · have hln : ns.length = ps.length := by rw [en, List.length_map]
      refine lc_list (K := K) (a := pl) (xs := ps.map V.str) (Gr H1 T ((ns.map fun n : Nat => (n : Int)).map V.int)) (Gr.zero _ hT) (fun i H' _ gr => gr.1.seq (SqL.of e1)) ?_ ?_
      · rintro i x H' hx gr
        rw [List.getElem?_map] at hx
        obtain ⟨p, hp, rfl⟩ : ∃ p, ps[i]? = some p ∧ x = .str p := by
          cases q : ps[i]? with
          | none => rw [q] at hx; cases hx
          | some p => rw [q] at hx; exact ⟨p, rfl, (Option.some.inj hx).symm⟩
        have hi := (List.getElem?_eq_some_iff.mp hp).1
        have hpm := List.mem_of_getElem? hp
        have hn : ns[i]? = some (ns[i]'(by omega)) := List.getElem?_eq_getElem (by omega)
        have ep : p = sNum ((ns[i]'(by omega) : Nat) : Int) := by
          rw [en, List.getElem?_map, hn] at hp
          exact (Option.some.inj hp).symm
        refine ⟨rfl, _, rfl, p, rfl, hpz p hpm, .inl ⟨ns[i]'(by omega), ⟨ep, h30 p hpm⟩, _, gr.step hT (by rw [List.length_map, List.length_map]; omega) (map_get ?_) (Same.refl _)⟩⟩
        rw [List.getElem?_map, hn]
        rfl
      · intro H2 gr
        have e2 := gr.done (by rw [List.length_map, List.length_map, List.length_map]; omega)
        have s2 := s1.trans gr.1
        refine ⟨_, rfl, T, _, rfl, .inl (SqL.of e2), _, rfl, a, _, rfl, .inl (s2.seq hA), _, _, rfl, rfl, rfl, _, rfl, ?_⟩
        by_cases hlen : ps.length = rs.length + 1
        · refine ite_f ?_ ?_
          · rw [List.length_map, List.length_map, List.length_map, hln, hlen]
            simp
          · refine ⟨_, rfl, T, _, rfl, SqL.of e2, fun q nq => ?_⟩
            have s3 := same_upd (o := .lst (((ns.map fun n : Nat => (n : Int)).map V.int).reverse)) nq
            exact kT hlen _ q (s2.trans s3) (s2.free nq) (by rw [upd_same, List.map_reverse])
        · refine ite_t ?_ (kN hlen H2 s2)
          rw [List.length_map, List.length_map, List.length_map, hln]
          have : ¬ V.int ((ps.length : Nat) : Int) = V.int ((rs.length : Int) + 1) := fun q => by
            have := V.int.inj q
            omega
          simp [this]
    · refine lc_list (K := K) (a := pl) (xs := ps.map V.str) (fun i H' => Same H1 H' ∧ (∃ acc, H' T = some (.lst acc) ∧ acc.length ≤ i) ∧ ∀ p ∈ ps.take i, ¬ BadZ p) ⟨same_upd hT, ⟨[], upd_same, Nat.le_refl _⟩, fun p hp => by simp at hp⟩ (fun i H' _ gr => gr.1.seq (SqL.of e1)) ?_ ?_
      · rintro i x H' hx ⟨sm, ⟨acc, ha, hal⟩, hno⟩
        rw [List.getElem?_map] at hx
        obtain ⟨p, hp, rfl⟩ : ∃ p, ps[i]? = some p ∧ x = .str p := by
          cases q : ps[i]? with
          | none => rw [q] at hx; cases hx
          | some p => rw [q] at hx; exact ⟨p, rfl, (Option.some.inj hx).symm⟩
        have hi := (List.getElem?_eq_some_iff.mp hp).1
        have hpm := List.mem_of_getElem? hp
        refine ⟨rfl, _, rfl, p, rfl, hpz p hpm, ?_⟩
        by_cases hb : BadZ p
        · exact .inr ⟨hb, kR H' (s1.trans sm)⟩
        · rcases hall p hpm with h | ⟨n, hg⟩
          · exact absurd h hb
          · refine .inl ⟨n, hg, acc, ha, small64 (by omega), fun c o q => ?_, ⟨_, upd_same, by rw [List.length_append]; simp only [List.length_cons, List.length_nil]; omega⟩, fun q hq => ?_⟩
            · rw [upd_ne (ne_of_none q hT)]
              exact sm _ _ q
            · rw [take_more hp] at hq
              rcases List.mem_append.mp hq with hq | hq
              · exact hno q hq
              · rw [List.mem_singleton.mp hq]
                exact hb
      · rintro H2 ⟨_, _, hno⟩
        rw [List.take_of_length_le (by rw [List.length_map]; exact Nat.le_refl _)] at hno
        exact absurd hbb (hno pb hpb)
end
end CB
namespace CB
open PySem PySem.Spec PyProof.Rows L2
abbrev s_law_word_of : Stmt := top 21
abbrev N_law_word_of : List Str := ["e", "kinds"]
theorem sc_law_word_of : FnScope N_law_word_of ["e"] (defScope s_law_word_of) := ⟨rfl, rfl, rfl, by decide +kernel, rfl, by decide +kernel, by decide +kernel⟩
end CB

namespace CB
open PySem PySem.Spec PyProof.Rows L2
/-! ### the word for the class of what was refused -/
def clsL : List Str := ["NoFrame", "NoBoard", "NoNumber", "NoStep", "NoWay", "TooLong", "NoLess", "NoNote"]
def wordL : List Str := ["frame", "board", "number", "step", "kind", "long", "less", "note"]
theorem er_g {mg : Str → Option Value} {x : Str} {C : Addr} (g : mg x = some (.ref C)) : mg x = some (.ref (ErA mg x)) := by
  have e : ErA mg x = C := by unfold ErA; rw [g]
  rw [e]; exact g
/-- D is the class of the n-th refusals, and of no others -/
structure Wd (K : PySem.W.Frag) (mg : Str → Option Value) (D : Addr) (n : Nat) : Prop where
  C : ExcC K D
  lt : n < 8
  is : ∀ i x, clsL[i]? = some x → PySem.W.kitOne K (.ref D) (.ref (ErA mg x)) = some (decide (i = n))
  ve : PySem.W.kitOne K (.ref D) (.type "ValueError") = some true
  bd : PySem.W.exmOne K (.ref D) (.ref (ErA mg "BoardError")) = some true
theorem wd_mk {K : PySem.W.Frag} {mg : Str → Option Value} {x : Str} {n : Nat} {D c0 c1 c2 c3 c4 c5 c6 c7 cb : Addr} (gx : mg x = some (.ref D)) (C : ExcC K D) (g0 : mg "NoFrame" = some (.ref c0)) (g1 : mg "NoBoard" = some (.ref c1)) (g2 : mg "NoNumber" = some (.ref c2))
    (g3 : mg "NoStep" = some (.ref c3)) (g4 : mg "NoWay" = some (.ref c4)) (g5 : mg "TooLong" = some (.ref c5)) (g6 : mg "NoLess" = some (.ref c6)) (g7 : mg "NoNote" = some (.ref c7)) (gb : mg "BoardError" = some (.ref cb))
    (q0 : PySem.W.kitOne K (.ref D) (.ref c0) = some (decide (0 = n))) (q1 : PySem.W.kitOne K (.ref D) (.ref c1) = some (decide (1 = n))) (q2 : PySem.W.kitOne K (.ref D) (.ref c2) = some (decide (2 = n))) (q3 : PySem.W.kitOne K (.ref D) (.ref c3) = some (decide (3 = n)))
    (q4 : PySem.W.kitOne K (.ref D) (.ref c4) = some (decide (4 = n))) (q5 : PySem.W.kitOne K (.ref D) (.ref c5) = some (decide (5 = n))) (q6 : PySem.W.kitOne K (.ref D) (.ref c6) = some (decide (6 = n))) (q7 : PySem.W.kitOne K (.ref D) (.ref c7) = some (decide (7 = n)))
    (qv : PySem.W.kitOne K (.ref D) (.type "ValueError") = some true) (qb : PySem.W.exmOne K (.ref D) (.ref cb) = some true) (lt : n < 8 := by decide) : Wd K mg (ErA mg x) n := by
  have ea : ∀ {y : Str} {c : Addr}, mg y = some (.ref c) → ErA mg y = c := fun {y c} g => by unfold ErA; rw [g]
  rw [ea gx]
  refine ⟨C, lt, fun i y hy => ?_, qv, by rw [ea gb]; exact qb⟩
  match i, hy with
  | 0, h => cases h; rw [ea g0]; exact q0
  | 1, h => cases h; rw [ea g1]; exact q1
  | 2, h => cases h; rw [ea g2]; exact q2
  | 3, h => cases h; rw [ea g3]; exact q3
  | 4, h => cases h; rw [ea g4]; exact q4
  | 5, h => cases h; rw [ea g5]; exact q5
  | 6, h => cases h; rw [ea g6]; exact q6
  | 7, h => cases h; rw [ea g7]; exact q7
  | k + 8, h => cases h
def sp_law_word_of (K : PySem.W.Frag) (mg : Str → Option Value) : SpE := fun a D vs H Q _ => ∃ n, Wd K mg D n ∧ vs = [.ref a] ∧ TellV H Q (.str (wordL.getD n ""))
def kindL (n : Nat) : List V := [.bl (decide (0 = n)), .bl (decide (1 = n)), .bl (decide (2 = n)), .bl (decide (3 = n))] ++ [.bl (decide (4 = n)), .bl (decide (5 = n)), .bl (decide (6 = n)), .bl (decide (7 = n))]
theorem kind_flat (n : Nat) : (kindL n).all flatV = true := rfl
theorem kind_at : ∀ n, n < 8 → (kindL n)[n]? = some (.bl true) := by
  intro n h
  match n, h with
  | 0, _ => rfl
  | 1, _ => rfl
  | 2, _ => rfl
  | 3, _ => rfl
  | 4, _ => rfl
  | 5, _ => rfl
  | 6, _ => rfl
  | 7, _ => rfl
  | k + 8, h => omega
theorem kind_count : ∀ n, n < 8 → (kindL n).countP (fun z => eqV z (.bl true)) = 1 := by
  intro n h
  match n, h with
  | 0, _ => rfl
  | 1, _ => rfl
  | 2, _ => rfl
  | 3, _ => rfl
  | 4, _ => rfl
  | 5, _ => rfl
  | 6, _ => rfl
  | 7, _ => rfl
  | k + 8, h => omega
theorem kind_get (n : Nat) : ∀ m z, (kindL n)[m]? = some z → z = V.bl (decide (m = n)) := by
  intro m z h
  match m, h with
  | 0, h => cases h; rfl
  | 1, h => cases h; rfl
  | 2, h => cases h; rfl
  | 3, h => cases h; rfl
  | 4, h => cases h; rfl
  | 5, h => cases h; rfl
  | 6, h => cases h; rfl
  | 7, h => cases h; rfl
  | k + 8, h => cases h
theorem word_at : ∀ n, n < 8 → (wordL.map V.str)[n]? = some (.str (wordL.getD n "")) := by
  intro n h
  match n, h with
  | 0, _ => rfl
  | 1, _ => rfl
  | 2, _ => rfl
  | 3, _ => rfl
  | 4, _ => rfl
  | 5, _ => rfl
  | 6, _ => rfl
  | 7, _ => rfl
  | k + 8, h => omega
section
variable {P : Program} {w : World} {K : PySem.W.Frag} {mg : Str → Option Value} {base : Heap}
theorem ok_law_word_of {f : Addr} {fd : FuncData} (F : Fun K "_law_word_of" "_law_word_of" s_law_word_of f fd) (B : Bi mg) (e_NoFrame : Er K mg "NoFrame") (e_NoBoard : Er K mg "NoBoard") (e_NoNumber : Er K mg "NoNumber") (e_NoStep : Er K mg "NoStep")
    (e_NoWay : Er K mg "NoWay") (e_TooLong : Er K mg "TooLong") (e_NoLess : Er K mg "NoLess") (e_NoNote : Er K mg "NoNote") : FnE P w K mg base 1 f fd ["e"] (sp_law_word_of K mg) := by
  refine fun_okE F sc_law_word_of (fun a D vs H Q E h => ?_) (fun cdv A outer s H vs Q E p D hex hr h => ?_)
  · obtain ⟨n, _, rfl, _⟩ := h; rfl
  · obtain ⟨a, oe⟩ := p
    obtain ⟨n, hW, rfl, h⟩ := h
    obtain ⟨hz, hf⟩ := hex
    have hn := hW.lt
    refine ⟨_, (pss_cons (ps_set (i := 1) sc_law_word_of.nd rfl (Or.inl rfl) (pe_lst (pa_cons (pe_callB (call_isP List.mem_cons_self hW.C hz hf) (by rfl) B.isinstance (by decide +kernel) (pa_cons (pv 0) (pa_cons (pe_glob (v := .ref (ErA mg "NoFrame")) (by rfl) e_NoFrame.gC rfl) pa_nil))) (pa_cons (pe_callB (call_isP List.mem_cons_self hW.C hz hf) (by rfl) B.isinstance (by decide +kernel) (pa_cons (pv 0) (pa_cons (pe_glob (v := .ref (ErA mg "NoBoard")) (by rfl) e_NoBoard.gC rfl) pa_nil))) (pa_cons (pe_callB (call_isP List.mem_cons_self hW.C hz hf) (by rfl) B.isinstance (by decide +kernel) (pa_cons (pv 0) (pa_cons (pe_glob (v := .ref (ErA mg "NoNumber")) (by rfl) e_NoNumber.gC rfl) pa_nil))) (pa_cons (pe_callB (call_isP List.mem_cons_self hW.C hz hf) (by rfl) B.isinstance (by decide +kernel) (pa_cons (pv 0) (pa_cons (pe_glob (v := .ref (ErA mg "NoStep")) (by rfl) e_NoStep.gC rfl) pa_nil))) pa_nil))))))
  (pss_cons (ps_set (i := 1) sc_law_word_of.nd rfl (Or.inl rfl) (pe_op op_cat (pv 1) (pe_lst (pa_cons (pe_callB (call_isP List.mem_cons_self hW.C hz hf) (by rfl) B.isinstance (by decide +kernel) (pa_cons (pv 0) (pa_cons (pe_glob (v := .ref (ErA mg "NoWay")) (by rfl) e_NoWay.gC rfl) pa_nil))) (pa_cons (pe_callB (call_isP List.mem_cons_self hW.C hz hf) (by rfl) B.isinstance (by decide +kernel) (pa_cons (pv 0) (pa_cons (pe_glob (v := .ref (ErA mg "TooLong")) (by rfl) e_TooLong.gC rfl) pa_nil))) (pa_cons (pe_callB (call_isP List.mem_cons_self hW.C hz hf) (by rfl) B.isinstance (by decide +kernel) (pa_cons (pv 0) (pa_cons (pe_glob (v := .ref (ErA mg "NoLess")) (by rfl) e_NoLess.gC rfl) pa_nil))) (pa_cons (pe_callB (call_isP List.mem_cons_self hW.C hz hf) (by rfl) B.isinstance (by decide +kernel) (pa_cons (pv 0) (pa_cons (pe_glob (v := .ref (ErA mg "NoNote")) (by rfl) e_NoNote.gC rfl) pa_nil))) pa_nil)))))))
  (pss_cons (ps_if (pw_or (pt_cmpR op_ne (pe_bm PySem.F.plainAttrs_list PySem.F.slot_list_count PySem.F.type_list_count mt_countV (pv 1) (pa_cons pe_bl pa_nil)) pe_int (nomark _)) (pw_or1 (pt_not (pt_val (pe_callB (call_isP List.mem_cons_self hW.C hz hf) (by rfl) B.isinstance (by decide +kernel) (pa_cons (pv 0) (pa_cons (pe_bltn (v := .ty "ValueError") (by rfl) B.ValueError (by decide +kernel) rfl) pa_nil))))))).pt (pss_one (ps_ret pe_str)) pss_nil)
  (pss_one (ps_ret (pe_ix ix_list (pe_lst (pa_cons pe_str (pa_cons pe_str (pa_cons pe_str (pa_cons pe_str (pa_cons pe_str (pa_cons pe_str (pa_cons pe_str (pa_cons pe_str pa_nil))))))))) (pe_bm PySem.F.plainAttrs_list PySem.F.slot_list_index PySem.F.type_list_index mt_index (pv 1) (pa_cons pe_bl pa_nil)) (fun _ _ => rfl))))))), ?_⟩
    refine ⟨_, rfl, _, _, _, rfl, fun u r => r, hW.is 0 _ rfl, _, rfl, _, _, _, rfl, fun u r => r, hW.is 1 _ rfl, _, rfl, _, _, _, rfl, fun u r => r, hW.is 2 _ rfl, _, rfl, _, _, _, rfl, fun u r => r, hW.is 3 _ rfl, by show 4 ≤ sizeLine; decide, fun l nl => ?_⟩
    have hl : upd H l (.lst [.bl (decide (0 = n)), .bl (decide (1 = n)), .bl (decide (2 = n)), .bl (decide (3 = n))]) l = some (.lst [.bl (decide (0 = n)), .bl (decide (1 = n)), .bl (decide (2 = n)), .bl (decide (3 = n))]) := upd_same
    have s1 := same_upd (o := .lst [.bl (decide (0 = n)), .bl (decide (1 = n)), .bl (decide (2 = n)), .bl (decide (3 = n))]) nl
    generalize upd H l (.lst [.bl (decide (0 = n)), .bl (decide (1 = n)), .bl (decide (2 = n)), .bl (decide (3 = n))]) = H1 at hl s1
    refine ⟨_, rfl, _, rfl, _, _, _, rfl, fun u r => r, hW.is 4 _ rfl, _, rfl, _, _, _, rfl, fun u r => r, hW.is 5 _ rfl, _, rfl, _, _, _, rfl, fun u r => r, hW.is 6 _ rfl, _, rfl, _, _, _, rfl, fun u r => r, hW.is 7 _ rfl, by show 4 ≤ sizeLine; decide, fun m nm => ?_⟩
    have s2 := same_upd (o := .lst [.bl (decide (4 = n)), .bl (decide (5 = n)), .bl (decide (6 = n)), .bl (decide (7 = n))]) nm
    refine ⟨l, m, _, _, rfl, rfl, s2 _ _ hl, upd_same, by show 4 + 4 ≤ sizeLine; decide, fun k nk => ?_⟩
    have s3 := same_upd (o := .lst (kindL n)) nk
    have hk : upd (upd H1 m (.lst [.bl (decide (4 = n)), .bl (decide (5 = n)), .bl (decide (6 = n)), .bl (decide (7 = n))])) k (.lst (kindL n)) k = some (.lst (kindL n)) := upd_same
    have s4 := (s1.trans s2).trans s3
    show tSeq _ _ _ _ (upd (upd H1 m (.lst [.bl (decide (4 = n)), .bl (decide (5 = n)), .bl (decide (6 = n)), .bl (decide (7 = n))])) k (.lst (kindL n)))
    generalize upd (upd H1 m (.lst [.bl (decide (4 = n)), .bl (decide (5 = n)), .bl (decide (6 = n)), .bl (decide (7 = n))])) k (.lst (kindL n)) = H2 at hk s4
    refine ⟨_, rfl, .inl ⟨rfl, _, SqL.of hk⟩, _, _, .bl true, rfl, rfl, SqL.of hk, rfl, kind_flat n, ?_⟩
    rw [kind_count n hn]
    refine ⟨rfl, _, rfl, ite_f rfl ?_⟩
    refine ⟨_, rfl, _, _, _, rfl, fun u r => r, hW.ve, _, rfl, ite_f rfl ?_⟩
    refine ⟨by show 8 ≤ sizeLine; decide, fun r nr => ?_⟩
    have s5 := same_upd (o := .lst (wordL.map V.str)) nr
    refine ⟨_, rfl, .inl ⟨rfl, _, SqL.of (s5 _ _ hk)⟩, _, _, .bl true, n, _, rfl, rfl, SqL.of (s5 _ _ hk), rfl, kind_flat n, kind_at n hn, rfl, fun m z hm hz => ?_, ?_⟩
    · rw [kind_get n m z hz, decide_eq_false (by omega)]
      rfl
    · refine ⟨r, _, _, _, rfl, rfl, SqL.of (upd_same (o := .lst (wordL.map V.str))), atI_nat (word_at n hn), ?_⟩
      exact h _ (s4.trans s5)
end
end CB
namespace CB
open PySem PySem.Spec PyProof.Rows L2
abbrev s_law_cell_at : Stmt := top 18
abbrev N_law_cell_at : List Str := ["script", "k"]
theorem sc_law_cell_at : FnScope N_law_cell_at ["script", "k"] (defScope s_law_cell_at) := ⟨rfl, rfl, rfl, by decide +kernel, rfl, by decide +kernel, by decide +kernel⟩
end CB

namespace CB
open PySem PySem.Spec PyProof.Rows L2
def cell (ns : List Int) (k : Int) : Int := ns.getD k.toNat 0
def sp_law_cell_at (K : PySem.W.Frag) (_ : Str → Option Value) : Sp := fun vs H Q _ => ∃ (a : Addr) (ns : List Int) (k : Int), vs = [.ref a, .int k] ∧ SqL K H a (ns.map V.int) ∧ 0 ≤ k ∧ Q (.int (cell ns k)) H
section
variable {P : Program} {w : World} {K : PySem.W.Frag} {mg : Str → Option Value} {base : Heap}
theorem ok_law_cell_at {f : Addr} {fd : FuncData} (F : Fun K "_law_cell_at" "_law_cell_at" s_law_cell_at f fd) (B : Bi mg) : FnOk P w K mg base (L2.CX P w) 1 f fd ["script", "k"] (sp_law_cell_at K mg) := by
  refine F.okX sc_law_cell_at (fun vs H Q E h => ?_) (fun cdv A outer s H vs Q E hr h => ?_)
  · obtain ⟨a, ns, k, rfl, _⟩ := h
    rfl
  · obtain ⟨a, ns, k, rfl, hS, h0, q⟩ := h
    refine ⟨_, (pss_cons (ps_if (pt_cmpR op_lt (pv 1) (pe_callB call_len_seq (by rfl) B.len PySem.boot_len (pa_cons (pv 0) pa_nil)) (nomark _)) (pss_one (ps_ret (pe_ix ix_list (pv 0) (pv 1) (fun _ _ => rfl)))) pss_nil)
  (pss_one (ps_ret pe_int))), ?_⟩
    refine ⟨_, rfl, _, rfl, a, _, rfl, .inl hS, _, _, rfl, rfl, _, rfl, ite2 (fun e => ?_) (fun e => ?_)⟩
    · have e1 := of_decide_eq_true e
      rw [List.length_map] at e1
      have hk : k.toNat < ns.length := by omega
      refine ⟨_, rfl, _, rfl, a, _, _, .int (cell ns k), rfl, rfl, hS, ?_, q⟩
      refine at_of (j := k.toNat) (by omega) (map_get ?_)
      unfold cell
      rw [List.getElem?_eq_getElem hk, List.getD_eq_getElem?_getD, List.getElem?_eq_getElem hk]
      all_goals rfl
    · have hk : ¬ k.toNat < ns.length := fun z => e (decide_eq_true (by rw [List.length_map]; omega))
      have e0 : cell ns k = 0 := by
        unfold cell
        rw [List.getD_eq_getElem?_getD, List.getElem?_eq_none (by omega)]
        all_goals rfl
      rw [e0] at q
      exact q
end
end CB
namespace CB
open PySem PySem.Spec PyProof.Rows L2
abbrev s_law_frame_by : Stmt := top 19
abbrev N_law_frame_by : List Str := ["script", "lines", "k"]
theorem sc_law_frame_by : FnScope N_law_frame_by ["script"] (defScope s_law_frame_by) := ⟨rfl, rfl, rfl, by decide +kernel, rfl, by decide +kernel, by decide +kernel⟩
end CB

namespace CB
open PySem PySem.Spec PyProof.Rows L2
def sp_law_frame_by (K : PySem.W.Frag) (_ : Str → Option Value) : Sp := fun vs H Q _ => ∃ (a : Addr) (ns : List Int), vs = [.ref a] ∧ SqL K H a (ns.map V.int) ∧ ∀ rs : List Int, GF rs → TellL H Q (rs.map V.int)
section
variable {P : Program} {w : World} {K : PySem.W.Frag} {mg : Str → Option Value} {base : Heap}
theorem ok_law_frame_by {f : Addr} {fd : FuncData} (F : Fun K "_law_frame_by" "_law_frame_by" s_law_frame_by f fd) (B : Bi mg) (c_law_cell_at : Callee P w K mg base 1 "_law_cell_at" ["script", "k"] (sp_law_cell_at K mg)) :
    FnOk P w K mg base (L2.CX P w) 2 f fd ["script"] (sp_law_frame_by K mg) := by
  refine F.okX sc_law_frame_by (fun vs H Q E h => ?_) (fun cdv A outer s H vs Q E hr h => ?_)
  · obtain ⟨a, ns, rfl, _⟩ := h
    rfl
  · obtain ⟨a, ns, rfl, hS, k⟩ := h
    refine ⟨_, (pss_cons (ps_set (i := 1) sc_law_frame_by.nd rfl (Or.inl rfl) (pe_op op_mod (pe_f c_law_cell_at hr (by decide) takes0 (pa_cons (pv 0) (pa_cons pe_int pa_nil))) pe_int))
  (pss_cons (ps_if (pt_cmpR op_eq (pe_op op_mod (pe_op op_fdiv (pe_f c_law_cell_at hr (by decide) takes0 (pa_cons (pv 0) (pa_cons pe_int pa_nil))) pe_int) pe_int) pe_int (nomark _)) (pss_one (ps_set (i := 1) sc_law_frame_by.nd rfl (Or.inl rfl) (pe_op op_mod (pe_op op_fdiv (pe_f c_law_cell_at hr (by decide) takes0 (pa_cons (pv 0) (pa_cons pe_int pa_nil))) pe_int) pe_int))) pss_nil)
  (pss_one (ps_ret (pe_lc (own := [("k", 2)]) (g := gName 2) (tt := tYes) rfl sc_law_frame_by.nd (pi_range1 (by rfl) B.range (pa_cons (pv 1) pa_nil)) (blkOk_by (own := [("k", 2)]) (N := N_law_frame_by) (sc := defScope s_law_frame_by) (by decide +kernel)) (fun _ _ _ _ _ => pg_name (i := 2) sc_law_frame_by.nd rfl (Or.inl rfl)) (fun _ _ _ _ _ => pts_nil) (fun _ _ _ _ _ => (pe_op op_add pe_int (pe_op op_mod (pe_f c_law_cell_at hr (by decide) takes0 (pa_cons (pv 0) (pa_cons (pe_op op_add pe_int (pv 2)) pa_nil))) pe_int)))))))), ?_⟩
    -- the tail, whatever lines is
    have tail : ∀ (z : Int), 0 ≤ z → z ≤ 11 → tRet (tLc (iRng1 (tCons (tVar 1) tNil)) (gName 2) tYes (tOp (rI0 fun i j => .int (i + j)) (tC (.int 2)) (tOp (rI (fun _ j => 0 < j) fun i j => .int (i % j)) (tCallS (sp_law_cell_at K mg) (WE fun _ _ _ _ => False) (tCons (tVar 0) (tCons (tOp (rI0 fun i j => .int (i + j)) (tC (.int 2)) (tVar 2)) tNil))) (tC (.int 11)))) [2])
        { nx := fun _ H' => Q .non H', rt := Q } [some (.ref a), some (.int z), none] H := by
      intro z h0 h1
      refine ⟨_, rfl, _, rfl, by omega, by omega, fun D hD => ?_⟩
      refine lc_range (lo := 0) (n := z.toNat) (fun i H' => Same H H' ∧ H' D = some (.lst (((List.range i).map fun j : Nat => 2 + cell ns (2 + (0 + (j : Int))) % 11).map V.int))) ⟨same_upd hD, upd_same⟩ ?_ ?_
      · rintro i H' hi ⟨sm, hD'⟩
        refine ⟨rfl, .ref a, rfl, _, rfl, _, _, rfl, rfl, a, ns, _, rfl, sm.seq hS, by omega, _, _, rfl, rfl, (show (0 : Int) < 11 by decide), _, _, rfl, rfl, _, hD', ?_, fun b o e => ?_, ?_⟩
        · rw [List.length_map, List.length_map, List.length_range]
          exact small64 (by omega)
        · rw [upd_ne (ne_of_none e hD)]
          exact sm b o e
        · rw [upd_same, List.range_succ, List.map_append, List.map_append]
          all_goals rfl
      · rintro H' ⟨sm, hD'⟩
        exact k _ (frame_gf (fun j => cell ns (2 + (0 + (j : Int)))) z.toNat (by omega)) H' D sm hD hD'
    refine ⟨.ref a, rfl, a, ns, 0, rfl, hS, by decide, _, _, rfl, rfl, (show (0 : Int) < 6 by decide), ?_⟩
    refine ⟨.ref a, rfl, a, ns, 0, rfl, hS, by decide, _, _, rfl, rfl, ⟨by decide, by decide⟩, _, _, rfl, rfl, (show (0 : Int) < 4 by decide), rfl, _, rfl, ite2 (fun _ => ?_) (fun _ => ?_)⟩
    · refine ⟨.ref a, rfl, a, ns, 0, rfl, hS, by decide, _, _, rfl, rfl, ⟨by decide, by decide⟩, _, _, rfl, rfl, (show (0 : Int) < 12 by decide), ?_⟩
      exact tail _ (by omega) (by omega)
    · exact tail _ (by omega) (by omega)
end
end CB
namespace CB
open PySem PySem.Spec PyProof.Rows L2
abbrev s_law_board_by : Stmt := top 20
abbrev N_law_board_by : List Str := ["script", "first", "ratios", "kind", "board", "k", "cell"]
theorem sc_law_board_by : FnScope N_law_board_by ["script", "first", "ratios", "kind"] (defScope s_law_board_by) := ⟨rfl, rfl, rfl, by decide +kernel, rfl, by decide +kernel, by decide +kernel⟩
end CB

namespace CB
open PySem PySem.Spec PyProof.Rows L2
def sp_law_board_by (K : PySem.W.Frag) (_ : Str → Option Value) : Sp := fun vs H Q _ => ∃ (a b : Addr) (ns rs : List Int) (first kind : Int), vs = [.ref a, .int first, .ref b, .int kind] ∧ SqL K H a (ns.map V.int) ∧ SqL K H b (rs.map V.int) ∧ rs.length ≤ 11 ∧ 0 ≤ first ∧
  ∀ bs : List Int, GB rs bs → (∀ x ∈ bs, x < 10 ^ 20) → TellL H Q (bs.map V.int)
section
variable {P : Program} {w : World} {K : PySem.W.Frag} {mg : Str → Option Value} {base : Heap}
theorem ok_law_board_by {f : Addr} {fd : FuncData} (F : Fun K "_law_board_by" "_law_board_by" s_law_board_by f fd) (B : Bi mg) (c_law_cell_at : Callee P w K mg base 1 "_law_cell_at" ["script", "k"] (sp_law_cell_at K mg)) :
    FnOk P w K mg base (L2.CX P w) 2 f fd ["script", "first", "ratios", "kind"] (sp_law_board_by K mg) := by
  refine F.okX sc_law_board_by (fun vs H Q E h => ?_) (fun cdv A outer s H vs Q E hr h => ?_)
  · obtain ⟨a, b, ns, rs, first, kind, rfl, _⟩ := h
    rfl
  · obtain ⟨a, b, ns, rs, first, kind, rfl, hA, hB, hl, h0, k⟩ := h
    refine ⟨_, (pss_cons (ps_set (i := 4) sc_law_board_by.nd rfl (Or.inl rfl) (pe_lst pa_nil))
  (pss_cons (ps_for (passes_of rfl) rfl (pi_range1 (by rfl) B.range (pa_cons (pe_op op_add (pe_callB call_len_seq (by rfl) B.len PySem.boot_len (pa_cons (pv 2) pa_nil)) pe_int) pa_nil)) (pg_name (i := 5) sc_law_board_by.nd rfl (Or.inl rfl)) (pss_cons (ps_set (i := 6) sc_law_board_by.nd rfl (Or.inl rfl) (pe_f c_law_cell_at hr (by decide) takes0 (pa_cons (pv 0) (pa_cons (pe_op op_add (pv 1) (pv 5)) pa_nil))))
  (pss_one (ps_if (pt_cmpR op_eq (pv 3) pe_int (nomark _)) (pss_one (ps_expr (pe_bm PySem.F.plainAttrs_list PySem.F.slot_list_append PySem.F.type_list_append mt_append (pv 4) (pa_cons (pe_op op_mod (pv 6) pe_int) pa_nil)))) (pss_one (ps_if (pt_cmpR op_eq (pv 3) pe_int (nomark _)) (pss_one (ps_expr (pe_bm PySem.F.plainAttrs_list PySem.F.slot_list_append PySem.F.type_list_append mt_append (pv 4) (pa_cons (pe_op op_mod (pv 6) (pe_op op_pow pe_int pe_int)) pa_nil)))) (pss_one (ps_if (pt_cmpR op_eq (pv 3) pe_int (nomark _)) (pss_one (ps_expr (pe_bm PySem.F.plainAttrs_list PySem.F.slot_list_append PySem.F.type_list_append mt_append (pv 4) (pa_cons (pe_op op_mod (pv 6) pe_int) pa_nil)))) (pss_one (ps_expr (pe_bm PySem.F.plainAttrs_list PySem.F.slot_list_append PySem.F.type_list_append mt_append (pv 4) (pa_cons (pe_op op_mod (pv 6) pe_int) pa_nil))))))))))))
  (pss_one (ps_ret (pv 4))))), ?_⟩
    refine ⟨by show 0 ≤ sizeLine; decide, fun p hp => ?_⟩
    refine ⟨_, rfl, b, _, rfl, .inl ((same_upd hp).seq hB), _, _, rfl, rfl, _, rfl, by rw [List.length_map]; omega, by rw [List.length_map]; omega, ?_⟩
    rw [List.length_map, show ((rs.length : Int) + 1).toNat = rs.length + 1 by omega]
    refine for_range (fun i σ H' => ∃ (v u : Option V) (bs : List Int), σ = [some (.ref a), some (.int first), some (.ref b), some (.int kind), some (.ref p), v, u] ∧ Same H H' ∧ H' p = some (.lst (bs.map V.int)) ∧ bs.length = i ∧ (∀ x ∈ bs, 0 ≤ x ∧ x < 10 ^ 20))
      ⟨none, none, [], rfl, same_upd hp, upd_same, rfl, fun x hx => nomatch hx⟩ ?_ ?_
    · rintro i σ H' hi ⟨v, u, bs, rfl, sm, hP, hbl, hb⟩
      refine ⟨_, rfl, _, rfl, _, rfl, _, _, rfl, rfl, a, ns, _, rfl, sm.seq hA, by omega, ?_⟩
      have fin : ∀ (x : Int) (σ' : L2.St), 0 ≤ x → x < 10 ^ 20 → σ' = [some (.ref a), some (.int first), some (.ref b), some (.int kind), some (.ref p), some (.int (0 + (i : Int))), some (.int (cell ns (first + (0 + (i : Int)))))] →
          ∃ (v u : Option V) (bs' : List Int), σ' = [some (.ref a), some (.int first), some (.ref b), some (.int kind), some (.ref p), v, u] ∧ Same H (upd H' p (.lst (bs.map V.int ++ [.int x]))) ∧ (upd H' p (.lst (bs.map V.int ++ [.int x]))) p = some (.lst (bs'.map V.int)) ∧ bs'.length = i + 1 ∧ (∀ x ∈ bs', 0 ≤ x ∧ x < 10 ^ 20) := by
        intro x σ' hx0 hx1 e
        refine ⟨_, _, bs ++ [x], e, fun c o q => ?_, by rw [upd_same, List.map_append]; rfl, by rw [List.length_append, hbl]; rfl, fun y hy => ?_⟩
        · rw [upd_ne (ne_of_none q hp)]
          exact sm _ _ q
        · rcases List.mem_append.mp hy with hy | hy
          · exact hb y hy
          · rw [List.mem_singleton.mp hy]
            exact ⟨hx0, hx1⟩
      have hsz : (bs.map V.int).length < sizeLine := by rw [List.length_map]; exact small64 (by omega)
      refine ⟨_, rfl, rfl, _, rfl, ite2 (fun _ => ?_) (fun _ => ?_)⟩
      · refine ⟨_, rfl, .inl ⟨rfl, _, SqL.of hP⟩, _, rfl, _, _, rfl, rfl, (show (0 : Int) < 40 by decide), p, _, _, rfl, rfl, hP, hsz, ?_⟩
        exact fin _ _ (by omega) (by omega) rfl
      · refine ⟨_, rfl, rfl, _, rfl, ite2 (fun _ => ?_) (fun _ => ?_)⟩
        · refine ⟨_, rfl, .inl ⟨rfl, _, SqL.of hP⟩, _, rfl, _, _, rfl, rfl, ⟨by decide, by decide, by decide⟩, _, _, rfl, rfl, (by decide : (0 : Int) < 10 ^ (20 : Int).toNat), p, _, _, rfl, rfl, hP, hsz, ?_⟩
          exact fin _ _ (Int.emod_nonneg _ (by decide)) (Int.emod_lt_of_pos _ (by decide)) rfl
        · refine ⟨_, rfl, rfl, _, rfl, ite2 (fun _ => ?_) (fun _ => ?_)⟩
          · refine ⟨_, rfl, .inl ⟨rfl, _, SqL.of hP⟩, _, rfl, _, _, rfl, rfl, (show (0 : Int) < 3 by decide), p, _, _, rfl, rfl, hP, hsz, ?_⟩
            exact fin _ _ (by omega) (by omega) rfl
          · refine ⟨_, rfl, .inl ⟨rfl, _, SqL.of hP⟩, _, rfl, _, _, rfl, rfl, (show (0 : Int) < 13 by decide), p, _, _, rfl, rfl, hP, hsz, ?_⟩
            exact fin _ _ (by omega) (by omega) rfl
    · rintro σ H' ⟨v, u, bs, rfl, sm, hP, hbl, hb⟩
      exact ⟨_, rfl, k bs ⟨hbl, fun x hx => (hb x hx).1⟩ (fun x hx => (hb x hx).2) H' p sm hp hP⟩
end
end CB
namespace CB
open PySem PySem.Spec PyProof.Rows L2
abbrev s_law_spoilt : Stmt := top 22
abbrev N_law_spoilt : List Str := ["parts", "kind", "at", "word", "some"]
theorem sc_law_spoilt : FnScope N_law_spoilt ["parts", "kind", "at"] (defScope s_law_spoilt) := ⟨rfl, rfl, rfl, by decide +kernel, rfl, by decide +kernel, by decide +kernel⟩
end CB

namespace CB
open PySem PySem.Spec PyProof.Rows L2
def sp_law_spoilt (K : PySem.W.Frag) (_ : Str → Option Value) : Sp := fun vs H Q _ => ∃ (a : Addr) (ps : List Str) (kind at' : Nat), vs = [.ref a, .int (kind : Int), .int (at' : Int)] ∧ H a = some (.lst (ps.map V.str)) ∧ kind < 18 ∧ at' < ps.length ∧ ps.length ≤ 12 ∧ (∀ p ∈ ps, ∃ n, GoodZ p n) ∧
  ∀ qs : List Str, Spo ps.length (Str.join bar qs) → qs.length ≤ 13 → (∀ q ∈ qs, q.length ≤ 61) → TellL H Q (qs.map V.str)
theorem kind_lt {k : Nat} (h : k < 18) (h16 : ¬ k = 16) (h17 : ¬ k = 17) : k < 16 := by omega
theorem dec_nat (k j : Nat) : decide (V.int (k : Int) = V.int (j : Int)) = decide (k = j) := by
  by_cases h : k = j
  · subst h; simp
  · have : ¬ V.int (k : Int) = V.int (j : Int) := fun q => h (by have := V.int.inj q; omega)
    simp [h, this]
section
variable {P : Program} {w : World} {K : PySem.W.Frag} {mg : Str → Option Value} {base : Heap}
theorem ok_law_spoilt {f : Addr} {fd : FuncData} (F : Fun K "_law_spoilt" "_law_spoilt" s_law_spoilt f fd) (B : Bi mg) : FnOk P w K mg base (L2.CX P w) 1 f fd ["parts", "kind", "at"] (sp_law_spoilt K mg) := by
  refine F.okX sc_law_spoilt (fun vs H Q E h => ?_) (fun cdv A outer s H vs Q E hr h => ?_)
  · obtain ⟨a, ps, kind, at', rfl, _⟩ := h
    rfl
  · obtain ⟨a, ps, kind, at', rfl, hA, hk, hat, hl, hg, k⟩ := h
    refine ⟨_, (pss_cons (ps_set (i := 3) sc_law_spoilt.nd rfl (Or.inl rfl) (pe_ix ix_list (pv 0) (pv 2) (fun _ _ => rfl)))
  (pss_cons (ps_set (i := 4) sc_law_spoilt.nd rfl (Or.inl rfl) (pe_lst (pa_cons (pe_op op_add_str pe_str (pv 3)) (pa_cons (pe_op op_add_str pe_str (pv 3)) (pa_cons (pe_op op_add_str pe_str (pv 3)) (pa_cons (pe_op op_add_str (pv 3) pe_str) (pa_cons (pe_op op_add_str (pv 3) pe_str) (pa_cons (pe_op op_add_str pe_str (pv 3)) (pa_cons (pe_op op_add_str (pv 3) pe_str) (pa_cons (pe_op op_add_str (pv 3) pe_str) pa_nil))))))))))
  (pss_cons (ps_set (i := 4) sc_law_spoilt.nd rfl (Or.inl rfl) (pe_op op_cat (pv 4) (pe_lst (pa_cons (pe_op op_add_str (pv 3) pe_str) (pa_cons pe_str (pa_cons (pe_op op_add_str pe_str (pe_op op_mulS pe_str pe_int)) (pa_cons (pe_op op_add_str (pe_op op_add_str (pv 3) pe_str) (pv 3)) (pa_cons (pe_op op_add_str (pv 3) pe_str) (pa_cons (pe_op op_add_str (pv 3) pe_str) (pa_cons pe_str (pa_cons pe_str pa_nil)))))))))))
  (pss_cons (ps_if (pt_cmpR op_eq (pv 1) pe_int (nomark _)) (pss_one (ps_ret (pe_op op_cat (pe_slice sl_list (pv 0) po_none (po_some (pv 2))) (pe_slice sl_list (pv 0) (po_some (pe_op op_add (pv 2) pe_int)) po_none)))) pss_nil)
  (pss_cons (ps_if (pt_cmpR op_eq (pv 1) pe_int (nomark _)) (pss_one (ps_ret (pe_op op_cat (pe_op op_cat (pe_slice sl_list (pv 0) po_none (po_some (pv 2))) (pe_lst (pa_cons pe_str pa_nil))) (pe_slice sl_list (pv 0) (po_some (pv 2)) po_none)))) pss_nil)
  (pss_one (ps_ret (pe_op op_cat (pe_op op_cat (pe_slice sl_list (pv 0) po_none (po_some (pv 2))) (pe_lst (pa_cons (pe_ix ix_list (pv 4) (pv 1) (fun _ _ => rfl)) pa_nil))) (pe_slice sl_list (pv 0) (po_some (pe_op op_add (pv 2) pe_int)) po_none))))))))), ?_⟩
    have hw : ps[at']? = some ps[at'] := List.getElem?_eq_getElem hat
    obtain ⟨w, ew⟩ : ∃ w, w = ps[at'] := ⟨_, rfl⟩
    rw [← ew] at hw
    obtain ⟨n, hgw⟩ := hg w (List.mem_of_getElem? hw)
    have hps : ps = ps.take at' ++ w :: ps.drop (at' + 1) := by
      have e1 := List.take_append_drop at' ps
      rw [List.drop_eq_getElem_cons hat, ← ew] at e1
      exact e1.symm
    have gA : ∀ p ∈ ps.take at', ∃ m, GoodZ p m := fun p hp => hg p (List.mem_of_mem_take hp)
    have gC : ∀ p ∈ ps.drop (at' + 1), ∃ m, GoodZ p m := fun p hp => hg p (List.mem_of_mem_drop hp)
    have gD : ∀ p ∈ ps.drop at', ∃ m, GoodZ p m := fun p hp => hg p (List.mem_of_mem_drop hp)
    have lA : (ps.take at').length = at' := by rw [List.length_take]; omega
    have lC : (ps.drop (at' + 1)).length = ps.length - (at' + 1) := List.length_drop ..
    have lD : (ps.drop at').length = ps.length - at' := List.length_drop ..
    have len30 : ∀ p ∈ ps, p.length ≤ 61 := fun p hp => by obtain ⟨m, hm⟩ := hg p hp; have := hm.2; omega
    have h30 := hgw.2
    have big : ∀ x : Nat, x ≤ 200 → x ≤ sizeLine := fun x hx => Nat.le_trans hx (by decide)
    have l1 : ∀ s : String, (Str.ofString s).length = s.toList.length := fun s => by rw [TL.len_tl, tlS, List.length_map]
    have sz : ∀ (s : String), s.toList.length ≤ 100 → (Str.ofString s).length + w.length ≤ sizeLine := fun s hs => big _ (by rw [l1]; omega)
    have sz' : ∀ (s : String), s.toList.length ≤ 100 → w.length + (Str.ofString s).length ≤ sizeLine := fun s hs => big _ (by rw [l1]; omega)
    have hz0 : zeros.length = 30 := by rw [TL.len_tl, tl_zeros]; rfl
    refine ⟨_, rfl, _, rfl, a, _, _, _, rfl, rfl, SqL.of hA, atI_nat (show (ps.map V.str)[at']? = some (V.str w) by rw [List.getElem?_map, hw]; rfl), ?_⟩
    refine ⟨_, rfl, _, _, rfl, rfl, sz "0" (by decide), _, rfl, _, _, rfl, rfl, sz "+" (by decide), _, rfl, _, _, rfl, rfl, sz "-" (by decide), _, rfl, _, _, rfl, rfl, sz' "a" (by decide), _, rfl, _, _, rfl, rfl, sz' "_0" (by decide), _, rfl, _, _, rfl, rfl, sz " " (by decide), _, rfl, _, _, rfl, rfl, sz' " " (by decide), _, rfl, _, _, rfl, rfl, sz' "\t" (by decide), by show 8 ≤ sizeLine; decide, fun x1 y1 => ?_⟩
    have t1 := same_upd (o := .lst [V.str (Str.ofString "0" ++ w), V.str (Str.ofString "+" ++ w), V.str (Str.ofString "-" ++ w), V.str (w ++ Str.ofString "a"), V.str (w ++ Str.ofString "_0"), V.str (Str.ofString " " ++ w), V.str (w ++ Str.ofString " "), V.str (w ++ Str.ofString "\t")]) y1
    have e1 := upd_same (H := H) (a := x1) (o := .lst [V.str (Str.ofString "0" ++ w), V.str (Str.ofString "+" ++ w), V.str (Str.ofString "-" ++ w), V.str (w ++ Str.ofString "a"), V.str (w ++ Str.ofString "_0"), V.str (Str.ofString " " ++ w), V.str (w ++ Str.ofString " "), V.str (w ++ Str.ofString "\t")])
    refine ⟨_, rfl, _, rfl, _, _, rfl, rfl, sz' "\n" (by decide), rfl, rfl, _, _, rfl, rfl, (big _ (by rw [l1, hz0]; decide)), _, rfl, _, _, rfl, rfl, sz' "|" (by decide), _, rfl, _, _, rfl, rfl, (big _ (by rw [str_len, l1]; show w.length + 1 + w.length ≤ 200; omega)), _, rfl, _, _, rfl, rfl, sz' ".0" (by decide), _, rfl, _, _, rfl, rfl, sz' "|" (by decide), by show 8 ≤ sizeLine; decide, fun x2 y2 => ?_⟩
    have t2 := same_upd (o := .lst [V.str (w ++ Str.ofString "\n"), V.str (Str.ofString ""), V.str (Str.ofString "1" ++ zeros), V.str (w ++ Str.ofString "|" ++ w), V.str (w ++ Str.ofString ".0"), V.str (w ++ Str.ofString "|"), V.str (Str.ofString "1 0"), V.str (Str.ofString "1\t0")]) y2
    refine ⟨x1, x2, _, _, rfl, rfl, t2 _ _ e1, upd_same, by show 8 + 8 ≤ sizeLine; decide, fun x3 y3 => ?_⟩
    have t3 := same_upd (o := .lst ([V.str (Str.ofString "0" ++ w), V.str (Str.ofString "+" ++ w), V.str (Str.ofString "-" ++ w), V.str (w ++ Str.ofString "a"), V.str (w ++ Str.ofString "_0"), V.str (Str.ofString " " ++ w), V.str (w ++ Str.ofString " "), V.str (w ++ Str.ofString "\t")] ++ [V.str (w ++ Str.ofString "\n"), V.str (Str.ofString ""), V.str (Str.ofString "1" ++ zeros), V.str (w ++ Str.ofString "|" ++ w), V.str (w ++ Str.ofString ".0"), V.str (w ++ Str.ofString "|"), V.str (Str.ofString "1 0"), V.str (Str.ofString "1\t0")])) y3
    have e3 : (upd (upd (upd H x1 (.lst [V.str (Str.ofString "0" ++ w), V.str (Str.ofString "+" ++ w), V.str (Str.ofString "-" ++ w), V.str (w ++ Str.ofString "a"), V.str (w ++ Str.ofString "_0"), V.str (Str.ofString " " ++ w), V.str (w ++ Str.ofString " "), V.str (w ++ Str.ofString "\t")])) x2 (.lst [V.str (w ++ Str.ofString "\n"), V.str (Str.ofString ""), V.str (Str.ofString "1" ++ zeros), V.str (w ++ Str.ofString "|" ++ w), V.str (w ++ Str.ofString ".0"), V.str (w ++ Str.ofString "|"), V.str (Str.ofString "1 0"), V.str (Str.ofString "1\t0")])) x3 (.lst ([V.str (Str.ofString "0" ++ w), V.str (Str.ofString "+" ++ w), V.str (Str.ofString "-" ++ w), V.str (w ++ Str.ofString "a"), V.str (w ++ Str.ofString "_0"), V.str (Str.ofString " " ++ w), V.str (w ++ Str.ofString " "), V.str (w ++ Str.ofString "\t")] ++ [V.str (w ++ Str.ofString "\n"), V.str (Str.ofString ""), V.str (Str.ofString "1" ++ zeros), V.str (w ++ Str.ofString "|" ++ w), V.str (w ++ Str.ofString ".0"), V.str (w ++ Str.ofString "|"), V.str (Str.ofString "1 0"), V.str (Str.ofString "1\t0")]))) x3 = some (.lst ((someL w).map V.str)) := upd_same
    have t13 := (t1.trans t2).trans t3
    generalize upd (upd (upd H x1 (.lst [V.str (Str.ofString "0" ++ w), V.str (Str.ofString "+" ++ w), V.str (Str.ofString "-" ++ w), V.str (w ++ Str.ofString "a"), V.str (w ++ Str.ofString "_0"), V.str (Str.ofString " " ++ w), V.str (w ++ Str.ofString " "), V.str (w ++ Str.ofString "\t")])) x2 (.lst [V.str (w ++ Str.ofString "\n"), V.str (Str.ofString ""), V.str (Str.ofString "1" ++ zeros), V.str (w ++ Str.ofString "|" ++ w), V.str (w ++ Str.ofString ".0"), V.str (w ++ Str.ofString "|"), V.str (Str.ofString "1 0"), V.str (Str.ofString "1\t0")])) x3 (.lst ([V.str (Str.ofString "0" ++ w), V.str (Str.ofString "+" ++ w), V.str (Str.ofString "-" ++ w), V.str (w ++ Str.ofString "a"), V.str (w ++ Str.ofString "_0"), V.str (Str.ofString " " ++ w), V.str (w ++ Str.ofString " "), V.str (w ++ Str.ofString "\t")] ++ [V.str (w ++ Str.ofString "\n"), V.str (Str.ofString ""), V.str (Str.ofString "1" ++ zeros), V.str (w ++ Str.ofString "|" ++ w), V.str (w ++ Str.ofString ".0"), V.str (w ++ Str.ofString "|"), V.str (Str.ofString "1 0"), V.str (Str.ofString "1\t0")])) = H1 at e3 t13
    have hA1 := t13 _ _ hA
    refine ⟨_, rfl, rfl, _, rfl, ?_⟩
    rw [show decide (V.int (kind : Int) = V.int 16) = decide (kind = 16) from dec_nat kind 16]
    by_cases h16 : kind = 16
    · refine ite_t (decide_eq_true h16) ?_
      refine ⟨_, rfl, _, rfl, _, rfl, a, _, rfl, SqL.of hA1, fun q1 m1 => ?_⟩
      rw [cut_take, ← List.map_take]
      have u1 := same_upd (o := .lst ((ps.take at').map V.str)) m1
      refine ⟨_, rfl, _, rfl, _, _, rfl, rfl, _, rfl, a, _, rfl, SqL.of (u1 _ _ hA1), fun q2 m2 => ?_⟩
      rw [show ((at' : Int) + 1) = ((at' + 1 : Nat) : Int) from rfl, cut_drop, ← List.map_drop]
      have u2 := same_upd (o := .lst ((ps.drop (at' + 1)).map V.str)) m2
      refine ⟨q1, q2, _, _, rfl, rfl, u2 _ _ upd_same, upd_same, big _ (by rw [List.length_map, List.length_map]; omega), fun q3 m3 => ?_⟩
      have u3 := same_upd (o := .lst ((ps.take at').map V.str ++ (ps.drop (at' + 1)).map V.str)) m3
      have uu := t13.trans ((u1.trans u2).trans u3)
      have sp := spo_few gA gC (by omega)
      rw [show (ps.take at').length + 1 + (ps.drop (at' + 1)).length = ps.length by omega] at sp
      refine k (ps.take at' ++ ps.drop (at' + 1)) sp (by rw [List.length_append]; omega) (fun q hq => ?_) _ q3 uu (((t13.trans u1).trans u2).free m3) (by rw [upd_same, List.map_append])
      rcases List.mem_append.mp hq with hq | hq
      · exact len30 q (List.mem_of_mem_take hq)
      · exact len30 q (List.mem_of_mem_drop hq)
    refine ite_f (decide_eq_false h16) ?_
    refine ⟨_, rfl, rfl, _, rfl, ?_⟩
    rw [show decide (V.int (kind : Int) = V.int 17) = decide (kind = 17) from dec_nat kind 17]
    by_cases h17 : kind = 17
    · refine ite_t (decide_eq_true h17) ?_
      refine ⟨_, rfl, _, rfl, _, rfl, a, _, rfl, SqL.of hA1, fun q1 m1 => ?_⟩
      rw [cut_take, ← List.map_take]
      have u1 := same_upd (o := .lst ((ps.take at').map V.str)) m1
      refine ⟨by show 1 ≤ sizeLine; decide, fun q2 m2 => ?_⟩
      have u2 := same_upd (o := .lst [V.str (Str.ofString "7")]) m2
      refine ⟨q1, q2, _, _, rfl, rfl, u2 _ _ upd_same, upd_same, big _ (by rw [List.length_map]; show _ + 1 ≤ 200; omega), fun q3 m3 => ?_⟩
      have u3 := same_upd (o := .lst ((ps.take at').map V.str ++ [V.str (Str.ofString "7")])) m3
      have u13 := (u1.trans u2).trans u3
      refine ⟨_, rfl, _, rfl, _, rfl, a, _, rfl, SqL.of (u13 _ _ hA1), fun q4 m4 => ?_⟩
      rw [cut_drop, ← List.map_drop]
      have u4 := same_upd (o := .lst ((ps.drop at').map V.str)) m4
      refine ⟨q3, q4, _, _, rfl, rfl, u4 _ _ upd_same, upd_same, big _ (by rw [List.length_append, List.length_map, List.length_map]; show _ + 1 + _ ≤ 200; omega), fun q5 m5 => ?_⟩
      have u5 := same_upd (o := .lst ((ps.take at').map V.str ++ [V.str (Str.ofString "7")] ++ (ps.drop at').map V.str)) m5
      have uu := t13.trans (u13.trans (u4.trans u5))
      have sp := spo_many gA gD (by omega)
      rw [show (ps.take at').length + (ps.drop at').length = ps.length by omega] at sp
      refine k (ps.take at' ++ Str.ofString "7" :: ps.drop at') sp (by simp only [List.length_append, List.length_cons]; omega) (fun q hq => ?_) _ q5 uu ((t13.trans (u13.trans u4)).free m5) (by rw [upd_same, List.map_append, List.append_assoc]; rfl)
      simp only [List.mem_append, List.mem_cons] at hq
      rcases hq with hq | rfl | hq
      · exact len30 q (List.mem_of_mem_take hq)
      · decide
      · exact len30 q (List.mem_of_mem_drop hq)
    refine ite_f (decide_eq_false h17) ?_
    have hk16 := kind_lt hk h16 h17
    have hsl : (someL w).length = 16 := rfl
    obtain ⟨z, hz⟩ : ∃ z, (someL w)[kind]? = some z := ⟨_, List.getElem?_eq_getElem (by omega)⟩
    have hz61 := someL_len hgw z (List.mem_of_getElem? hz)
    refine ⟨_, rfl, _, rfl, _, rfl, a, _, rfl, SqL.of hA1, fun q1 m1 => ?_⟩
    rw [cut_take, ← List.map_take]
    have u1 := same_upd (o := .lst ((ps.take at').map V.str)) m1
    refine ⟨_, rfl, _, rfl, x3, _, _, _, rfl, rfl, SqL.of (u1 _ _ e3), atI_nat (show ((someL w).map V.str)[kind]? = some (V.str z) by rw [List.getElem?_map, hz]; rfl), by show 1 ≤ sizeLine; decide, fun q2 m2 => ?_⟩
    have u2 := same_upd (o := .lst [V.str z]) m2
    refine ⟨q1, q2, _, _, rfl, rfl, u2 _ _ upd_same, upd_same, big _ (by rw [List.length_map]; show _ + 1 ≤ 200; omega), fun q3 m3 => ?_⟩
    have u3 := same_upd (o := .lst ((ps.take at').map V.str ++ [V.str z])) m3
    have u13 := (u1.trans u2).trans u3
    refine ⟨_, rfl, _, rfl, _, _, rfl, rfl, _, rfl, a, _, rfl, SqL.of (u13 _ _ hA1), fun q4 m4 => ?_⟩
    rw [show ((at' : Int) + 1) = ((at' + 1 : Nat) : Int) from rfl, cut_drop, ← List.map_drop]
    have u4 := same_upd (o := .lst ((ps.drop (at' + 1)).map V.str)) m4
    refine ⟨q3, q4, _, _, rfl, rfl, u4 _ _ upd_same, upd_same, big _ (by rw [List.length_append, List.length_map, List.length_map]; show _ + 1 + _ ≤ 200; omega), fun q5 m5 => ?_⟩
    have u5 := same_upd (o := .lst ((ps.take at').map V.str ++ [V.str z] ++ (ps.drop (at' + 1)).map V.str)) m5
    have uu := t13.trans (u13.trans (u4.trans u5))
    have sp := spo_word hgw gA gC (by omega) hz
    rw [show (ps.take at').length + 1 + (ps.drop (at' + 1)).length = ps.length by omega] at sp
    refine k (ps.take at' ++ z :: ps.drop (at' + 1)) sp (by simp only [List.length_append, List.length_cons]; omega) (fun q hq => ?_) _ q5 uu ((t13.trans (u13.trans u4)).free m5) (by rw [upd_same, List.map_append, List.append_assoc]; rfl)
    simp only [List.mem_append, List.mem_cons] at hq
    rcases hq with hq | rfl | hq
    · exact len30 q (List.mem_of_mem_take hq)
    · exact hz61
    · exact len30 q (List.mem_of_mem_drop hq)
end
end CB
namespace CB
open PySem PySem.Spec PyProof.Rows L2
abbrev s_law_refused : Stmt := top 23
abbrev N_law_refused : List Str := ["ratios", "text", "e"]
theorem sc_law_refused : FnScope N_law_refused ["ratios", "text"] (defScope s_law_refused) := ⟨rfl, rfl, rfl, by decide +kernel, rfl, by decide +kernel, by decide +kernel⟩
end CB

namespace CB
open PySem PySem.Spec PyProof.Rows L2
def sp_law_refused (K : PySem.W.Frag) (_ : Str → Option Value) : Sp := fun vs H Q _ => ∃ (a : Addr) (rs : List Int) (z : Str), vs = [.ref a, .str z] ∧ SqL K H a (rs.map V.int) ∧ GF rs ∧ Spo (rs.length + 1) z ∧ TellV H Q (.bl true)
theorem split_parts {qs : List Str} (hne : qs ≠ []) (h : ∀ q ∈ qs, Part q) : Txt.split (Str.join bar qs) bar = qs := by
  rw [← TL.join_eq]
  exact TL.split_join tl_bar (by decide +kernel) hne fun p hp => (h p hp).1
section
variable {P : Program} {w : World} {K : PySem.W.Frag} {mg : Str → Option Value} {base : Heap}
theorem ok_law_refused {f : Addr} {fd : FuncData} (F : Fun K "_law_refused" "_law_refused" s_law_refused f fd) (B : Bi mg) (e_BoardError : mg "BoardError" = some (.ref (ErA mg "BoardError"))) (w_NoNote : Wd K mg (ErA mg "NoNote") 7)
    (c_read : Callee P w K mg base 2 "read" ["ratios", "text"] (sp_read K mg)) (c_law_word_of : CalleeE P w K mg base 1 "_law_word_of" ["e"] (sp_law_word_of K mg)) :
    FnOk P w K mg base (L2.CX P w) 3 f fd ["ratios", "text"] (sp_law_refused K mg) := by
  refine F.okX sc_law_refused (fun vs H Q E h => ?_) (fun cdv A outer s H vs Q E hr h => ?_)
  · obtain ⟨a, rs, z, rfl, _⟩ := h
    rfl
  · obtain ⟨a, rs, z, rfl, hA, g, ⟨qs, rfl, hne, hql, hqp, hbad⟩, k⟩ := h
    refine ⟨_, (pss_cons (ps_try_as (i := 2) rfl rfl sc_law_refused.nd rfl rfl ⟨rfl, by decide, .inl e_BoardError⟩ takes0 (fun W pn xe tk _ => (pss_one (ps_expr (pe_f c_read hr (by decide) tk (pa_cons (pv 0) (pa_cons (pv 1) pa_nil))))))
  (fun a oe cls d pn hz hf => (pss_one (ps_ret (pe_cmpR op_eq (pe_callE c_law_word_of hr (by decide) hz hf (pa_cons (pv 2) pa_nil)) pe_str (nomark _))))))
  (pss_one (ps_ret pe_bl))), ?_⟩
    have hlen : (Str.join bar qs).length ≤ 100000 := by
      have h1 := join_len qs
      have h2 := sum_lenM (M := 40) fun q hq => (hqp q hq).2.1
      omega
    refine ⟨_, rfl, _, rfl, a, Str.join bar qs, rs, qs, rfl, hA, hlen, split_parts hne hqp, by omega, fun q hq => by have := (hqp q hq).2.1; omega, fun z => absurd g z, fun _ => ?_⟩
    by_cases hb : ∃ q ∈ qs, BadZ q
    · refine .inr ⟨hb, fun q hq => (hqp q hq).2.2, fun H1 s1 => ⟨true, w_NoNote.bd, fun _ z hz => ⟨_, rfl, ErA mg "NoNote", rfl, rfl, 7, w_NoNote, rfl, fun H2 s2 => ⟨rfl, ?_⟩⟩, fun q => nomatch q⟩⟩
      have e : decide (V.str (wordL.getD 7 "") = V.str "note") = true := decide_eq_true rfl
      rw [e]
      exact k H2 (s1.trans s2)
    · have hgood : ∀ q ∈ qs, ∃ n, GoodZ q n := fun q hq => (hqp q hq).2.2.elim (fun z => absurd ⟨q, hq, z⟩ hb) id
      obtain ⟨ns, hns⟩ := goods hgood
      have hn : qs.length ≠ rs.length + 1 := hbad.elim (fun z => absurd z hb) id
      refine .inl ⟨ns, hns, fun p hp => by obtain ⟨n, hn⟩ := hgood p hp; exact hn.2, fun z => absurd z hn, fun _ H1 s1 => ⟨true, w_NoNote.bd, fun _ z hz => ⟨_, rfl, ErA mg "NoNote", rfl, rfl, 7, w_NoNote, rfl, fun H2 s2 => ⟨rfl, ?_⟩⟩, fun q => nomatch q⟩⟩
      have e : decide (V.str (wordL.getD 7 "") = V.str "note") = true := decide_eq_true rfl
      rw [e]
      exact k H2 (s1.trans s2)
end
end CB
namespace CB
open PySem PySem.Spec PyProof.Rows L2
theorem no_err (P : Program) (w : World) (H : Hp) (s : Shared) (e : Value) (s' : Shared) : L2.CX P w [] H s (fun _ _ _ => False) e s' → False := fun h => by
  obtain ⟨_, _, _, _, _, _, _, _, _, _, _, _, z⟩ := h
  exact z
end CB
namespace CB
open PySem PySem.Spec PyProof.Rows L2
abbrev s_law : Stmt := top 24
abbrev N_law : List Str := ["script", "ratios", "board", "parts", "at", "k"]
theorem sc_law : FnScope N_law ["script"] (defScope s_law) := ⟨rfl, rfl, rfl, by decide +kernel, rfl, by decide +kernel, by decide +kernel⟩
end CB

namespace CB
open PySem PySem.Spec PyProof.Rows L2
def sp_law (K : PySem.W.Frag) : Sp := fun vs H Q _ => ∃ (a : Addr) (ns : List Int), vs = [.ref a] ∧ SqL K H a (ns.map V.int) ∧ ns.length ≤ 63 ∧ ∀ H', Q (.bl true) H'
section
variable {P : Program} {w : World} {K : PySem.W.Frag} {mg : Str → Option Value} {base : Heap}
theorem ok_law {f : Addr} {fd : FuncData} (F : Fun K "law" "law" s_law f fd) (B : Bi mg) (c_law_frame_by : Callee P w K mg base 2 "_law_frame_by" ["script"] (sp_law_frame_by K mg))
    (c_law_board_by : Callee P w K mg base 2 "_law_board_by" ["script", "first", "ratios", "kind"] (sp_law_board_by K mg)) (c_law_cell_at : Callee P w K mg base 1 "_law_cell_at" ["script", "k"] (sp_law_cell_at K mg))
    (c_law_spoilt : Callee P w K mg base 1 "_law_spoilt" ["parts", "kind", "at"] (sp_law_spoilt K mg)) (c_law_refused : Callee P w K mg base 3 "_law_refused" ["ratios", "text"] (sp_law_refused K mg)) :
    FnOk P w K mg base (L2.CX P w) 4 f fd ["script"] (sp_law K) := by
  refine F.okX sc_law (fun vs H Q E h => ?_) (fun cdv A outer s H vs Q E hr h => ?_)
  · obtain ⟨a, ns, rfl, _⟩ := h
    rfl
  · obtain ⟨a, ns, rfl, hS, _, q⟩ := h
    refine ⟨_, (pss_cons (ps_set (i := 1) sc_law.nd rfl (Or.inl rfl) (pe_f c_law_frame_by hr (by decide) takes0 (pa_cons (pv 0) pa_nil)))
  (pss_cons (ps_set (i := 2) sc_law.nd rfl (Or.inr rfl) (pe_f c_law_board_by hr (by decide) takes0 (pa_cons (pv 0) (pa_cons pe_int (pa_cons (pv 1) (pa_cons (pe_op op_mod (pe_f c_law_cell_at hr (by decide) takes0 (pa_cons (pv 0) (pa_cons pe_int pa_nil))) pe_int) pa_nil))))))
  (pss_cons (ps_setLc (i := 3) (own := [("k", 5)]) (g := gName 5) (tt := tYes) rfl sc_law.nd rfl rfl (sw_true rfl rfl rfl (by decide +kernel)) (pi_revR (by rfl) B.reversed (prg_1 (by rfl) B.range (pe_callB call_len_seq (by rfl) B.len PySem.boot_len (pa_cons (pv 2) pa_nil)))) (blkOk_by (own := [("k", 5)]) (N := N_law) (sc := defScope s_law) (by decide +kernel)) (fun _ _ _ _ _ => pg_name (i := 5) sc_law.nd rfl (Or.inl rfl)) (fun _ _ _ _ _ => pts_nil) (fun _ _ _ _ _ => (pe_callTy call_str_int (by rfl) B.str (by decide +kernel) (pa_cons (pe_ix (ix_listK K rfl) (pv 2) (pv 5) (fun _ _ => rfl)) pa_nil))))
  (pss_cons (ps_set (i := 4) sc_law.nd rfl (Or.inl rfl) (pe_op op_mod (pe_f c_law_cell_at hr (by decide) takes0 (pa_cons (pv 0) (pa_cons pe_int pa_nil))) (pe_callB call_len_seq (by rfl) B.len PySem.boot_len (pa_cons (pv 3) pa_nil))))
  (pss_cons (ps_set (i := 3) sc_law.nd rfl (Or.inl rfl) (pe_f c_law_spoilt hr (by decide) takes0 (pa_cons (pv 3) (pa_cons (pe_op op_mod (pe_f c_law_cell_at hr (by decide) takes0 (pa_cons (pv 0) (pa_cons pe_int pa_nil))) pe_int) (pa_cons (pv 4) pa_nil)))))
  (pss_one (ps_ret (pe_f c_law_refused hr (by decide) takes0 (pa_cons (pe_callTy call_list_of (by rfl) B.list (by decide +kernel) (pa_cons (pv 1) pa_nil)) (pa_cons (pe_join pe_str (pv 3)) pa_nil)))))))))), ?_⟩
    refine ⟨.ref a, rfl, a, ns, rfl, hS, fun rs g H1 p1 s1 n1 e1 => ?_⟩
    refine ⟨_, rfl, _, rfl, _, rfl, a, ns, 1, rfl, s1.seq hS, by decide, _, _, rfl, rfl, (show (0 : Int) < 4 by decide), ?_⟩
    refine ⟨a, p1, ns, rs, 13, _, rfl, s1.seq hS, SqL.of e1, g.1, by decide, fun bs gb hb H2 p2 s2 n2 e2 => ?_⟩
    have hn := gb.1
    have g11 := g.1
    have s02 := s1.trans s2
    have k1 := s2 _ _ e1
    have hb30 : ∀ x ∈ bs, x < 10 ^ 30 := fun x hx => by
      have := hb x hx
      have : (10 : Int) ^ 20 < 10 ^ 30 := by decide
      omega
    have hgood : ∀ p ∈ bs.reverse.map sNum, ∃ n, GoodZ p n := fun p hp => by
      obtain ⟨x, hx, rfl⟩ := List.mem_map.mp hp
      have hx' := List.mem_reverse.mp hx
      have h0 := gb.2 x hx'
      refine ⟨x.toNat, by rw [show ((x.toNat : Nat) : Int) = x by omega], sNum_len h0 (hb30 x hx')⟩
    have hpl : (bs.reverse.map sNum).length = rs.length + 1 := by rw [List.length_map, List.length_reverse, hn]
    -- parts
    refine ⟨_, rfl, p2, _, rfl, .inl (SqL.of e2), _, rfl, by decide, by decide, by rw [List.length_map]; omega, by rw [List.length_map]; omega, fun T hT => ?_⟩
    rw [List.length_map]
    rw [show ((bs.length : Int) - 0).toNat = bs.length by omega]
    refine lc_it (walk_rangeC (n := bs.length)) (fun i H' => Same H2 H' ∧ H' T = some (.lst (((bs.reverse.map sNum).take i).map V.str))) ⟨same_upd hT, upd_same⟩ (fun _ _ _ _ => trivial) ?_ ?_
    · rintro i x H3 H4 hi ⟨sm, hD⟩ ⟨rfl, hx⟩
      obtain ⟨L, hL⟩ : ∃ L, L = bs.length - 1 - i := ⟨_, rfl⟩
      have ex : (0 : Int) + (bs.length : Int) - 1 + ((i : Nat) : Int) * -1 = (L : Int) := by omega
      have hx : x = V.int (L : Int) := hx.trans (congrArg V.int ex)
      subst hx
      have hLl : L < bs.length := by omega
      have hm : bs.getD L 0 ∈ bs := List.mem_of_getElem? (getD_of hLl)
      have h0 := gb.2 _ hm
      have h1 := hb30 _ hm
      have ax : atI (bs.map V.int) (L : Int) = some (.int (bs.getD L 0)) := atI_nat (map_get (getD_of hLl))
      have hp : (bs.reverse.map sNum)[i]? = some (sNum (bs.getD L 0)) := by
        rw [List.getElem?_map, List.getElem?_reverse hi, ← hL, getD_of hLl]
        rfl
      refine ⟨rfl, _, rfl, _, rfl, p2, _, _, _, rfl, rfl, SqL.of (sm _ _ e2), ax, _, rfl, log_small h0 h1, _, hD, ?_, fun c o q => ?_, ?_⟩
      · rw [List.length_map, List.length_take]
        exact small64 (by omega)
      · rw [upd_ne (ne_of_none q hT)]
        exact sm _ _ q
      · rw [upd_same, take_more hp, List.map_append]
        rfl
    rintro H3 ⟨s3, hD⟩
    rw [List.take_of_length_le (by rw [hpl]; omega)] at hD
    have s03 := s02.trans s3
    -- at
    refine ⟨_, rfl, a, ns, 41, rfl, s03.seq hS, by decide, _, rfl, T, _, rfl, .inl (SqL.of hD), _, _, rfl, rfl, (by show (0 : Int) < (((bs.reverse.map sNum).map V.str).length : Int); rw [List.length_map, hpl]; omega), ?_⟩
    rw [List.length_map, hpl]
    obtain ⟨j, hj⟩ : ∃ j : Nat, (j : Int) = cell ns 41 % ((rs.length + 1 : Nat) : Int) := ⟨(cell ns 41 % ((rs.length + 1 : Nat) : Int)).toNat, by have := Int.emod_nonneg (cell ns 41) (show ((rs.length + 1 : Nat) : Int) ≠ 0 by omega); omega⟩
    have hj2 : j < rs.length + 1 := by have := Int.emod_lt_of_pos (cell ns 41) (show (0 : Int) < ((rs.length + 1 : Nat) : Int) by omega); omega
    obtain ⟨kd, hkd⟩ : ∃ j : Nat, (j : Int) = cell ns 42 % 18 := ⟨(cell ns 42 % 18).toNat, by omega⟩
    have hkd2 : kd < 18 := by omega
    refine ⟨_, rfl, _, rfl, a, ns, 42, rfl, s03.seq hS, by decide, _, _, rfl, rfl, (show (0 : Int) < 18 by decide), _, rfl, ?_⟩
    refine ⟨T, bs.reverse.map sNum, kd, j, by rw [hj, hkd], hD, hkd2, by omega, by omega, hgood, fun qs hsp hql hqq H4 p4 s4 n4 e4 => ?_⟩
    rw [hpl] at hsp
    refine ⟨_, rfl, p1, _, rfl, .inl (SqL.of (s4 _ _ (s3 _ _ k1))), fun x5 y5 => ?_⟩
    have t5 := same_upd (o := .lst (rs.map V.int)) y5
    refine ⟨⟨_, rfl⟩, _, rfl, bar, p4, qs, rfl, rfl, .inl (SqL.of (t5 _ _ e4)), ?_, ?_⟩
    · have := sum_lenM hqq
      show _ + qs.length * 1 ≤ 16777216
      omega
    · rw [TL.join_eq]
      exact ⟨x5, rs, _, rfl, SqL.of upd_same, g, hsp, fun H' _ => q H'⟩
end
end CB
namespace CB
open PySem PySem.Spec PyProof.Rows L2
theorem all_mk {l : PySem.W.OpenLaw} {w : World} {K : PySem.W.Frag} {h : Heap} {mg : Str → Option Value} {fa : Addr} (X : K.In h) (G : h.Ns mainGlobals mg) (hfa : mg "law" = some (.ref fa))
    {t_MOST : Tok}
    {t_FIGURES : Tok}
    {C_NoFrame : Addr}
    {C_NoBoard : Addr}
    {C_NoNumber : Addr}
    {C_NoStep : Addr}
    {C_NoWay : Addr}
    {C_TooLong : Addr}
    {C_NoLess : Addr}
    {C_NoNote : Addr}
    {C_BoardError : Addr}
    {f_asked_frame : Addr} {od_asked_frame an_asked_frame : Option Addr} {sl_asked_frame : Array (Option Value)} {oc_asked_frame kV_asked_frame dc_asked_frame pm_asked_frame cd_asked_frame ct_asked_frame : Value}
    {f_number_of : Addr} {od_number_of an_number_of : Option Addr} {sl_number_of : Array (Option Value)} {oc_number_of kV_number_of dc_number_of pm_number_of cd_number_of ct_number_of : Value}
    {f_read : Addr} {od_read an_read : Option Addr} {sl_read : Array (Option Value)} {oc_read kV_read dc_read pm_read cd_read ct_read : Value}
    {f_law_cell_at : Addr} {od_law_cell_at an_law_cell_at : Option Addr} {sl_law_cell_at : Array (Option Value)} {oc_law_cell_at kV_law_cell_at dc_law_cell_at pm_law_cell_at cd_law_cell_at ct_law_cell_at : Value}
    {f_law_frame_by : Addr} {od_law_frame_by an_law_frame_by : Option Addr} {sl_law_frame_by : Array (Option Value)} {oc_law_frame_by kV_law_frame_by dc_law_frame_by pm_law_frame_by cd_law_frame_by ct_law_frame_by : Value}
    {f_law_board_by : Addr} {od_law_board_by an_law_board_by : Option Addr} {sl_law_board_by : Array (Option Value)} {oc_law_board_by kV_law_board_by dc_law_board_by pm_law_board_by cd_law_board_by ct_law_board_by : Value}
    {f_law_word_of : Addr} {od_law_word_of an_law_word_of : Option Addr} {sl_law_word_of : Array (Option Value)} {oc_law_word_of kV_law_word_of dc_law_word_of pm_law_word_of cd_law_word_of ct_law_word_of : Value}
    {f_law_spoilt : Addr} {od_law_spoilt an_law_spoilt : Option Addr} {sl_law_spoilt : Array (Option Value)} {oc_law_spoilt kV_law_spoilt dc_law_spoilt pm_law_spoilt cd_law_spoilt ct_law_spoilt : Value}
    {f_law_refused : Addr} {od_law_refused an_law_refused : Option Addr} {sl_law_refused : Array (Option Value)} {oc_law_refused kV_law_refused dc_law_refused pm_law_refused cd_law_refused ct_law_refused : Value}
    {f_law : Addr} {od_law an_law : Option Addr} {sl_law : Array (Option Value)} {oc_law kV_law dc_law pm_law cd_law ct_law : Value}
    (z_len : PySem.W.nsIn K mainGlobals "len" = some none)
    (z_list : PySem.W.nsIn K mainGlobals "list" = some none)
    (z_range : PySem.W.nsIn K mainGlobals "range" = some none)
    (z_isinstance : PySem.W.nsIn K mainGlobals "isinstance" = some none)
    (z_zip : PySem.W.nsIn K mainGlobals "zip" = some none)
    (z_reversed : PySem.W.nsIn K mainGlobals "reversed" = some none)
    (z_sum : PySem.W.nsIn K mainGlobals "sum" = some none)
    (z_all : PySem.W.nsIn K mainGlobals "all" = some none)
    (z_abs : PySem.W.nsIn K mainGlobals "abs" = some none)
    (z_max : PySem.W.nsIn K mainGlobals "max" = some none)
    (z_min : PySem.W.nsIn K mainGlobals "min" = some none)
    (z_str : PySem.W.nsIn K mainGlobals "str" = some none)
    (z_int : PySem.W.nsIn K mainGlobals "int" = some none)
    (z_bool : PySem.W.nsIn K mainGlobals "bool" = some none)
    (z_tuple : PySem.W.nsIn K mainGlobals "tuple" = some none)
    (z_ValueError : PySem.W.nsIn K mainGlobals "ValueError" = some none)
    (g_MOST : PySem.W.nsIn K mainGlobals "MOST" = some (some (.int 11 t_MOST)))
    (g_FIGURES : PySem.W.nsIn K mainGlobals "FIGURES" = some (some (.str "0123456789" t_FIGURES)))
    (g_NoFrame : PySem.W.nsIn K mainGlobals "NoFrame" = some (some (.ref C_NoFrame)))
    (x_NoFrame : PySem.W.excIn K C_NoFrame [.type "ValueError", .type "Exception", .type "BaseException", .type "object"] "ValueError.__new__" = true)
    (k_NoFrame : PySem.W.keepIn K (.ref C_NoFrame) = true)
    (b_NoFrame : PySem.W.subIn K (.ref C_NoFrame) (.type "BaseException") = some true)
    (t_NoFrame : PySem.W.typeIn K (.ref C_NoFrame) = some (.type "type"))
    (g_NoBoard : PySem.W.nsIn K mainGlobals "NoBoard" = some (some (.ref C_NoBoard)))
    (x_NoBoard : PySem.W.excIn K C_NoBoard [.type "ValueError", .type "Exception", .type "BaseException", .type "object"] "ValueError.__new__" = true)
    (k_NoBoard : PySem.W.keepIn K (.ref C_NoBoard) = true)
    (b_NoBoard : PySem.W.subIn K (.ref C_NoBoard) (.type "BaseException") = some true)
    (t_NoBoard : PySem.W.typeIn K (.ref C_NoBoard) = some (.type "type"))
    (g_NoNumber : PySem.W.nsIn K mainGlobals "NoNumber" = some (some (.ref C_NoNumber)))
    (x_NoNumber : PySem.W.excIn K C_NoNumber [.type "ValueError", .type "Exception", .type "BaseException", .type "object"] "ValueError.__new__" = true)
    (k_NoNumber : PySem.W.keepIn K (.ref C_NoNumber) = true)
    (b_NoNumber : PySem.W.subIn K (.ref C_NoNumber) (.type "BaseException") = some true)
    (t_NoNumber : PySem.W.typeIn K (.ref C_NoNumber) = some (.type "type"))
    (g_NoStep : PySem.W.nsIn K mainGlobals "NoStep" = some (some (.ref C_NoStep)))
    (x_NoStep : PySem.W.excIn K C_NoStep [.type "ValueError", .type "Exception", .type "BaseException", .type "object"] "ValueError.__new__" = true)
    (k_NoStep : PySem.W.keepIn K (.ref C_NoStep) = true)
    (b_NoStep : PySem.W.subIn K (.ref C_NoStep) (.type "BaseException") = some true)
    (t_NoStep : PySem.W.typeIn K (.ref C_NoStep) = some (.type "type"))
    (g_NoWay : PySem.W.nsIn K mainGlobals "NoWay" = some (some (.ref C_NoWay)))
    (x_NoWay : PySem.W.excIn K C_NoWay [.type "ValueError", .type "Exception", .type "BaseException", .type "object"] "ValueError.__new__" = true)
    (k_NoWay : PySem.W.keepIn K (.ref C_NoWay) = true)
    (b_NoWay : PySem.W.subIn K (.ref C_NoWay) (.type "BaseException") = some true)
    (t_NoWay : PySem.W.typeIn K (.ref C_NoWay) = some (.type "type"))
    (g_TooLong : PySem.W.nsIn K mainGlobals "TooLong" = some (some (.ref C_TooLong)))
    (x_TooLong : PySem.W.excIn K C_TooLong [.type "ValueError", .type "Exception", .type "BaseException", .type "object"] "ValueError.__new__" = true)
    (k_TooLong : PySem.W.keepIn K (.ref C_TooLong) = true)
    (b_TooLong : PySem.W.subIn K (.ref C_TooLong) (.type "BaseException") = some true)
    (t_TooLong : PySem.W.typeIn K (.ref C_TooLong) = some (.type "type"))
    (g_NoLess : PySem.W.nsIn K mainGlobals "NoLess" = some (some (.ref C_NoLess)))
    (x_NoLess : PySem.W.excIn K C_NoLess [.type "ValueError", .type "Exception", .type "BaseException", .type "object"] "ValueError.__new__" = true)
    (k_NoLess : PySem.W.keepIn K (.ref C_NoLess) = true)
    (b_NoLess : PySem.W.subIn K (.ref C_NoLess) (.type "BaseException") = some true)
    (t_NoLess : PySem.W.typeIn K (.ref C_NoLess) = some (.type "type"))
    (g_NoNote : PySem.W.nsIn K mainGlobals "NoNote" = some (some (.ref C_NoNote)))
    (x_NoNote : PySem.W.excIn K C_NoNote [.type "ValueError", .type "Exception", .type "BaseException", .type "object"] "ValueError.__new__" = true)
    (k_NoNote : PySem.W.keepIn K (.ref C_NoNote) = true)
    (b_NoNote : PySem.W.subIn K (.ref C_NoNote) (.type "BaseException") = some true)
    (t_NoNote : PySem.W.typeIn K (.ref C_NoNote) = some (.type "type"))
    (g_BoardError : PySem.W.nsIn K mainGlobals "BoardError" = some (some (.ref C_BoardError)))
    (xn_all : PySem.W.specialIn K (.builtin "object.__class__") "__get__" = some (some (.builtin "getset_descriptor.__get__")))
    (xt_all : PySem.W.takesIn K (.builtin "object.__class__") = some true)
    (xg_NoNote : PySem.W.findIn K (.ref C_NoNote) "__getattribute__" = some (some (.builtin "BaseException.__getattribute__")))
    (xk_NoNote : PySem.W.findIn K (.ref C_NoNote) "__getattr__" = some none)
    (xd_NoNote : PySem.W.hasDictIn K C_NoNote = true)
    (xa_NoNote : PySem.W.findIn K (.ref C_NoNote) "__class__" = some (some (.builtin "object.__class__")))
    (xm_NoNote : PySem.W.mroIn K C_NoNote (.type "object") = some true)
    (q0_NoNote : PySem.W.kitOne K (.ref C_NoNote) (.ref C_NoFrame) = some false)
    (q1_NoNote : PySem.W.kitOne K (.ref C_NoNote) (.ref C_NoBoard) = some false)
    (q2_NoNote : PySem.W.kitOne K (.ref C_NoNote) (.ref C_NoNumber) = some false)
    (q3_NoNote : PySem.W.kitOne K (.ref C_NoNote) (.ref C_NoStep) = some false)
    (q4_NoNote : PySem.W.kitOne K (.ref C_NoNote) (.ref C_NoWay) = some false)
    (q5_NoNote : PySem.W.kitOne K (.ref C_NoNote) (.ref C_TooLong) = some false)
    (q6_NoNote : PySem.W.kitOne K (.ref C_NoNote) (.ref C_NoLess) = some false)
    (q7_NoNote : PySem.W.kitOne K (.ref C_NoNote) (.ref C_NoNote) = some true)
    (qv_NoNote : PySem.W.kitOne K (.ref C_NoNote) (.type "ValueError") = some true)
    (qb_NoNote : PySem.W.exmOne K (.ref C_NoNote) (.ref C_BoardError) = some true)
    (a_asked_frame : PySem.W.nsIn K mainGlobals "asked_frame" = some (some (.ref f_asked_frame)))
    (l_asked_frame : K.lookup f_asked_frame = some ⟨oc_asked_frame, od_asked_frame, .func (PySem.W.fnOf "asked_frame" "asked_frame" (defArgs s_asked_frame) (defBody s_asked_frame) (defScope s_asked_frame) .none kV_asked_frame dc_asked_frame pm_asked_frame an_asked_frame cd_asked_frame ct_asked_frame), sl_asked_frame⟩)
    (c_asked_frame : PySem.W.codeIn K cd_asked_frame "asked_frame" = true)
    (p_asked_frame : PySem.W.keepIn K (.ref f_asked_frame) = true)
    (a_number_of : PySem.W.nsIn K mainGlobals "number_of" = some (some (.ref f_number_of)))
    (l_number_of : K.lookup f_number_of = some ⟨oc_number_of, od_number_of, .func (PySem.W.fnOf "number_of" "number_of" (defArgs s_number_of) (defBody s_number_of) (defScope s_number_of) .none kV_number_of dc_number_of pm_number_of an_number_of cd_number_of ct_number_of), sl_number_of⟩)
    (c_number_of : PySem.W.codeIn K cd_number_of "number_of" = true)
    (p_number_of : PySem.W.keepIn K (.ref f_number_of) = true)
    (a_read : PySem.W.nsIn K mainGlobals "read" = some (some (.ref f_read)))
    (l_read : K.lookup f_read = some ⟨oc_read, od_read, .func (PySem.W.fnOf "read" "read" (defArgs s_read) (defBody s_read) (defScope s_read) .none kV_read dc_read pm_read an_read cd_read ct_read), sl_read⟩)
    (c_read : PySem.W.codeIn K cd_read "read" = true)
    (p_read : PySem.W.keepIn K (.ref f_read) = true)
    (a_law_cell_at : PySem.W.nsIn K mainGlobals "_law_cell_at" = some (some (.ref f_law_cell_at)))
    (l_law_cell_at : K.lookup f_law_cell_at = some ⟨oc_law_cell_at, od_law_cell_at, .func (PySem.W.fnOf "_law_cell_at" "_law_cell_at" (defArgs s_law_cell_at) (defBody s_law_cell_at) (defScope s_law_cell_at) .none kV_law_cell_at dc_law_cell_at pm_law_cell_at an_law_cell_at cd_law_cell_at ct_law_cell_at), sl_law_cell_at⟩)
    (c_law_cell_at : PySem.W.codeIn K cd_law_cell_at "_law_cell_at" = true)
    (p_law_cell_at : PySem.W.keepIn K (.ref f_law_cell_at) = true)
    (a_law_frame_by : PySem.W.nsIn K mainGlobals "_law_frame_by" = some (some (.ref f_law_frame_by)))
    (l_law_frame_by : K.lookup f_law_frame_by = some ⟨oc_law_frame_by, od_law_frame_by, .func (PySem.W.fnOf "_law_frame_by" "_law_frame_by" (defArgs s_law_frame_by) (defBody s_law_frame_by) (defScope s_law_frame_by) .none kV_law_frame_by dc_law_frame_by pm_law_frame_by an_law_frame_by cd_law_frame_by ct_law_frame_by), sl_law_frame_by⟩)
    (c_law_frame_by : PySem.W.codeIn K cd_law_frame_by "_law_frame_by" = true)
    (p_law_frame_by : PySem.W.keepIn K (.ref f_law_frame_by) = true)
    (a_law_board_by : PySem.W.nsIn K mainGlobals "_law_board_by" = some (some (.ref f_law_board_by)))
    (l_law_board_by : K.lookup f_law_board_by = some ⟨oc_law_board_by, od_law_board_by, .func (PySem.W.fnOf "_law_board_by" "_law_board_by" (defArgs s_law_board_by) (defBody s_law_board_by) (defScope s_law_board_by) .none kV_law_board_by dc_law_board_by pm_law_board_by an_law_board_by cd_law_board_by ct_law_board_by), sl_law_board_by⟩)
    (c_law_board_by : PySem.W.codeIn K cd_law_board_by "_law_board_by" = true)
    (p_law_board_by : PySem.W.keepIn K (.ref f_law_board_by) = true)
    (a_law_word_of : PySem.W.nsIn K mainGlobals "_law_word_of" = some (some (.ref f_law_word_of)))
    (l_law_word_of : K.lookup f_law_word_of = some ⟨oc_law_word_of, od_law_word_of, .func (PySem.W.fnOf "_law_word_of" "_law_word_of" (defArgs s_law_word_of) (defBody s_law_word_of) (defScope s_law_word_of) .none kV_law_word_of dc_law_word_of pm_law_word_of an_law_word_of cd_law_word_of ct_law_word_of), sl_law_word_of⟩)
    (c_law_word_of : PySem.W.codeIn K cd_law_word_of "_law_word_of" = true)
    (p_law_word_of : PySem.W.keepIn K (.ref f_law_word_of) = true)
    (a_law_spoilt : PySem.W.nsIn K mainGlobals "_law_spoilt" = some (some (.ref f_law_spoilt)))
    (l_law_spoilt : K.lookup f_law_spoilt = some ⟨oc_law_spoilt, od_law_spoilt, .func (PySem.W.fnOf "_law_spoilt" "_law_spoilt" (defArgs s_law_spoilt) (defBody s_law_spoilt) (defScope s_law_spoilt) .none kV_law_spoilt dc_law_spoilt pm_law_spoilt an_law_spoilt cd_law_spoilt ct_law_spoilt), sl_law_spoilt⟩)
    (c_law_spoilt : PySem.W.codeIn K cd_law_spoilt "_law_spoilt" = true)
    (p_law_spoilt : PySem.W.keepIn K (.ref f_law_spoilt) = true)
    (a_law_refused : PySem.W.nsIn K mainGlobals "_law_refused" = some (some (.ref f_law_refused)))
    (l_law_refused : K.lookup f_law_refused = some ⟨oc_law_refused, od_law_refused, .func (PySem.W.fnOf "_law_refused" "_law_refused" (defArgs s_law_refused) (defBody s_law_refused) (defScope s_law_refused) .none kV_law_refused dc_law_refused pm_law_refused an_law_refused cd_law_refused ct_law_refused), sl_law_refused⟩)
    (c_law_refused : PySem.W.codeIn K cd_law_refused "_law_refused" = true)
    (p_law_refused : PySem.W.keepIn K (.ref f_law_refused) = true)
    (a_law : PySem.W.nsIn K mainGlobals "law" = some (some (.ref f_law)))
    (l_law : K.lookup f_law = some ⟨oc_law, od_law, .func (PySem.W.fnOf "law" "law" (defArgs s_law) (defBody s_law) (defScope s_law) .none kV_law dc_law pm_law an_law cd_law ct_law), sl_law⟩)
    (c_law : PySem.W.codeIn K cd_law "law" = true)
    (p_law : PySem.W.keepIn K (.ref f_law) = true) :
    ∃ fd : FuncData, (∀ (s : Shared) (v : Value), BindsTo s fd ⟨[v], []⟩ [("script", v)]) ∧ ∀ base : Heap, K.In base → base.Ns mainGlobals mg → FnOk l.prog w K mg base (L2.CX l.prog w) 4 fa fd ["script"] (sp_law K) := by
  have e := hfa.symm.trans (PySem.W.mg_of X G a_law)
  cases e
  have B : Bi mg := ⟨PySem.W.mg_none_of X G z_len, PySem.W.mg_none_of X G z_list, PySem.W.mg_none_of X G z_range, PySem.W.mg_none_of X G z_isinstance, PySem.W.mg_none_of X G z_zip, PySem.W.mg_none_of X G z_reversed, PySem.W.mg_none_of X G z_sum, PySem.W.mg_none_of X G z_all, PySem.W.mg_none_of X G z_abs, PySem.W.mg_none_of X G z_max, PySem.W.mg_none_of X G z_min, PySem.W.mg_none_of X G z_str, PySem.W.mg_none_of X G z_int, PySem.W.mg_none_of X G z_bool, PySem.W.mg_none_of X G z_tuple, PySem.W.mg_none_of X G z_ValueError⟩
  have m_MOST : ∃ t, mg "MOST" = some (.int 11 t) := ⟨_, PySem.W.mg_of X G g_MOST⟩
  have m_FIGURES : ∃ t, mg "FIGURES" = some (.str "0123456789" t) := ⟨_, PySem.W.mg_of X G g_FIGURES⟩
  have e_NoFrame : Er K mg "NoFrame" := er_mk (PySem.W.mg_of X G g_NoFrame) x_NoFrame k_NoFrame b_NoFrame t_NoFrame
  have e_NoBoard : Er K mg "NoBoard" := er_mk (PySem.W.mg_of X G g_NoBoard) x_NoBoard k_NoBoard b_NoBoard t_NoBoard
  have e_NoNumber : Er K mg "NoNumber" := er_mk (PySem.W.mg_of X G g_NoNumber) x_NoNumber k_NoNumber b_NoNumber t_NoNumber
  have e_NoStep : Er K mg "NoStep" := er_mk (PySem.W.mg_of X G g_NoStep) x_NoStep k_NoStep b_NoStep t_NoStep
  have e_NoWay : Er K mg "NoWay" := er_mk (PySem.W.mg_of X G g_NoWay) x_NoWay k_NoWay b_NoWay t_NoWay
  have e_TooLong : Er K mg "TooLong" := er_mk (PySem.W.mg_of X G g_TooLong) x_TooLong k_TooLong b_TooLong t_TooLong
  have e_NoLess : Er K mg "NoLess" := er_mk (PySem.W.mg_of X G g_NoLess) x_NoLess k_NoLess b_NoLess t_NoLess
  have e_NoNote : Er K mg "NoNote" := er_mk (PySem.W.mg_of X G g_NoNote) x_NoNote k_NoNote b_NoNote t_NoNote
  have e_BoardError : mg "BoardError" = some (.ref (ErA mg "BoardError")) := er_g (PySem.W.mg_of X G g_BoardError)
  have w_NoNote : Wd K mg (ErA mg "NoNote") 7 := wd_mk (PySem.W.mg_of X G g_NoNote) ⟨xg_NoNote, xk_NoNote, b_NoNote, xd_NoNote, xa_NoNote, xn_all, xt_all, xm_NoNote⟩ (PySem.W.mg_of X G g_NoFrame) (PySem.W.mg_of X G g_NoBoard) (PySem.W.mg_of X G g_NoNumber) (PySem.W.mg_of X G g_NoStep) (PySem.W.mg_of X G g_NoWay) (PySem.W.mg_of X G g_TooLong) (PySem.W.mg_of X G g_NoLess) (PySem.W.mg_of X G g_NoNote) (PySem.W.mg_of X G g_BoardError) q0_NoNote q1_NoNote q2_NoNote q3_NoNote q4_NoNote q5_NoNote q6_NoNote q7_NoNote qv_NoNote qb_NoNote
  have F_asked_frame := fun_mk (st := s_asked_frame) l_asked_frame c_asked_frame p_asked_frame
  have b_asked_frame := F_asked_frame.binds (ps := ["ratios"]) fun _ _ _ _ _ _ us hl => match us, hl with | [_], _ => rfl
  have F_number_of := fun_mk (st := s_number_of) l_number_of c_number_of p_number_of
  have b_number_of := F_number_of.binds (ps := ["figures"]) fun _ _ _ _ _ _ us hl => match us, hl with | [_], _ => rfl
  have F_read := fun_mk (st := s_read) l_read c_read p_read
  have b_read := F_read.binds (ps := ["ratios", "text"]) fun _ _ _ _ _ _ us hl => match us, hl with | [_, _], _ => rfl
  have F_law_cell_at := fun_mk (st := s_law_cell_at) l_law_cell_at c_law_cell_at p_law_cell_at
  have b_law_cell_at := F_law_cell_at.binds (ps := ["script", "k"]) fun _ _ _ _ _ _ us hl => match us, hl with | [_, _], _ => rfl
  have F_law_frame_by := fun_mk (st := s_law_frame_by) l_law_frame_by c_law_frame_by p_law_frame_by
  have b_law_frame_by := F_law_frame_by.binds (ps := ["script"]) fun _ _ _ _ _ _ us hl => match us, hl with | [_], _ => rfl
  have F_law_board_by := fun_mk (st := s_law_board_by) l_law_board_by c_law_board_by p_law_board_by
  have b_law_board_by := F_law_board_by.binds (ps := ["script", "first", "ratios", "kind"]) fun _ _ _ _ _ _ us hl => match us, hl with | [_, _, _, _], _ => rfl
  have F_law_word_of := fun_mk (st := s_law_word_of) l_law_word_of c_law_word_of p_law_word_of
  have b_law_word_of := F_law_word_of.binds (ps := ["e"]) fun _ _ _ _ _ _ us hl => match us, hl with | [_], _ => rfl
  have F_law_spoilt := fun_mk (st := s_law_spoilt) l_law_spoilt c_law_spoilt p_law_spoilt
  have b_law_spoilt := F_law_spoilt.binds (ps := ["parts", "kind", "at"]) fun _ _ _ _ _ _ us hl => match us, hl with | [_, _, _], _ => rfl
  have F_law_refused := fun_mk (st := s_law_refused) l_law_refused c_law_refused p_law_refused
  have b_law_refused := F_law_refused.binds (ps := ["ratios", "text"]) fun _ _ _ _ _ _ us hl => match us, hl with | [_, _], _ => rfl
  have F_law := fun_mk (st := s_law) l_law c_law p_law
  refine ⟨PySem.W.fnOf "law" "law" (defArgs s_law) (defBody s_law) (defScope s_law) .none kV_law dc_law pm_law an_law cd_law ct_law, fun s v => .of_eq rfl, fun base _ _ => ?_⟩
  have c_asked_frame : Callee l.prog w K mg base 1 "asked_frame" ["ratios"] (sp_asked_frame K mg) := Callee.mk' (ok_asked_frame F_asked_frame B (m_MOST := m_MOST) (e_NoFrame := e_NoFrame)) (PySem.W.mg_of X G a_asked_frame) p_asked_frame b_asked_frame
  have c_number_of : Callee l.prog w K mg base 1 "number_of" ["figures"] (sp_number_of K mg) := Callee.mk' (ok_number_of F_number_of B (m_FIGURES := m_FIGURES) (e_NoNote := e_NoNote)) (PySem.W.mg_of X G a_number_of) p_number_of b_number_of
  have c_read : Callee l.prog w K mg base 2 "read" ["ratios", "text"] (sp_read K mg) := Callee.mk' (ok_read F_read B (e_NoNote := e_NoNote) (c_asked_frame := c_asked_frame) (c_number_of := c_number_of)) (PySem.W.mg_of X G a_read) p_read b_read
  have c_law_cell_at : Callee l.prog w K mg base 1 "_law_cell_at" ["script", "k"] (sp_law_cell_at K mg) := Callee.mk' (ok_law_cell_at F_law_cell_at B) (PySem.W.mg_of X G a_law_cell_at) p_law_cell_at b_law_cell_at
  have c_law_frame_by : Callee l.prog w K mg base 2 "_law_frame_by" ["script"] (sp_law_frame_by K mg) := Callee.mk' (ok_law_frame_by F_law_frame_by B (c_law_cell_at := c_law_cell_at)) (PySem.W.mg_of X G a_law_frame_by) p_law_frame_by b_law_frame_by
  have c_law_board_by : Callee l.prog w K mg base 2 "_law_board_by" ["script", "first", "ratios", "kind"] (sp_law_board_by K mg) := Callee.mk' (ok_law_board_by F_law_board_by B (c_law_cell_at := c_law_cell_at)) (PySem.W.mg_of X G a_law_board_by) p_law_board_by b_law_board_by
  have c_law_word_of : CalleeE l.prog w K mg base 1 "_law_word_of" ["e"] (sp_law_word_of K mg) := CalleeE.mk' (ok_law_word_of F_law_word_of B (e_NoFrame := e_NoFrame) (e_NoBoard := e_NoBoard) (e_NoNumber := e_NoNumber) (e_NoStep := e_NoStep) (e_NoWay := e_NoWay) (e_TooLong := e_TooLong) (e_NoLess := e_NoLess) (e_NoNote := e_NoNote)) (PySem.W.mg_of X G a_law_word_of) p_law_word_of b_law_word_of
  have c_law_spoilt : Callee l.prog w K mg base 1 "_law_spoilt" ["parts", "kind", "at"] (sp_law_spoilt K mg) := Callee.mk' (ok_law_spoilt F_law_spoilt B) (PySem.W.mg_of X G a_law_spoilt) p_law_spoilt b_law_spoilt
  have c_law_refused : Callee l.prog w K mg base 3 "_law_refused" ["ratios", "text"] (sp_law_refused K mg) := Callee.mk' (ok_law_refused F_law_refused B (e_BoardError := e_BoardError) (w_NoNote := w_NoNote) (c_read := c_read) (c_law_word_of := c_law_word_of)) (PySem.W.mg_of X G a_law_refused) p_law_refused b_law_refused
  exact ok_law F_law B (c_law_frame_by := c_law_frame_by) (c_law_board_by := c_law_board_by) (c_law_spoilt := c_law_spoilt) (c_law_refused := c_law_refused) (c_law_cell_at := c_law_cell_at)
end CB
open PySem PySem.W PyProof.Rows
set_option maxRecDepth 100000 in
set_option maxHeartbeats 0 in
theorem PySem.Challenge.cw_countboard_k17_read_holds : PySem.Challenge.rw_countboard_k17_read.Holds := by
  w_on; o_law; k_head; (case hw => w_witness2)
  k_fill
  refine L2.walk_of (l := PySem.Challenge.rw_countboard_k17_read) (n := 63) (k := 4) (x := "script") (CX := fun w => L2.CX PySem.Challenge.rw_countboard_k17_read.prog w) (sp := fun w => CB.sp_law _) rfl (by decide) rfl ⟨rfl, by decide, by decide⟩ (fun w h Y => PySem.W.kIn_of Y) ?F (fun _ _ a ns hl _ hS => ⟨a, ns, rfl, hS, hl, fun _ => rfl⟩) (CB.no_err _)
  case F =>
    intro w mg fa h KX G hmg
    refine' CB.all_mk KX G hmg ?z_len ?z_list ?z_range ?z_isinstance ?z_zip ?z_reversed ?z_sum ?z_all ?z_abs ?z_max ?z_min ?z_str ?z_int ?z_bool ?z_tuple ?z_ValueError ?g_MOST ?g_FIGURES ?g_NoFrame ?x_NoFrame ?k_NoFrame ?b_NoFrame ?t_NoFrame ?g_NoBoard ?x_NoBoard ?k_NoBoard ?b_NoBoard ?t_NoBoard ?g_NoNumber ?x_NoNumber ?k_NoNumber ?b_NoNumber ?t_NoNumber ?g_NoStep ?x_NoStep ?k_NoStep ?b_NoStep ?t_NoStep ?g_NoWay ?x_NoWay ?k_NoWay ?b_NoWay ?t_NoWay ?g_TooLong ?x_TooLong ?k_TooLong ?b_TooLong ?t_TooLong ?g_NoLess ?x_NoLess ?k_NoLess ?b_NoLess ?t_NoLess ?g_NoNote ?x_NoNote ?k_NoNote ?b_NoNote ?t_NoNote ?g_BoardError ?xn_all ?xt_all ?xg_NoNote ?xk_NoNote ?xd_NoNote ?xa_NoNote ?xm_NoNote ?q0_NoNote ?q1_NoNote ?q2_NoNote ?q3_NoNote ?q4_NoNote ?q5_NoNote ?q6_NoNote ?q7_NoNote ?qv_NoNote ?qb_NoNote ?a_asked_frame ?l_asked_frame ?c_asked_frame ?p_asked_frame ?a_number_of ?l_number_of ?c_number_of ?p_number_of ?a_read ?l_read ?c_read ?p_read ?a_law_cell_at ?l_law_cell_at ?c_law_cell_at ?p_law_cell_at ?a_law_frame_by ?l_law_frame_by ?c_law_frame_by ?p_law_frame_by ?a_law_board_by ?l_law_board_by ?c_law_board_by ?p_law_board_by ?a_law_word_of ?l_law_word_of ?c_law_word_of ?p_law_word_of ?a_law_spoilt ?l_law_spoilt ?c_law_spoilt ?p_law_spoilt ?a_law_refused ?l_law_refused ?c_law_refused ?p_law_refused ?a_law ?l_law ?c_law ?p_law
    (case z_len => k_is)
    (case z_list => k_is)
    (case z_range => k_is)
    (case z_isinstance => k_is)
    (case z_zip => k_is)
    (case z_reversed => k_is)
    (case z_sum => k_is)
    (case z_all => k_is)
    (case z_abs => k_is)
    (case z_max => k_is)
    (case z_min => k_is)
    (case z_str => k_is)
    (case z_int => k_is)
    (case z_bool => k_is)
    (case z_tuple => k_is)
    (case z_ValueError => k_is)
    (case g_MOST => k_is)
    (case g_FIGURES => k_is)
    (case g_NoFrame => k_is)
    (case x_NoFrame => k_exc)
    (case k_NoFrame => k_is)
    (case b_NoFrame => k_is)
    (case t_NoFrame => k_is)
    (case g_NoBoard => k_is)
    (case x_NoBoard => k_exc)
    (case k_NoBoard => k_is)
    (case b_NoBoard => k_is)
    (case t_NoBoard => k_is)
    (case g_NoNumber => k_is)
    (case x_NoNumber => k_exc)
    (case k_NoNumber => k_is)
    (case b_NoNumber => k_is)
    (case t_NoNumber => k_is)
    (case g_NoStep => k_is)
    (case x_NoStep => k_exc)
    (case k_NoStep => k_is)
    (case b_NoStep => k_is)
    (case t_NoStep => k_is)
    (case g_NoWay => k_is)
    (case x_NoWay => k_exc)
    (case k_NoWay => k_is)
    (case b_NoWay => k_is)
    (case t_NoWay => k_is)
    (case g_TooLong => k_is)
    (case x_TooLong => k_exc)
    (case k_TooLong => k_is)
    (case b_TooLong => k_is)
    (case t_TooLong => k_is)
    (case g_NoLess => k_is)
    (case x_NoLess => k_exc)
    (case k_NoLess => k_is)
    (case b_NoLess => k_is)
    (case t_NoLess => k_is)
    (case g_NoNote => k_is)
    (case x_NoNote => k_exc)
    (case k_NoNote => k_is)
    (case b_NoNote => k_is)
    (case t_NoNote => k_is)
    (case g_BoardError => k_is)
    (case xn_all => k_is)
    (case xt_all => k_is)
    (case xg_NoNote => k_is)
    (case xk_NoNote => k_is)
    (case xd_NoNote => k_is)
    (case xa_NoNote => k_is)
    (case xm_NoNote => k_is)
    (case q0_NoNote => kit_is)
    (case q1_NoNote => kit_is)
    (case q2_NoNote => kit_is)
    (case q3_NoNote => kit_is)
    (case q4_NoNote => kit_is)
    (case q5_NoNote => kit_is)
    (case q6_NoNote => kit_is)
    (case q7_NoNote => kit_is)
    (case qv_NoNote => kit_is)
    (case qb_NoNote => kts_exm)
    (case a_asked_frame => k_is)
    (case l_asked_frame => k_is)
    (case c_asked_frame => k_is)
    (case p_asked_frame => k_is)
    (case a_number_of => k_is)
    (case l_number_of => k_is)
    (case c_number_of => k_is)
    (case p_number_of => k_is)
    (case a_read => k_is)
    (case l_read => k_is)
    (case c_read => k_is)
    (case p_read => k_is)
    (case a_law_cell_at => k_is)
    (case l_law_cell_at => k_is)
    (case c_law_cell_at => k_is)
    (case p_law_cell_at => k_is)
    (case a_law_frame_by => k_is)
    (case l_law_frame_by => k_is)
    (case c_law_frame_by => k_is)
    (case p_law_frame_by => k_is)
    (case a_law_board_by => k_is)
    (case l_law_board_by => k_is)
    (case c_law_board_by => k_is)
    (case p_law_board_by => k_is)
    (case a_law_word_of => k_is)
    (case l_law_word_of => k_is)
    (case c_law_word_of => k_is)
    (case p_law_word_of => k_is)
    (case a_law_spoilt => k_is)
    (case l_law_spoilt => k_is)
    (case c_law_spoilt => k_is)
    (case p_law_spoilt => k_is)
    (case a_law_refused => k_is)
    (case l_law_refused => k_is)
    (case c_law_refused => k_is)
    (case p_law_refused => k_is)
    (case a_law => k_is)
    (case l_law => k_is)
    (case c_law => k_is)
    (case p_law => k_is)
