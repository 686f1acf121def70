import PyProof.Rows.All
import Wide.All
import OpenK.AllK
import Wide.FinOn
import HandS.ForMost
import HandS.ForExc
import HandS.Wide
import HandS.IsInst
import HandS.RevRange
import HandS.Zip
import HandS.Deep
import HandS.Conv
import HandS.Rev
import HandS.HotCalls
import HandS.ExcIs
import KE.RegKIsAll
import KE.RegKTryMore
import PySem.Challenge.RW_countboard_k12_whole_sums
set_option Elab.async false
set_option linter.all false
set_option maxRecDepth 100000
set_option maxHeartbeats 4000000
namespace CB
open PySem
def top (i : Nat) : Stmt := PySem.Challenge.pw_countboard_k12_whole_sums.main.body.getD i (.Pass ⟨0, 0, 0, 0⟩)
end CB
namespace CB
open PySem PySem.Spec PyProof.Rows L2
/-! ### a def that stands at its name and keeps its promise; the built-in names; the classes of errors -/
structure Callee (P : Program) (w : World) (K : PySem.W.Frag) (mg : Str → Option Value) (base : Heap) (k : Nat) (x : Str) (ps : List Str) (sp : Sp) : Prop where
  ex : ∃ (f : Addr) (fd : FuncData), FnOk P w K mg base (L2.CX P w) k f fd ps sp ∧ mg x = some (.ref f) ∧ PySem.W.keepIn K (.ref f) = true ∧ Binds K fd ps []
def ErA (mg : Str → Option Value) (x : Str) : Addr := match mg x with
  | some (.ref a) => a
  | _ => 0
structure Er (K : PySem.W.Frag) (mg : Str → Option Value) (x : Str) : Prop where
  gC : mg x = some (.ref (ErA mg x))
  xP : PySem.W.excIn K (ErA mg x) [.type "ValueError", .type "Exception", .type "BaseException", .type "object"] "ValueError.__new__" = true
  kP : PySem.W.keepIn K (.ref (ErA mg x)) = true
  bP : PySem.W.subIn K (.ref (ErA mg x)) (.type "BaseException") = some true
  tP : PySem.W.typeIn K (.ref (ErA mg x)) = some (.type "type")
theorem er_mk {K : PySem.W.Frag} {mg : Str → Option Value} {x : Str} {C : Addr} (g : mg x = some (.ref C)) (x1 : PySem.W.excIn K C [.type "ValueError", .type "Exception", .type "BaseException", .type "object"] "ValueError.__new__" = true)
    (k : PySem.W.keepIn K (.ref C) = true) (b : PySem.W.subIn K (.ref C) (.type "BaseException") = some true) (t : PySem.W.typeIn K (.ref C) = some (.type "type")) : Er K mg x := by
  have e : ErA mg x = C := by unfold ErA; rw [g]
  exact ⟨by rw [e]; exact g, by rw [e]; exact x1, by rw [e]; exact k, by rw [e]; exact b, by rw [e]; exact t⟩
structure Bi (mg : Str → Option Value) : Prop where
  len : mg "len" = none
  list : mg "list" = none
  range : mg "range" = none
  isinstance : mg "isinstance" = none
  zip : mg "zip" = none
  reversed : mg "reversed" = none
  sum : mg "sum" = none
  all : mg "all" = none
  abs : mg "abs" = none
  max : mg "max" = none
  min : mg "min" = none
  str : mg "str" = none
  int : mg "int" = none
  bool : mg "bool" = none
  tuple : mg "tuple" = none
  ValueError : mg "ValueError" = none
section
variable {X : Cx}
theorem pe_f {W : WX} {j k : Nat} {x : Str} {ps : List Str} {sp : Sp} {e : Expr} {es : List Expr} {t : TA} {p pos : Pos} (c : Callee X.prog X.w X.K X.mg X.base k x ps sp) (hr : Room j X.A) (hk : k ≤ j) (tk : Takes X W)
    (ha : PA X (e :: es) t) (hg : Gl X x := by rfl) (hdb : (x == ("__debug__" : Str)) = false := by decide) (he : starEach (e :: es) X.env = (false, eval e X.env) :: starEach es X.env := by rfl) (hpl : (backTo pos (starEach es X.env)).any (·.1) = false := by rfl) :
    PE X (.Call (.Name x p) (e :: es) [] pos) (tCallS sp (WE W) t) := by
  obtain ⟨f, fd, F, hm, hkp, hb⟩ := c
  exact pe_callS F (hr.mono hk) hg hm hkp hb (fun σ => passAt tk σ) ha hdb he hpl
end
theorem ix_listK {X : Cx} (K : PySem.W.Frag) (h : X.K = K) : IxR X (rIxL K) := h ▸ ix_list
theorem ix_tupK {X : Cx} (K : PySem.W.Frag) (h : X.K = K) : IxR X (rIxT K) := h ▸ ix_tup
theorem Callee.mk' {P : Program} {w : World} {K : PySem.W.Frag} {mg : Str → Option Value} {base : Heap} {k : Nat} {x : Str} {ps : List Str} {sp : Sp} {f : Addr} {fd : FuncData} (F : FnOk P w K mg base (L2.CX P w) k f fd ps sp) (hm : mg x = some (.ref f)) (hk : PySem.W.keepIn K (.ref f) = true) (hb : Binds K fd ps []) :
    Callee P w K mg base k x ps sp := ⟨f, fd, F, hm, hk, hb⟩
/-! ### what a def tells: a number, a truth, a text, a new list -/
def TellV (H : Hp) (Q : VK) (v : V) : Prop := ∀ H', Same H H' → Q v H'
def TellL (H : Hp) (Q : VK) (xs : List V) : Prop := ∀ (H' : Hp) (p : Addr), Same H H' → H p = none → H' p = some (.lst xs) → Q (.ref p) H'
def Raise (mg : Str → Option Value) (x : Str) (H : Hp) (E : XK) : Prop := ∀ H', Same H H' → E (.ref (ErA mg x)) none H'
theorem same_upd {H : Hp} {p : Addr} {o : HO} (h : H p = none) : Same H (upd H p o) := fun b u e => by
  rw [upd_ne (ne_of_none e h)]
  exact e
theorem get_map {xs : List Int} {i : Nat} {x : V} (h : (xs.map V.int)[i]? = some x) : ∃ z, xs[i]? = some z ∧ x = .int z := by
  rw [List.getElem?_map] at h
  cases e : xs[i]? with
  | none => rw [e] at h; cases h
  | some z => rw [e] at h; exact ⟨z, rfl, (Option.some.inj h).symm⟩
theorem map_get {xs : List Int} {i : Nat} {z : Int} (h : xs[i]? = some z) : (xs.map V.int)[i]? = some (.int z) := by
  rw [List.getElem?_map, h]
  all_goals rfl
theorem ix_of {n : Nat} {z : Int} {j : Nat} (e : z = (j : Int)) (h : j < n) : ixN n z = some j := by
  subst e
  unfold ixN
  rw [if_pos (by omega), if_pos (by omega), Int.toNat_natCast]
theorem take_more {α : Type} {l : List α} {i : Nat} {x : α} (h : l[i]? = some x) : l.take (i + 1) = l.take i ++ [x] := by
  rw [List.take_add_one, h]
  all_goals rfl
theorem small64 {n : Nat} (h : n ≤ 100000) : n < sizeLine := Nat.lt_of_le_of_lt h (by decide)
theorem small64' {n : Nat} (h : n ≤ 100000) : n ≤ sizeLine := Nat.le_of_lt (small64 h)
theorem ite_t {A B : Prop} {c : Bool} (hc : c = true) (h : A) : if c = true then A else B := by
  rw [if_pos hc]
  exact h
theorem ite_f {A B : Prop} {c : Bool} (hc : c = false) (h : B) : if c = true then A else B := by
  rw [hc, if_neg Bool.false_ne_true]
  exact h
end CB
namespace CB
open PySem PySem.Spec PyProof.Rows L2
/-- what a frame is -/
def GF (rs : List Int) : Prop := rs.length ≤ 11 ∧ ∀ r ∈ rs, 2 ≤ r ∧ r ≤ 12
/-! ### the mathematics: worths -/
def prodL (l : List Int) : Int := l.foldl (· * ·) 1
def worthsL (rs : List Int) : List Int := (List.range (rs.length + 1)).map fun k => prodL (rs.take k)
theorem prodL_snoc (l : List Int) (r : Int) : prodL (l ++ [r]) = prodL l * r := by
  unfold prodL
  rw [List.foldl_append]
  rfl
theorem foldl_mul (l : List Int) (x : Int) : l.foldl (· * ·) x = x * l.foldl (· * ·) 1 := by
  induction l generalizing x with
  | nil => simp
  | cons a l ih =>
    rw [List.foldl_cons, List.foldl_cons, ih (x * a), ih (1 * a), Int.one_mul, Int.mul_assoc]
theorem prodL_cons (r : Int) (l : List Int) : prodL (r :: l) = r * prodL l := by
  unfold prodL
  rw [List.foldl_cons, Int.one_mul, foldl_mul]
theorem prodL_bound {l : List Int} (h : ∀ r ∈ l, 2 ≤ r ∧ r ≤ 12) : 1 ≤ prodL l ∧ prodL l ≤ ((12 ^ l.length : Nat) : Int) := by
  induction l with
  | nil => exact ⟨by decide, by decide⟩
  | cons a l ih =>
    obtain ⟨h1, h2⟩ := ih fun r hr => h r (List.mem_cons_of_mem _ hr)
    obtain ⟨h3, h4⟩ := h a List.mem_cons_self
    rw [prodL_cons, List.length_cons, Nat.pow_succ, Nat.mul_comm, Int.natCast_mul]
    refine ⟨?_, ?_⟩
    · have := Int.mul_le_mul (show (1 : Int) ≤ a by omega) h1 (by decide) (by omega)
      omega
    · exact Int.mul_le_mul h4 h2 (by omega) (by decide)
theorem prodL_lt {l : List Int} (h : ∀ r ∈ l, 2 ≤ r ∧ r ≤ 12) (hl : l.length ≤ 11) : 1 ≤ prodL l ∧ prodL l < 2 ^ 40 := by
  obtain ⟨h1, h2⟩ := prodL_bound h
  refine ⟨h1, ?_⟩
  have h3 : 12 ^ l.length ≤ 12 ^ 11 := Nat.pow_le_pow_right (by decide) hl
  have h4 : 12 ^ 11 < 2 ^ 40 := by decide
  omega
theorem abs_lt_pow {z : Int} {n : Nat} (h0 : 0 ≤ z) (h : z < 2 ^ n) : z.natAbs < 2 ^ n := by
  have e : (z.natAbs : Int) = z := Int.natAbs_of_nonneg h0
  have : (z.natAbs : Int) < ((2 ^ n : Nat) : Int) := by
    rw [e]
    simpa using h
  omega
theorem frame_gf (g : Nat → Int) (n : Nat) (hn : n ≤ 11) : GF ((List.range n).map fun i => 2 + g i % 11) := by
  refine ⟨by rw [List.length_map, List.length_range]; exact hn, fun r hr => ?_⟩
  obtain ⟨i, _, rfl⟩ := List.mem_map.mp hr
  omega
end CB
namespace CB
open PySem PySem.Spec PyProof.Rows L2
/-! ### the mathematics: boards -/
def W : List Int → List Int → Int
  | r :: rs, b :: bs => b + r * W rs bs
  | [], b :: _ => b
  | _, [] => 0
/-- a board's lines -/
def GB (rs bs : List Int) : Prop := bs.length = rs.length + 1 ∧ ∀ b ∈ bs, 0 ≤ b
theorem GB.tail {r b : Int} {rs bs : List Int} (h : GB (r :: rs) (b :: bs)) : GB rs bs := ⟨by have := h.1; simpa using this, fun x hx => h.2 x (List.mem_cons_of_mem _ hx)⟩
def BS (bs : List Int) : Prop := ∀ b ∈ bs, b < 2 ^ 200
def Rat (rs : List Int) : Prop := ∀ r ∈ rs, 2 ≤ r ∧ r ≤ 12
theorem Rat.tail {r : Int} {rs : List Int} (h : Rat (r :: rs)) : Rat rs := fun x hx => h x (List.mem_cons_of_mem _ hx)
theorem Rat.head {r : Int} {rs : List Int} (h : Rat (r :: rs)) : 2 ≤ r ∧ r ≤ 12 := h r List.mem_cons_self
/-- the plain board of n -/
def D : List Int → Int → List Int
  | [], n => [n]
  | r :: rs, n => n % r :: D rs (n / r)
theorem D_len (rs : List Int) (n : Int) : (D rs n).length = rs.length + 1 := by
  induction rs generalizing n with
  | nil => rfl
  | cons r rs ih => simp [D, ih]
/-- how often each line is raised -/
def R : List Int → List Int → Int → List Int
  | r :: rs, b :: bs, c => (b + c) / r :: R rs bs ((b + c) / r)
  | _, _, _ => []
theorem worths_cons (r : Int) (rs : List Int) : worthsL (r :: rs) = 1 :: (worthsL rs).map (r * ·) := by
  unfold worthsL
  rw [List.length_cons, List.range_succ_eq_map, List.map_cons, List.map_map, List.map_map]
  refine congr (congrArg _ rfl) (List.map_congr_left fun k _ => ?_)
  show prodL ((r :: rs).take (k + 1)) = r * prodL (rs.take k)
  rw [List.take_succ_cons, prodL_cons]
theorem zipW_map (r : Int) : ∀ bs os : List Int, (List.zipWith (· * ·) bs (os.map (r * ·))).sum = r * (List.zipWith (· * ·) bs os).sum
  | [], _ => by simp
  | _ :: _, [] => by simp
  | b :: bs, o :: os => by
    rw [List.map_cons, List.zipWith_cons_cons, List.zipWith_cons_cons, List.sum_cons, List.sum_cons, zipW_map r bs os, Int.mul_add, Int.mul_left_comm]
theorem W_sum : ∀ rs bs : List Int, bs.length = rs.length + 1 → (List.zipWith (· * ·) bs (worthsL rs)).sum = W rs bs
  | [], [b], _ => by simp [worthsL, prodL, W]
  | [], [], h => by cases h
  | [], _ :: _ :: _, h => by simp at h
  | _ :: _, [], h => by cases h
  | r :: rs, b :: bs, h => by
    rw [worths_cons, List.zipWith_cons_cons, List.sum_cons, zipW_map, W_sum rs bs (by simpa using h), Int.mul_one]
    rfl
theorem W_nonneg : ∀ (rs bs : List Int), Rat rs → (∀ b ∈ bs, 0 ≤ b) → 0 ≤ W rs bs
  | [], [], _, _ => by simp [W]
  | [], b :: _, _, h => h b List.mem_cons_self
  | _ :: _, [], _, _ => by simp [W]
  | r :: rs, b :: bs, hr, h => by
    have h1 := W_nonneg rs bs hr.tail fun x hx => h x (List.mem_cons_of_mem _ hx)
    have h2 := h b List.mem_cons_self
    have h3 := hr.head
    have h4 := Int.mul_nonneg (show (0 : Int) ≤ r by omega) h1
    show 0 ≤ b + r * W rs bs
    omega
theorem W_lt {B : Nat} : ∀ (rs bs : List Int), Rat rs → (∀ b ∈ bs, 0 ≤ b) → (∀ b ∈ bs, b < ((2 ^ B : Nat) : Int)) → W rs bs < ((13 ^ rs.length * 2 ^ B : Nat) : Int)
  | [], [], _, _, _ => by
    have : 0 < 2 ^ B := Nat.pow_pos (by decide)
    simp only [W, List.length_nil, Nat.pow_zero, Nat.one_mul]
    omega
  | [], b :: _, _, _, h => by
    have := h b List.mem_cons_self
    simp only [W, List.length_nil, Nat.pow_zero, Nat.one_mul]
    exact this
  | r :: rs, [], _, _, _ => by
    have : 0 < 13 ^ (r :: rs).length * 2 ^ B := Nat.mul_pos (Nat.pow_pos (by decide)) (Nat.pow_pos (by decide))
    simp only [W]
    omega
  | r :: rs, b :: bs, hr, h0, h => by
    have h1 := W_nonneg rs bs hr.tail fun x hx => h0 x (List.mem_cons_of_mem _ hx)
    have h2 := W_lt rs bs hr.tail (fun x hx => h0 x (List.mem_cons_of_mem _ hx)) fun x hx => h x (List.mem_cons_of_mem _ hx)
    have h3 := h b List.mem_cons_self
    have h4 := hr.head
    have h5 : r * W rs bs ≤ 12 * W rs bs := Int.mul_le_mul_of_nonneg_right h4.2 h1
    have h6 : 2 ^ B ≤ 13 ^ rs.length * 2 ^ B := Nat.le_mul_of_pos_left _ (Nat.pow_pos (by decide))
    have h7 : 13 ^ (r :: rs).length * 2 ^ B = 13 * (13 ^ rs.length * 2 ^ B) := by rw [List.length_cons, Nat.pow_succ, Nat.mul_comm (13 ^ rs.length) 13, Nat.mul_assoc]
    show b + r * W rs bs < _
    rw [h7]
    omega
theorem W_small {rs bs : List Int} (g : GF rs) (h0 : ∀ b ∈ bs, 0 ≤ b) (h : ∀ b ∈ bs, b < 2 ^ 200) : 0 ≤ W rs bs ∧ W rs bs < 2 ^ 250 := by
  refine ⟨W_nonneg rs bs g.2 h0, ?_⟩
  have h1 := W_lt (B := 200) rs bs g.2 h0 fun b hb => by have := h b hb; rw [Int.natCast_pow]; exact this
  have h2 : 13 ^ rs.length ≤ 13 ^ 11 := Nat.pow_le_pow_right (by decide) g.1
  have h3 : 13 ^ rs.length * 2 ^ 200 ≤ 13 ^ 11 * 2 ^ 200 := Nat.mul_le_mul_right _ h2
  have h4 : 13 ^ 11 * 2 ^ 200 < 2 ^ 250 := by decide
  have h5 : ((13 ^ rs.length * 2 ^ 200 : Nat) : Int) < ((2 ^ 250 : Nat) : Int) := by omega
  have h6 : ((2 ^ 250 : Nat) : Int) = 2 ^ 250 := by rw [Int.natCast_pow]; rfl
  rw [h6] at h5
  omega
theorem D_W : ∀ (rs : List Int) (n : Int), Rat rs → W rs (D rs n) = n
  | [], n, _ => rfl
  | r :: rs, n, h => by
    show n % r + r * W rs (D rs (n / r)) = n
    rw [D_W rs (n / r) h.tail]
    exact Int.emod_add_mul_ediv n r
theorem D_nonneg : ∀ (rs : List Int) (n : Int), Rat rs → 0 ≤ n → ∀ b ∈ D rs n, 0 ≤ b
  | [], n, _, h0, b, hb => by
    have : b = n := by simpa [D] using hb
    omega
  | r :: rs, n, h, h0, b, hb => by
    have h3 := h.head
    rcases List.mem_cons.mp hb with e | hb
    · rw [e]
      exact Int.emod_nonneg n (by omega)
    · exact D_nonneg rs (n / r) h.tail (Int.ediv_nonneg h0 (by omega)) b hb
theorem D_GB (rs : List Int) (n : Int) (h : Rat rs) (h0 : 0 ≤ n) : GB rs (D rs n) := ⟨D_len rs n, D_nonneg rs n h h0⟩
theorem D_le : ∀ (rs : List Int) (n : Int), Rat rs → 0 ≤ n → ∀ b ∈ D rs n, b ≤ n
  | [], n, _, h0, b, hb => by
    have : b = n := by simpa [D] using hb
    omega
  | r :: rs, n, h, h0, b, hb => by
    have h3 := h.head
    have h4 : n / r ≤ n := Int.ediv_le_self _ h0
    rcases List.mem_cons.mp hb with e | hb
    · rw [e]
      have := Int.emod_add_mul_ediv n r
      have h5 := Int.mul_nonneg (show (0 : Int) ≤ r by omega) (Int.ediv_nonneg h0 (show (0 : Int) ≤ r by omega))
      omega
    · have := D_le rs (n / r) h.tail (Int.ediv_nonneg h0 (by omega)) b hb
      omega
/-- fewer counters than its ratio on each line but the last -/
def Pl : List Int → List Int → Prop
  | r :: rs, b :: bs => b < r ∧ Pl rs bs
  | _, _ => True
theorem D_Pl : ∀ (rs : List Int) (n : Int), Rat rs → Pl rs (D rs n)
  | [], _, _ => trivial
  | r :: rs, n, h => by
    have h3 := h.head
    exact ⟨Int.emod_lt_of_pos n (by omega), D_Pl rs (n / r) h.tail⟩
/-- there is just one plain board of a worth -/
theorem D_uniq : ∀ (rs bs : List Int), Rat rs → GB rs bs → Pl rs bs → D rs (W rs bs) = bs
  | [], [b], _, _, _ => rfl
  | [], [], _, h, _ => by cases h.1
  | [], _ :: _ :: _, _, h, _ => by have := h.1; simp at this
  | _ :: _, [], _, h, _ => by cases h.1
  | r :: rs, b :: bs, hr, h, p => by
    have h3 := hr.head
    have h0 := h.2 b List.mem_cons_self
    have e1 : (b + r * W rs bs) % r = b := by
      rw [Int.add_mul_emod_self_left]
      exact Int.emod_eq_of_lt h0 p.1
    have e2 : (b + r * W rs bs) / r = W rs bs := by
      rw [Int.add_mul_ediv_left _ _ (by omega), Int.ediv_eq_zero_of_lt h0 p.1, Int.zero_add]
    show (b + r * W rs bs) % r :: D rs ((b + r * W rs bs) / r) = b :: bs
    rw [e1, e2, D_uniq rs bs hr.tail h.tail p.2]
theorem R_len : ∀ (rs bs : List Int) (c : Int), bs.length = rs.length + 1 → (R rs bs c).length = rs.length
  | [], [], _, _ => rfl
  | [], _ :: _, _, _ => rfl
  | _ :: _, [], _, h => by cases h
  | r :: rs, b :: bs, c, h => by
    show (R rs bs ((b + c) / r)).length + 1 = rs.length + 1
    rw [R_len rs bs _ (by simpa using h)]
end CB
namespace CB
open PySem PySem.Spec PyProof.Rows L2
theorem Pl_iff : ∀ rs bs : List Int, Pl rs bs ↔ ∀ (j : Nat) (r b : Int), rs[j]? = some r → bs[j]? = some b → b < r
  | [], bs => by simp [Pl]
  | r :: rs, [] => by simp [Pl]
  | r :: rs, b :: bs => by
    have ih := Pl_iff rs bs
    constructor
    · rintro ⟨h1, h2⟩ j r' b' hr hb
      cases j with
      | zero =>
        cases hr
        cases hb
        exact h1
      | succ j => exact ih.mp h2 j r' b' hr hb
    · intro h
      exact ⟨h 0 r b rfl rfl, ih.mpr fun j r' b' hr hb => h (j + 1) r' b' hr hb⟩
theorem bs_of20 {bs : List Int} (h : ∀ x ∈ bs, x < 10 ^ 20) : BS bs := fun b hb => by
  have h1 := h b hb
  have h2 : (10 : Int) ^ 20 < 2 ^ 200 := by decide
  omega
theorem and_true {a b : Bool} (h1 : a = true) (h2 : b = true) : (a && b) = true := by rw [h1, h2]; rfl
end CB
namespace CB
open PySem PySem.Spec PyProof.Rows L2
theorem W_step : ∀ (rs fs : List Int) (L : Nat) (r x y m : Int), fs.length = rs.length + 1 → rs[L]? = some r → fs[L]? = some x → fs[L + 1]? = some y → W rs ((fs.set (L + 1) (y - m)).set L (x + m * r)) = W rs fs
  | [], _, _, _, _, _, _, _, h, _, _ => by simp at h
  | r0 :: rs, [], _, _, _, _, _, h, _, _, _ => by cases h
  | r0 :: rs, [_], _, _, _, _, _, h, _, _, _ => by simp at h
  | r0 :: rs, f :: f2 :: fs, 0, r, x, y, m, h, hr, hx, hy => by
    cases hr
    cases hx
    cases hy
    show (f + m * r0) + r0 * W rs ((f2 - m) :: fs) = f + r0 * W rs (f2 :: fs)
    have e : W rs ((f2 - m) :: fs) = W rs (f2 :: fs) - m := by
      cases rs with
      | nil => rfl
      | cons s rs => show f2 - m + s * W rs fs = f2 + s * W rs fs - m; omega
    rw [e, Int.mul_sub, Int.mul_comm m r0]
    omega
  | r0 :: rs, f :: f2 :: fs, L + 1, r, x, y, m, h, hr, hx, hy => by
    have ih := W_step rs (f2 :: fs) L r x y m (by simpa using h) hr hx hy
    show f + r0 * W rs (((f2 :: fs).set (L + 1) (y - m)).set L (x + m * r)) = f + r0 * W rs (f2 :: fs)
    rw [ih]
theorem set_comm' {α : Type} {l : List α} {i j : Nat} {x y : α} (h : i ≠ j) : (l.set i x).set j y = (l.set j y).set i x := by
  refine List.ext_getElem? fun k => ?_
  rw [List.getElem?_set, List.getElem?_set, List.getElem?_set, List.getElem?_set]
  simp only [List.length_set]
  by_cases h1 : j = k <;> by_cases h2 : i = k
  · exact absurd (h2.trans h1.symm) h
  · simp [h1, h2]
  · simp [h1, h2]
  · simp [h1, h2]
theorem W_head (rs : List Int) (b c : Int) (bs : List Int) : W rs ((b + c) :: bs) = W rs (b :: bs) + c := by
  cases rs with
  | nil => rfl
  | cons r rs => show b + c + r * W rs bs = b + r * W rs bs + c; omega
/-- raising once for all on the lowest line -/
theorem D_carry (r : Int) (rs : List Int) (b b2 : Int) (bs : List Int) (h : 0 < r) : D (r :: rs) (W (r :: rs) (b :: b2 :: bs)) = b % r :: D rs (W rs ((b2 + b / r) :: bs)) := by
  show (b + r * W rs (b2 :: bs)) % r :: D rs ((b + r * W rs (b2 :: bs)) / r) = _
  rw [Int.add_mul_emod_self_left, Int.add_mul_ediv_left _ _ (by omega), W_head, Int.add_comm (b / r)]
theorem sumD : ∀ rs bs : List Int, Rat rs → GB rs bs → (D rs (W rs bs)).sum ≤ bs.sum ∧ ((D rs (W rs bs)).sum = bs.sum → D rs (W rs bs) = bs)
  | [], [b], _, _ => ⟨Int.le_refl _, fun _ => rfl⟩
  | [], [], _, h => by cases h.1
  | [], _ :: _ :: _, _, h => by have := h.1; simp at this
  | _ :: _, [], _, h => by cases h.1
  | _ :: _, [_], _, h => by have := h.1; simp at this
  | r :: rs, b :: b2 :: bs, hr, h => by
    have h3 := hr.head
    have hb := h.2 b List.mem_cons_self
    have hb2 := h.2 b2 (List.mem_cons_of_mem _ List.mem_cons_self)
    have hq : 0 ≤ b / r := Int.ediv_nonneg hb (by omega)
    have hg : GB rs ((b2 + b / r) :: bs) := ⟨by have := h.1; simpa using this, fun x hx => by
      rcases List.mem_cons.mp hx with e | hx
      · omega
      · exact h.2 x (List.mem_cons_of_mem _ (List.mem_cons_of_mem _ hx))⟩
    obtain ⟨i1, i2⟩ := sumD rs ((b2 + b / r) :: bs) hr.tail hg
    have e := Int.emod_add_mul_ediv b r
    have e2 : 2 * (b / r) ≤ r * (b / r) := Int.mul_le_mul_of_nonneg_right h3.1 hq
    rw [D_carry r rs b b2 bs (by omega)]
    rw [List.sum_cons] at i1 i2
    rw [List.sum_cons, List.sum_cons, List.sum_cons]
    refine ⟨by omega, fun hs => ?_⟩
    have hz : b / r = 0 := by omega
    rw [hz] at i2 hs e ⊢
    rw [Int.mul_zero, Int.add_zero] at e
    rw [Int.add_zero] at i2
    rw [Int.add_zero] at hs ⊢
    rw [i2 (by omega), e]
end CB
namespace CB
open PySem PySem.Spec PyProof.Rows L2
/-! ### equality of lists of numbers, of lists of such, of lists of steps -/
def dL (xs : List Int) : PyData := .list (xs.map .int)
def dStep (p : Int × Bool) : PyData := .tuple [.int p.1, .bool p.2]
theorem layAll {ds : List PyData} {n : Nat} (h : ∀ d ∈ ds, d.canLay0 = true ∧ d.depth ≤ n) : PyData.canLayAll0 ds = true ∧ PyData.depthAll ds ≤ n := by
  induction ds with
  | nil => exact ⟨rfl, by simp [PyData.depthAll]⟩
  | cons d ds ih =>
    obtain ⟨h1, h2⟩ := ih fun x hx => h x (List.mem_cons_of_mem _ hx)
    obtain ⟨h3, h4⟩ := h d List.mem_cons_self
    refine ⟨by simp [PyData.canLayAll0, h1, h3], ?_⟩
    simp only [PyData.depthAll]
    omega
theorem lay_int (i : Int) : (PyData.int i).canLay0 = true ∧ (PyData.int i).depth ≤ 0 := ⟨by simp [PyData.canLay0], by simp [PyData.depth]⟩
theorem lay_list {ds : List PyData} {n : Nat} (h : ∀ d ∈ ds, d.canLay0 = true ∧ d.depth ≤ n) : (PyData.list ds).canLay0 = true ∧ (PyData.list ds).depth ≤ n + 1 := by
  obtain ⟨h1, h2⟩ := layAll h
  refine ⟨by simpa [PyData.canLay0] using h1, ?_⟩
  simp only [PyData.depth]
  omega
theorem lay_dL (xs : List Int) : (dL xs).canLay0 = true ∧ (dL xs).depth ≤ 1 := lay_list (n := 0) fun d hd => by
  obtain ⟨i, _, rfl⟩ := List.mem_map.mp hd
  exact lay_int i
theorem lay_dStep (p : Int × Bool) : (dStep p).canLay0 = true ∧ (dStep p).depth ≤ 1 := ⟨by simp [dStep, PyData.canLay0, PyData.canLayAll0], by simp [dStep, PyData.depth, PyData.depthAll]⟩
theorem shaped_of {d : PyData} {n : Nat} (h : d.canLay0 = true ∧ d.depth ≤ n) (hn : n ≤ 64) : SeqAt.shaped d = true := by
  unfold SeqAt.shaped
  rw [h.1, Bool.true_and]
  exact decide_eq_true (Nat.le_trans h.2 hn)
theorem shaped_dL (xs : List Int) : SeqAt.shaped (dL xs) = true := shaped_of (lay_dL xs) (by decide)
theorem shaped_dLL (xss : List (List Int)) : SeqAt.shaped (.list (xss.map dL)) = true := shaped_of (lay_list (n := 1) fun d hd => by
  obtain ⟨xs, _, rfl⟩ := List.mem_map.mp hd
  exact lay_dL xs) (by decide)
theorem shaped_dStep (p : Int × Bool) : SeqAt.shaped (dStep p) = true := shaped_of (lay_dStep p) (by decide)
theorem shaped_dLT (ps : List (Int × Bool)) : SeqAt.shaped (.list (ps.map dStep)) = true := shaped_of (lay_list (n := 1) fun d hd => by
  obtain ⟨p, _, rfl⟩ := List.mem_map.mp hd
  exact lay_dStep p) (by decide)
theorem eqvAll_map {α : Type} [DecidableEq α] {f : α → PyData} (h : ∀ a b, PyData.eqv (f a) (f b) = decide (a = b)) : ∀ xs ys : List α, PyData.eqvAll (xs.map f) (ys.map f) = decide (xs = ys)
  | [], [] => by simp [PyData.eqvAll]
  | [], _ :: _ => by simp [PyData.eqvAll]
  | _ :: _, [] => by simp [PyData.eqvAll]
  | x :: xs, y :: ys => by
    simp only [List.map_cons, PyData.eqvAll, h, eqvAll_map h xs ys]
    by_cases e1 : x = y <;> by_cases e2 : xs = ys <;> simp [e1, e2]
theorem eqv_int (a b : Int) : PyData.eqv (.int a) (.int b) = decide (a = b) := by simp only [PyData.eqv]; exact Bool.beq_eq_decide_eq _ _
theorem eqv_dL (xs ys : List Int) : PyData.eqv (dL xs) (dL ys) = decide (xs = ys) := by
  unfold dL
  simp only [PyData.eqv]
  exact eqvAll_map eqv_int xs ys
theorem eqv_dLL (xs ys : List (List Int)) : PyData.eqv (.list (xs.map dL)) (.list (ys.map dL)) = decide (xs = ys) := by
  simp only [PyData.eqv]
  exact eqvAll_map eqv_dL xs ys
theorem eqv_dStep (p q : Int × Bool) : PyData.eqv (dStep p) (dStep q) = decide (p = q) := by
  obtain ⟨a, b⟩ := p
  obtain ⟨c, d⟩ := q
  unfold dStep
  simp only [PyData.eqv, PyData.eqvAll, Bool.and_true]
  by_cases e1 : a = c <;> by_cases e2 : b = d <;> simp [e1, e2]
theorem eqv_dLT (xs ys : List (Int × Bool)) : PyData.eqv (.list (xs.map dStep)) (.list (ys.map dStep)) = decide (xs = ys) := by
  simp only [PyData.eqv]
  exact eqvAll_map eqv_dStep xs ys
section
variable {K : PySem.W.Frag} {H : Hp}
theorem dpAll_int : ∀ xs : List Int, DpAll K H (xs.map V.int) (xs.map PyData.int)
  | [] => .nil
  | x :: xs => .cons (.int x) (dpAll_int xs)
theorem dp_L {a : Addr} {xs : List Int} (h : SqL K H a (xs.map V.int)) : Dp K H (.ref a) (dL xs) := .lst h (dpAll_int xs)
theorem dp_L2 {a p q : Addr} {xs ys : List Int} (h : SqL K H a [.ref p, .ref q]) (hp : SqL K H p (xs.map V.int)) (hq : SqL K H q (ys.map V.int)) : Dp K H (.ref a) (.list ([xs, ys].map dL)) :=
  .lst h (.cons (dp_L hp) (.cons (dp_L hq) .nil))
theorem dp_L3 {a p q r : Addr} {xs ys zs : List Int} (h : SqL K H a [.ref p, .ref q, .ref r]) (hp : SqL K H p (xs.map V.int)) (hq : SqL K H q (ys.map V.int)) (hr : SqL K H r (zs.map V.int)) : Dp K H (.ref a) (.list ([xs, ys, zs].map dL)) :=
  .lst h (.cons (dp_L hp) (.cons (dp_L hq) (.cons (dp_L hr) .nil)))
end
end CB
namespace CB
open PySem PySem.Spec PyProof.Rows L2
/-! ### a list that grows; walks over zip of any two lists -/
def Gr (H : Hp) (D : Addr) (out : List V) (i : Nat) (H' : Hp) : Prop := Same H H' ∧ H' D = some (.lst (out.take i))
theorem Gr.zero {H : Hp} {D : Addr} (out : List V) (h : H D = none) : Gr H D out 0 (upd H D (.lst [])) := ⟨same_upd h, upd_same⟩
theorem Gr.step {H H' H'' : Hp} {D : Addr} {out : List V} {i : Nat} {y : V} (g : Gr H D out i H') (h : H D = none) (hl : out.length ≤ 100000) (hy : out[i]? = some y) (s : Same H' H'') :
    H'' D = some (.lst (out.take i)) ∧ (out.take i).length < sizeLine ∧ Gr H D out (i + 1) (upd H'' D (.lst (out.take i ++ [y]))) := by
  refine ⟨s _ _ g.2, small64 (by rw [List.length_take]; omega), fun b o e => ?_, ?_⟩
  · rw [upd_ne (ne_of_none e h)]
    exact s _ _ (g.1 _ _ e)
  · rw [upd_same, take_more hy]
theorem Gr.done {H H' : Hp} {D : Addr} {out : List V} {i : Nat} (g : Gr H D out i H') (h : out.length ≤ i) : H' D = some (.lst out) := by
  have := g.2
  rw [List.take_of_length_le h] at this
  exact this
theorem lc_zip {K : PySem.W.Frag} {a b : Addr} {xs ys : List V} {g : TG} {tt : TT} {te : TE} {vs : List Nat} {σ : L2.St} {H1 : Hp} {D : Addr} {Qd : Hp → Prop} (n : Nat) (hn : n = min xs.length ys.length) (Pv : Nat → Hp → Prop) (h0 : Pv 0 (upd H1 D (.lst [])))
    (hq : ∀ i H, Pv i H → SqL K H a xs ∧ SqL K H b ys)
    (hs : ∀ (i : Nat) (x y : V) (T : Addr) (H : Hp), xs[i]? = some x → ys[i]? = some y → Pv i H → H T = none → g (.ref T) (wipe σ vs) (upd H T (.tup [x, y])) fun σ2 H2 => wipe σ2 vs = wipe σ vs ∧ tt σ2 H2 fun b H3 =>
      if b = true then te σ2 H3 fun y H4 => ∃ acc, H4 D = some (.lst acc) ∧ acc.length < sizeLine ∧ Pv (i + 1) (upd H4 D (.lst (acc ++ [y]))) else Pv (i + 1) H3) (hd : ∀ H, Pv n H → Qd H) :
    ∃ W : Nat → Nat → Hp → Prop, (∃ m, W 0 m (upd H1 D (.lst []))) ∧ ∀ i m H, W i m H →
      ((Itz K a b).stop i H ∧ Qd H) ∨ ((Itz K a b).go i H ∧ ∃ Nx : Hp → Prop, (∀ H', Nx H' → ∃ m', m' < m ∧ W (i + 1) m' H') ∧ ∀ x H', (Itz K a b).yld i H x H' → g x (wipe σ vs) H' fun σ2 H2 => wipe σ2 vs = wipe σ vs ∧ tt σ2 H2 fun b H3 =>
        if b = true then te σ2 H3 fun y H4 => ∃ acc, H4 D = some (.lst acc) ∧ acc.length < sizeLine ∧ Nx (upd H4 D (.lst (acc ++ [y]))) else Nx H3) := by
  refine ⟨fun i m H => m = n - i ∧ i ≤ n ∧ Pv i H, ⟨n, by simp, Nat.zero_le _, h0⟩, ?_⟩
  rintro i m H ⟨rfl, hi, p⟩
  obtain ⟨qx, qy⟩ := hq i H p
  by_cases hlt : i < n
  · have hl1 : i < xs.length := by omega
    have hl2 : i < ys.length := by omega
    refine .inr ⟨⟨xs, ys, _, _, qx, qy, List.getElem?_eq_getElem hl1, List.getElem?_eq_getElem hl2⟩, Pv (i + 1), fun H' p' => ⟨n - (i + 1), by omega, rfl, hlt, p'⟩, fun v H' y => ?_⟩
    obtain ⟨T, x', y', rfl, hT, rfl, f1, f2⟩ := y
    exact hs i x' y' T H (f1 xs qx) (f2 ys qy) p hT
  · have e : i = n := by omega
    subst e
    exact .inl ⟨⟨xs, ys, qx, qy, by omega⟩, hd H p⟩
theorem for_zip {K : PySem.W.Frag} {a b : Addr} {xs ys : List V} {g : TG} {tb : TS} {D : Ends} {σ : L2.St} {H : Hp} (n : Nat) (hn : n = min xs.length ys.length) (Pv : Nat → L2.St → Hp → Prop) (h0 : Pv 0 σ H) (hq : ∀ i σ H, Pv i σ H → SqL K H a xs ∧ SqL K H b ys)
    (hs : ∀ (i : Nat) (x y : V) (T : Addr) (σ : L2.St) (H : Hp), xs[i]? = some x → ys[i]? = some y → Pv i σ H → H T = none → g (.ref T) σ (upd H T (.tup [x, y])) fun σ2 H2 => tb { D with nx := Pv (i + 1), ct := Pv (i + 1), bk := D.nx } σ2 H2) (hd : ∀ σ H, Pv n σ H → D.nx σ H) :
    ∃ W : Nat → Nat → L2.St → Hp → Prop, (∃ m, W 0 m σ H) ∧ ∀ i m σ H, W i m σ H →
      ((Itz K a b).stop i H ∧ D.nx σ H) ∨ ((Itz K a b).go i H ∧ ∃ N : L2.St → Hp → Prop, (∀ σ' H', N σ' H' → ∃ m', m' < m ∧ W (i + 1) m' σ' H') ∧ ∀ v H', (Itz K a b).yld i H v H' → g v σ H' fun σ2 H2 => tb { D with nx := N, ct := N, bk := D.nx } σ2 H2) := by
  refine ⟨fun i m σ H => m = n - i ∧ i ≤ n ∧ Pv i σ H, ⟨n, rfl, Nat.zero_le _, h0⟩, ?_⟩
  rintro i m σ H ⟨rfl, hi, p⟩
  obtain ⟨qx, qy⟩ := hq i σ H p
  by_cases hlt : i < n
  · have hl1 : i < xs.length := by omega
    have hl2 : i < ys.length := by omega
    refine .inr ⟨⟨xs, ys, _, _, qx, qy, List.getElem?_eq_getElem hl1, List.getElem?_eq_getElem hl2⟩, Pv (i + 1), fun σ' H' p' => ⟨n - (i + 1), by omega, rfl, hlt, p'⟩, fun v H' y => ?_⟩
    obtain ⟨T, x', y', rfl, hT, rfl, f1, f2⟩ := y
    exact hs i x' y' T σ H (f1 xs qx) (f2 ys qy) p hT
  · have e : i = n := by omega
    subst e
    exact .inl ⟨⟨xs, ys, qx, qy, by omega⟩, hd σ H p⟩
end CB
namespace CB
open PySem PySem.Spec PyProof.Rows L2
theorem small20 {rs bs : List Int} (g : GF rs) (gb : GB rs bs) (hb : ∀ x ∈ bs, x < 10 ^ 20) : 0 ≤ W rs bs ∧ W rs bs < 2 ^ 150 := by
  refine ⟨W_nonneg rs bs g.2 gb.2, ?_⟩
  have h1 := W_lt (B := 70) rs bs g.2 gb.2 fun b hb' => by
    have h2 := hb b hb'
    have h3 : (10 : Int) ^ 20 < ((2 ^ 70 : Nat) : Int) := by decide
    omega
  have h2 : 13 ^ rs.length ≤ 13 ^ 11 := Nat.pow_le_pow_right (by decide) g.1
  have h3 : 13 ^ rs.length * 2 ^ 70 ≤ 13 ^ 11 * 2 ^ 70 := Nat.mul_le_mul_right _ h2
  have h4 : 13 ^ 11 * 2 ^ 70 < 2 ^ 150 := by decide
  omega
theorem D_150 {rs : List Int} {n : Int} (g : GF rs) (h0 : 0 ≤ n) (h1 : n < 2 ^ 150) : ∀ x ∈ D rs n, x < 2 ^ 150 := fun x hx => by
  have := D_le rs n g.2 h0 x hx
  omega
theorem two151 : (2 : Int) ^ 150 + 361 < 2 ^ 200 := by decide
end CB
namespace CB
open PySem PySem.Spec PyProof.Rows L2
/-- one of two numbers, by a remainder -/
theorem pick2 {x y z : Int} (h : z = 0 ∨ z = 1) : ∃ m, (m = x ∨ m = y) ∧ atI [V.int x, V.int y] z = some (.int m) := by
  rcases h with rfl | rfl
  · exact ⟨x, .inl rfl, rfl⟩
  · exact ⟨y, .inr rfl, rfl⟩
theorem mod2 (c : Int) : c % 2 = 0 ∨ c % 2 = 1 := by omega
theorem D_cons (rs : List Int) (n : Int) : ∃ y ys, D rs n = y :: ys := by
  cases rs with
  | nil => exact ⟨n, [], rfl⟩
  | cons r rs => exact ⟨_, _, rfl⟩
end CB
namespace CB
open PySem PySem.Spec PyProof.Rows L2
/-- what a def of two boards asks of them; P: what it tells of good ones -/
def Two (mg : Str → Option Value) (H : Hp) (E : XK) (rs bs cs : List Int) (P : Prop) : Prop :=
  (GF rs → GB rs bs → BS bs ∧ (GB rs cs → BS cs ∧ P) ∧ (¬ GB rs cs → Raise mg "NoBoard" H E)) ∧ (¬ GF rs → E (.ref (ErA mg "NoFrame")) none H) ∧ (GF rs → ¬ GB rs bs → E (.ref (ErA mg "NoBoard")) none H)
theorem Two.good {mg : Str → Option Value} {H : Hp} {E : XK} {rs bs cs : List Int} {P : Prop} (g : GF rs) (gb : GB rs bs) (gc : GB rs cs) (sb : BS bs) (sc : BS cs) (p : P) : Two mg H E rs bs cs P :=
  ⟨fun _ _ => ⟨sb, fun _ => ⟨sc, p⟩, fun z => absurd gc z⟩, fun z => absurd g z, fun _ z => absurd gb z⟩
end CB
namespace CB
open PySem PySem.Spec PyProof.Rows L2
/-! ### a def that is called on the exception that an except suite holds -/
/-- xs.count(y), flat items -/
def rCntV (K : PySem.W.Frag) : V → List V → Hp → VK → Prop := fun x xs H Q => ∃ (p : Addr) (ys : List V) (y : V), x = V.ref p ∧ xs = [y] ∧ SqL K H p ys ∧ flatV y = true ∧ ys.all flatV = true ∧ Q (.int (ys.countP (fun z => eqV z y) : Nat)) H
theorem count_eqU {y : V} : ∀ {xs : List V} {us : List Value}, Vals xs us → xs.all flatV = true → us.countP (eqU y) = xs.countP fun z => eqV z y
  | _, _, .nil, _ => rfl
  | _ :: _, _ :: _, .cons r t, f => by
    rw [List.all_cons, Bool.and_eq_true] at f
    rw [List.countP_cons, List.countP_cons, count_eqU t f.2, eqU_of r f.1]
theorem mt_countV {X : Cx} : MtR X "list.count" (rCntV X.K) := by
  intro pins s σ H x xs v us Q I rx rxs h
  obtain ⟨p, ys, y, rfl, rfl, hs, fy, fys, q⟩ := h
  cases rx
  obtain ⟨u, rfl, ru⟩ := rxs.one
  obtain ⟨its, rv, ⟨⟨cls, dd, data, sl⟩, n, ho, hc, hdn, hd⟩, hlen⟩ := I.list hs
  simp only at hc hd
  subst hc hd
  refine call_meets PySem.F.slot_list_count ⟨_, ho, rfl⟩ PySem.F.entry_list_count (PySem.F.args_list_count_2 _ _)
    (SeqAt.list_countAt p its.toArray n dd sl u (eqU y)) ⟨ho, fun w hw => mem_eqAt ru fy rv fys w (by simpa using hw), ?_⟩
  have ec : its.toArray.toList.countP (eqU y) = ys.countP fun z => eqV z y := count_eqU rv fys
  refine ⟨.int (ys.countP (fun z => eqV z y) : Nat), H, I.tok _, ⟨s.toks, ?_⟩, q⟩
  show Value.int ((its.toArray.toList.countP (eqU y) : Nat) : Int) s.toks = _
  rw [ec]
/-- isinstance of the exception that stands pinned -/
theorem call_isP {X : Cx} {a D : Addr} {oe : Obj} (hp : (a, oe) ∈ X.pn) (C : ExcC X.K D) (hz : Zc (.ref D) none oe) (hf : ∃ vs, oe.data = .fields vs) : CallR X (.builtin "isinstance") (rIsE X.K D a) := by
  intro pins s σ H xs us Q I r h
  obtain ⟨c, cv, b, rfl, hcv, e, q⟩ := h
  obtain ⟨u1, u2, rfl, r1, r2⟩ := vals2 r
  cases (show u1 = Value.ref a from r1)
  cases hcv _ r2
  obtain ⟨hget, _⟩ := I.pin (a, oe) (List.mem_append_left _ hp)
  obtain ⟨vs, hv⟩ := hf
  have J : PySem.W.InstAt s.heap a oe D none := by
    obtain ⟨oc, od, oda, osl⟩ := oe
    obtain ⟨h1, h2⟩ := hz
    dsimp only at h1 h2 hv
    subst h1 h2 hv
    exact ⟨hget, rfl, rfl, trivial⟩
  exact PySem.W.kia_one (PySem.W.handS_kitx_exc C.hg C.hk C.hs C.hd C.ha C.hn C.ht C.hm) I.kIn J e (fun z => nomatch z) fun tk => ⟨.bl b, H, I.kept (t' := tk) fun _ _ z => z, rfl, q⟩
/-- what such a def promises: of the exception at a, of the class at D -/
abbrev SpE := Addr → Addr → Sp
structure ExIs (D : Addr) (p : Addr × Obj) : Prop where
  z : Zc (.ref D) none p.2
  f : ∃ vs, p.2.data = .fields vs
structure FnE (P : Program) (w : World) (K : PySem.W.Frag) (mg : Str → Option Value) (base : Heap) (k : Nat) (f : Addr) (fd : FuncData) (ps : List Str) (sp : SpE) : Prop where
  len : ∀ a D vs H Q E, sp a D vs H Q E → vs.length = ps.length
  run : ∀ (A : Around) (outer : List Env) (s : Shared) (H : Hp) (args : Args) (us : List Value) (vs : List V) (Q : VK) (E : XK) (p : Addr × Obj) (D : Addr), L2H.RoomH k A → ExIs D p → L2H.PinOk outer H s p → Env0 P w K mg base A outer s H → BindsTo s fd args (ps.zip us) → Vals vs us → sp p.1 D vs H Q E →
    codeAny (model P w) A (.call (.ref f) args) (CR (L2.CX P w) outer P w H s Q E) s
theorem fn_ofE {P : Program} {w : World} {K : PySem.W.Frag} {mg : Str → Option Value} {base : Heap} {k : Nat} {f : Addr} {name qual : Str} {params : Arguments} {body : List Stmt} {scope : Scope} {dV kV doc pm cdv ct oc : Value} {an od : Option Addr}
    {osl : Array (Option Value)} {N ps : List Str} {sp : SpE} (lk : K.lookup f = some ⟨oc, od, .func (PySem.W.fnOf name qual params body scope dV kV doc pm an cdv ct), osl⟩) (hcd : PySem.W.codeIn K cdv qual = true) (S : FnScope N ps scope)
    (len : ∀ a D vs H Q E, sp a D vs H Q E → vs.length = ps.length)
    (hbody : ∀ (A : Around) (outer : List Env) (s : Shared) (H : Hp) (vs : List V) (Q : VK) (E : XK) (p : Addr × Obj) (D : Addr), ExIs D p → L2H.RoomH k (A.deeper (envOfC qual scope s.heap.objs.size f cdv)) → sp p.1 D vs H Q E →
      ∃ t, PSs (L2H.cxH (L2.CX P w) P w K mg base N qual scope f cdv A outer s H E p) body t ∧ t { nx := fun _ H' => Q .non H', rt := Q } (L2.start N vs) H) :
    FnE P w K mg base (k + 1) f (PySem.W.fnOf name qual params body scope dV kV doc pm an cdv ct) ps sp := by
  refine ⟨len, fun A outer s H args us vs Q E p D hr hex hpin e0 hb r hsp => ?_⟩
  have hl := len _ _ _ _ _ _ hsp
  have KX : K.In s.heap := e0.mod.kin.keeps fun b o e => (e0.bs b o e).1
  have lim : s.heap.NoLimit := e0.mod.nolimit.keeps fun b o e => (e0.bs b o e).1
  have hkind : ∀ y ∈ ps.zip us, scope.names.lookup y.1 = some .local ∨ (scope.names.lookup y.1 = some .cell ∧ ((cellsFrom (s.heap.objs.size + 1) scope.names []).lookup y.1).isSome = true) := fun ⟨n, v⟩ hy => by
    rcases S.par n (List.of_mem_zip hy).1 with q | q
    · exact .inl q
    · exact .inr ⟨q, PySem.W.cellsFrom_some _ _ _ (.inl q)⟩
  refine codeAny_call_function hr.depth (KX _ _ lk) rfl S.co S.gen rfl (PySem.W.codeRec_of KX hcd) (hb _ _ _ _ ?_)
  refine wpAny_newFunctionEnv_cells S.kind hkind fun env he s1 x => ?_
  subst he
  refine ⟨lim.keeps x.toInCall.keep, codeAny_func ?_⟩
  obtain ⟨t, ht, hq⟩ := hbody A outer s H vs Q E p D hex (hr.deeper _) hsp
  have I : Inv (L2H.cxH (L2.CX P w) P w K mg base N qual scope f cdv A outer s H E p) [] (L2.start N vs) H s1 := L2H.inv_startH S hpin e0 hl r x
  refine wpAny_mono (ht.run [] s1 (L2.start N vs) H _ I hq) (fun fl s' hs => ?_) fun e s' hs => hs
  have fin : ∀ {σ' : L2.St} {H' : Hp} {v : V} {u : Value}, Inv (L2H.cxH (L2.CX P w) P w K mg base N qual scope f cdv A outer s H E p) [] σ' H' s' → RelV v u → Q v H' → CE outer P w H s Q u s' :=
    fun {σ' H' v u} J rv q => ⟨v, H', J.os, J.bare, J.base, J.hok, rv, q⟩
  cases fl with
  | ret u =>
    obtain ⟨v, σ', H', J, rv, q⟩ := hs
    exact fin J rv q
  | next =>
    obtain ⟨σ', H', J, q⟩ := hs
    exact fin (v := V.non) (u := Value.none) J rfl q
  | brk =>
    obtain ⟨_, _, _, q⟩ := hs
    exact False.elim q
  | cont =>
    obtain ⟨_, _, _, q⟩ := hs
    exact False.elim q
theorem fun_okE {P : Program} {w : World} {K : PySem.W.Frag} {mg : Str → Option Value} {base : Heap} {x qual : Str} {st : Stmt} {f : Addr} {fd : FuncData} {N ps : List Str} {k : Nat} {sp : SpE} (F : Fun K x qual st f fd) (S : FnScope N ps (defScope st)) (len : ∀ a D vs H Q E, sp a D vs H Q E → vs.length = ps.length)
    (hbody : ∀ (cdv : Value) (A : Around) (outer : List Env) (s : Shared) (H : Hp) (vs : List V) (Q : VK) (E : XK) (p : Addr × Obj) (D : Addr), ExIs D p → L2H.RoomH k (A.deeper (envOfC qual (defScope st) s.heap.objs.size f cdv)) → sp p.1 D vs H Q E →
      ∃ t, PSs (L2H.cxH (L2.CX P w) P w K mg base N qual (defScope st) f cdv A outer s H E p) (defBody st) t ∧ t { nx := fun _ H' => Q .non H', rt := Q } (L2.start N vs) H) : FnE P w K mg base (k + 1) f fd ps sp := by
  obtain ⟨oc, od, kV, doc, pm, an, cdv, ct, osl, rfl, lk, hcd⟩ := F.ex
  exact fn_ofE lk hcd S len fun A outer s H vs Q E p D hex hr hsp => hbody cdv A outer s H vs Q E p D hex hr hsp
structure CalleeE (P : Program) (w : World) (K : PySem.W.Frag) (mg : Str → Option Value) (base : Heap) (k : Nat) (x : Str) (ps : List Str) (sp : SpE) : Prop where
  ex : ∃ (f : Addr) (fd : FuncData), FnE P w K mg base k f fd ps sp ∧ mg x = some (.ref f) ∧ PySem.W.keepIn K (.ref f) = true ∧ Binds K fd ps []
theorem CalleeE.mk' {P : Program} {w : World} {K : PySem.W.Frag} {mg : Str → Option Value} {base : Heap} {k : Nat} {x : Str} {ps : List Str} {sp : SpE} {f : Addr} {fd : FuncData} (F : FnE P w K mg base k f fd ps sp) (hm : mg x = some (.ref f)) (hk : PySem.W.keepIn K (.ref f) = true) (hb : Binds K fd ps []) :
    CalleeE P w K mg base k x ps sp := ⟨f, fd, F, hm, hk, hb⟩
/-- f(e) in the suite that holds the exception at a -/
def tCallE (a : Addr) (cls : Value) (d : Option Addr) (sp : SpE) (t : TA) : TE := fun σ H Q => t σ H fun vs H1 => ∃ D, cls = .ref D ∧ d = none ∧ sp a D vs H1 Q (fun _ _ _ => False)
theorem pe_callE {X : Cx} {j k : Nat} {x : Str} {ps : List Str} {sp : SpE} {e : Expr} {es : List Expr} {t : TA} {q pos : Pos} {a : Addr} {oe : Obj} {cls : Value} {d : Option Addr} {pn : List (Addr × Obj)} (c : CalleeE X.prog X.w X.K X.mg X.base k x ps sp) (hr : Room j X.A) (hk : k ≤ j)
    (hz : Zc cls d oe) (hf : ∃ vs, oe.data = .fields vs) (ha : PA (X.suite a ((a, oe) :: pn)) (e :: es) t) (hg : Gl X x := by rfl) (hdb : (x == ("__debug__" : Str)) = false := by decide)
    (he : starEach (e :: es) X.env = (false, eval e X.env) :: starEach es X.env := by rfl) (hpl : (backTo pos (starEach es X.env)).any (·.1) = false := by rfl) :
    PE (X.suite a ((a, oe) :: pn)) (.Call (.Name x q) (e :: es) [] pos) (tCallE a cls d sp t) := by
  obtain ⟨f, fd, F, hm, hkp, hb⟩ := c
  refine ⟨fun pins s σ H Q I h => ?_⟩
  refine wpAny_Call_Name_kw (ld_glob (X := X.suite a ((a, oe) :: pn)) I hg hm ?_ hdb)
  refine PySem.W.callWith_K (h₀ := X.base) I.ok.mod.kin hkp (thn (ha.run pos pins s σ H _ I h) fun us s1 ⟨vs, H1, I1, r, D, ec, ed, hsp⟩ => ⟨I1.kIn, ?_⟩) he hpl
  subst ec ed
  have hl : us.length = ps.length := by rw [← r.length]; exact F.len _ _ _ _ _ _ hsp
  have b := hb s1 us I1.kIn (by rw [List.append_nil]; exact hl)
  rw [List.append_nil] at b
  have P1 := I1.pin (a, oe) (List.mem_append_left _ List.mem_cons_self)
  have hpin : L2H.PinOk X.stack H1 s1 (a, oe) := ⟨P1.1, P1.2.1, fun hm => (List.mem_cons.mp (I1.stkSub a hm)).elim P1.2.2.1 P1.2.2.2.1, P1.2.2.2.2⟩
  have hrH : L2H.RoomH k (X.A.mark (some (.ref a))) := ⟨by have := hr.dp; show X.A.depth + 3 * k + 5 < _; omega, by have := hr.un; show X.A.units + 16 * k + 200 < _; omega⟩
  refine wpAny_call (codeAny_mono (F.run _ X.stack s1 H1 ⟨us, []⟩ us vs Q _ (a, oe) D hrH ⟨hz, hf⟩ hpin I1.env0 b r hsp) fun rr s' hq => ?_)
  cases rr with
  | error ee => exact passAt (X := X.suite a ((a, oe) :: pn)) (W := fun _ _ _ _ => False) takes0 σ pins H1 s1 ee s' I1 hq
  | ok fl =>
    cases fl with
    | ret u => exact I1.after hq
    | next => exact False.elim hq
    | brk => exact False.elim hq
    | cont => exact False.elim hq
end CB
namespace CB
open PySem PySem.Spec PyProof.Rows L2
abbrev s_asked_frame : Stmt := top 12
abbrev N_asked_frame : List Str := ["ratios", "ratio"]
theorem sc_asked_frame : FnScope N_asked_frame ["ratios"] (defScope s_asked_frame) := ⟨rfl, rfl, rfl, by decide +kernel, rfl, by decide +kernel, by decide +kernel⟩
end CB

namespace CB
open PySem PySem.Spec PyProof.Rows L2
def sp_asked_frame (K : PySem.W.Frag) (mg : Str → Option Value) : Sp := fun vs H Q E => ∃ (a : Addr) (rs : List Int), vs = [.ref a] ∧ SqL K H a (rs.map V.int) ∧
  (GF rs → Q .non H) ∧ (¬ GF rs → E (.ref (ErA mg "NoFrame")) none H)
section
variable {P : Program} {w : World} {K : PySem.W.Frag} {mg : Str → Option Value} {base : Heap}
theorem ok_asked_frame {f : Addr} {fd : FuncData} (F : Fun K "asked_frame" "asked_frame" s_asked_frame f fd) (B : Bi mg) (m_MOST : ∃ t, mg "MOST" = some (.int 11 t)) (e_NoFrame : Er K mg "NoFrame") :
    FnOk P w K mg base (L2.CX P w) 1 f fd ["ratios"] (sp_asked_frame K mg) := by
  obtain ⟨tM, m_MOST⟩ := m_MOST
  refine F.okX sc_asked_frame (fun vs H Q E h => ?_) (fun cdv A outer s H vs Q E hr h => ?_)
  · obtain ⟨a, rs, rfl, _⟩ := h
    rfl
  · obtain ⟨a, rs, rfl, hS, kG, kB⟩ := h
    have tk : Takes (cxOf (L2.CX P w) P w K mg base N_asked_frame "asked_frame" (defScope s_asked_frame) f cdv A outer s H E) (fun cls d _ H => E cls d H) := takes_of rfl rfl rfl rfl
    refine ⟨_, (pss_cons (ps_if (pt_cmpR op_gt (pe_callB call_len_seq (by rfl) B.len PySem.boot_len (pa_cons (pv 0) pa_nil)) (pe_glob (v := .int 11) (by rfl) m_MOST ⟨_, rfl⟩) (nomark _)) (pss_one (ps_raise rfl tk (pmk_own PySem.F.excBase_ValueError e_NoFrame.xP e_NoFrame.gC e_NoFrame.kP (raises_own e_NoFrame.bP e_NoFrame.tP) (by rfl)))) pss_nil)
  (pss_one (ps_for (passes_of rfl) rfl (pi_list (pv 0)) (pg_name (i := 1) sc_asked_frame.nd rfl (Or.inl rfl)) (pss_one (ps_if (pw_or (pt_cmpR op_lt (pv 1) pe_int (nomark _)) (pw_or1 (pt_cmpR op_gt (pv 1) pe_int (nomark _)))).pt (pss_one (ps_raise rfl tk (pmk_own PySem.F.excBase_ValueError e_NoFrame.xP e_NoFrame.gC e_NoFrame.kP (raises_own e_NoFrame.bP e_NoFrame.tP) (by rfl)))) pss_nil))))), ?_⟩
    refine ⟨_, rfl, a, _, rfl, .inl hS, _, _, rfl, rfl, _, rfl, ite2 (fun e => ?_) (fun e => ?_)⟩
    · refine kB fun g => ?_
      have e1 := of_decide_eq_true e
      rw [List.length_map] at e1
      have := g.1
      omega
    · have hl : rs.length ≤ 11 := by
        have e1 : ¬ (11 < ((rs.map V.int).length : Int)) := fun z => e (decide_eq_true z)
        rw [List.length_map] at e1
        omega
      refine ⟨_, rfl, a, rfl, ⟨_, hS⟩, for_list (K := K) (a := a) (xs := rs.map V.int) (fun i σ H' => ∃ v, σ = [some (.ref a), v] ∧ H' = H ∧ ∀ (j : Nat) (r : Int), j < i → rs[j]? = some r → 2 ≤ r ∧ r ≤ 12)
        ⟨none, rfl, rfl, fun j r hj => absurd hj (Nat.not_lt_zero _)⟩ (fun i σ H' _ ⟨_, _, e, _⟩ => by rw [e]; exact hS) ?_ ?_⟩
      · rintro i y σ H' hi ⟨v, rfl, rfl, hg⟩
        obtain ⟨z, hz, rfl⟩ := get_map hi
        have bad : ¬ (2 ≤ z ∧ z ≤ 12) → ¬ GF rs := fun h g => h (g.2 z (List.mem_of_getElem? hz))
        refine ⟨_, rfl, _, _, rfl, rfl, _, rfl, ite2 (fun e => ?_) (fun e => ?_)⟩
        · refine ite_t rfl (kB (bad ?_))
          have := of_decide_eq_true e
          omega
        · have h1 : ¬ z < 2 := fun q => e (decide_eq_true q)
          refine ⟨_, rfl, _, _, rfl, rfl, _, rfl, ite2 (fun e2 => ?_) (fun e2 => ?_)⟩
          · refine kB (bad ?_)
            have := of_decide_eq_true e2
            omega
          · have h2 : ¬ 12 < z := fun q => e2 (decide_eq_true q)
            refine ⟨_, rfl, rfl, fun j r hj hr => ?_⟩
            rcases Nat.lt_succ_iff_lt_or_eq.mp hj with q | q
            · exact hg j r q hr
            · subst q
              rw [hz] at hr
              cases hr
              omega
      · rintro σ H' ⟨v, rfl, rfl, hg⟩
        rw [List.length_map] at hg
        refine kG ⟨hl, fun r hr => ?_⟩
        obtain ⟨j, hj, e⟩ := List.getElem_of_mem hr
        exact hg j r hj (by rw [List.getElem?_eq_getElem hj, e])
end
end CB
namespace CB
open PySem PySem.Spec PyProof.Rows L2
abbrev s_asked_board : Stmt := top 13
abbrev N_asked_board : List Str := ["ratios", "board", "counters"]
theorem sc_asked_board : FnScope N_asked_board ["ratios", "board"] (defScope s_asked_board) := ⟨rfl, rfl, rfl, by decide +kernel, rfl, by decide +kernel, by decide +kernel⟩
end CB

namespace CB
open PySem PySem.Spec PyProof.Rows L2
def sp_asked_board (K : PySem.W.Frag) (mg : Str → Option Value) : Sp := fun vs H Q E => ∃ (a b : Addr) (rs bs : List Int), vs = [.ref a, .ref b] ∧ SqL K H a (rs.map V.int) ∧ SqL K H b (bs.map V.int) ∧
  (GF rs → GB rs bs → Q .non H) ∧ (¬ GF rs → E (.ref (ErA mg "NoFrame")) none H) ∧ (GF rs → ¬ GB rs bs → E (.ref (ErA mg "NoBoard")) none H)
section
variable {P : Program} {w : World} {K : PySem.W.Frag} {mg : Str → Option Value} {base : Heap}
theorem ok_asked_board {f : Addr} {fd : FuncData} (F : Fun K "asked_board" "asked_board" s_asked_board f fd) (B : Bi mg) (e_NoBoard : Er K mg "NoBoard") (c_asked_frame : Callee P w K mg base 1 "asked_frame" ["ratios"] (sp_asked_frame K mg)) :
    FnOk P w K mg base (L2.CX P w) 2 f fd ["ratios", "board"] (sp_asked_board K mg) := by
  refine F.okX sc_asked_board (fun vs H Q E h => ?_) (fun cdv A outer s H vs Q E hr h => ?_)
  · obtain ⟨a, b, rs, bs, rfl, _⟩ := h
    rfl
  · obtain ⟨a, b, rs, bs, rfl, hA, hB, kG, kF, kB⟩ := h
    have tk : Takes (cxOf (L2.CX P w) P w K mg base N_asked_board "asked_board" (defScope s_asked_board) f cdv A outer s H E) (fun cls d _ H => E cls d H) := takes_of rfl rfl rfl rfl
    refine ⟨_, (pss_cons (ps_expr (pe_f c_asked_frame hr (by decide) tk (pa_cons (pv 0) pa_nil)))
  (pss_cons (ps_if (pt_cmpR op_ne (pe_callB call_len_seq (by rfl) B.len PySem.boot_len (pa_cons (pv 1) pa_nil)) (pe_op op_add (pe_callB call_len_seq (by rfl) B.len PySem.boot_len (pa_cons (pv 0) pa_nil)) pe_int) (nomark _)) (pss_one (ps_raise rfl tk (pmk_own PySem.F.excBase_ValueError e_NoBoard.xP e_NoBoard.gC e_NoBoard.kP (raises_own e_NoBoard.bP e_NoBoard.tP) (by rfl)))) pss_nil)
  (pss_one (ps_for (passes_of rfl) rfl (pi_list (pv 1)) (pg_name (i := 2) sc_asked_board.nd rfl (Or.inl rfl)) (pss_one (ps_if (pt_cmpR op_lt (pv 2) pe_int (nomark _)) (pss_one (ps_raise rfl tk (pmk_own PySem.F.excBase_ValueError e_NoBoard.xP e_NoBoard.gC e_NoBoard.kP (raises_own e_NoBoard.bP e_NoBoard.tP) (by rfl)))) pss_nil)))))), ?_⟩
    refine ⟨_, rfl, a, rs, rfl, hA, fun g => ?_, kF⟩
    refine ⟨_, rfl, b, _, rfl, .inl hB, _, rfl, a, _, rfl, .inl hA, _, _, rfl, rfl, rfl, _, rfl, ?_⟩
    rw [List.length_map, List.length_map]
    by_cases hl : bs.length = rs.length + 1
    · refine ite_f (by simp [hl]) ?_
      refine ⟨_, rfl, b, rfl, ⟨_, hB⟩, for_list (K := K) (a := b) (xs := bs.map V.int) (fun i σ H' => ∃ v, σ = [some (.ref a), some (.ref b), v] ∧ H' = H ∧ ∀ (j : Nat) (r : Int), j < i → bs[j]? = some r → 0 ≤ r)
        ⟨none, rfl, rfl, fun j r hj => absurd hj (Nat.not_lt_zero _)⟩ (fun i σ H' _ ⟨_, _, e, _⟩ => by rw [e]; exact hB) ?_ ?_⟩
      · rintro i y σ H' hi ⟨v, rfl, rfl, hg⟩
        obtain ⟨z, hz, rfl⟩ := get_map hi
        refine ⟨_, rfl, _, _, rfl, rfl, _, rfl, ite2 (fun e => ?_) (fun e => ?_)⟩
        · refine kB g fun q => ?_
          have h1 := q.2 z (List.mem_of_getElem? hz)
          have := of_decide_eq_true e
          omega
        · have h1 : ¬ z < 0 := fun q => e (decide_eq_true q)
          refine ⟨_, rfl, rfl, fun j r hj hr => ?_⟩
          rcases Nat.lt_succ_iff_lt_or_eq.mp hj with q | q
          · exact hg j r q hr
          · subst q
            rw [hz] at hr
            cases hr
            omega
      · rintro σ H' ⟨v, rfl, rfl, hg⟩
        rw [List.length_map] at hg
        refine kG g ⟨hl, fun r hr => ?_⟩
        obtain ⟨j, hj, e⟩ := List.getElem_of_mem hr
        exact hg j r hj (by rw [List.getElem?_eq_getElem hj, e])
    · refine ite_t ?_ (kB g fun q => hl q.1)
      have : ¬ ((bs.length : Int) = (rs.length : Int) + 1) := by omega
      simp [this]
end
end CB
namespace CB
open PySem PySem.Spec PyProof.Rows L2
abbrev s_worths : Stmt := top 14
abbrev N_worths : List Str := ["ratios", "found", "ratio"]
theorem sc_worths : FnScope N_worths ["ratios"] (defScope s_worths) := ⟨rfl, rfl, rfl, by decide +kernel, rfl, by decide +kernel, by decide +kernel⟩
end CB

namespace CB
open PySem PySem.Spec PyProof.Rows L2
def sp_worths (K : PySem.W.Frag) (mg : Str → Option Value) : Sp := fun vs H Q E => ∃ (a : Addr) (rs : List Int), vs = [.ref a] ∧ SqL K H a (rs.map V.int) ∧
  (GF rs → TellL H Q ((worthsL rs).map V.int)) ∧ (¬ GF rs → E (.ref (ErA mg "NoFrame")) none H)
theorem worths_take (rs : List Int) (i : Nat) (h : i ≤ rs.length) : worthsL (rs.take i) = (List.range i).map (fun k => prodL (rs.take k)) ++ [prodL (rs.take i)] := by
  unfold worthsL
  rw [List.length_take, Nat.min_eq_left h, List.range_succ, List.map_append]
  congr 1
  · refine List.map_congr_left fun k hk => ?_
    rw [List.take_take, Nat.min_eq_left (Nat.le_of_lt (List.mem_range.mp hk))]
  · rw [List.map_singleton, List.take_take, Nat.min_self]
theorem worths_more (rs : List Int) (i : Nat) (r : Int) (h : rs[i]? = some r) : worthsL (rs.take (i + 1)) = worthsL (rs.take i) ++ [prodL (rs.take i) * r] := by
  obtain ⟨hi, _⟩ := List.getElem?_eq_some_iff.mp h
  rw [worths_take rs (i + 1) hi, worths_take rs i (Nat.le_of_lt hi), List.range_succ, List.map_append, List.map_singleton, take_more h, prodL_snoc]
theorem worths_len (rs : List Int) : (worthsL rs).length = rs.length + 1 := by
  unfold worthsL
  rw [List.length_map, List.length_range]
section
variable {P : Program} {w : World} {K : PySem.W.Frag} {mg : Str → Option Value} {base : Heap}
theorem ok_worths {f : Addr} {fd : FuncData} (F : Fun K "worths" "worths" s_worths f fd) (B : Bi mg) (c_asked_frame : Callee P w K mg base 1 "asked_frame" ["ratios"] (sp_asked_frame K mg)) :
    FnOk P w K mg base (L2.CX P w) 2 f fd ["ratios"] (sp_worths K mg) := by
  refine F.okX sc_worths (fun vs H Q E h => ?_) (fun cdv A outer s H vs Q E hr h => ?_)
  · obtain ⟨a, rs, rfl, _⟩ := h
    rfl
  · obtain ⟨a, rs, rfl, hS, kG, kB⟩ := h
    have tk : Takes (cxOf (L2.CX P w) P w K mg base N_worths "worths" (defScope s_worths) f cdv A outer s H E) (fun cls d _ H => E cls d H) := takes_of rfl rfl rfl rfl
    refine ⟨_, (pss_cons (ps_expr (pe_f c_asked_frame hr (by decide) tk (pa_cons (pv 0) pa_nil)))
  (pss_cons (ps_set (i := 1) sc_worths.nd rfl (Or.inl rfl) (pe_lst (pa_cons pe_int pa_nil)))
  (pss_cons (ps_for (passes_of rfl) rfl (pi_list (pv 0)) (pg_name (i := 2) sc_worths.nd rfl (Or.inl rfl)) (pss_one (ps_expr (pe_bm PySem.F.plainAttrs_list PySem.F.slot_list_append PySem.F.type_list_append mt_append (pv 1) (pa_cons (pe_op op_mulW (pe_ix ix_list (pv 1) (pe_un un_neg pe_int) (fun _ _ => rfl)) (pv 2)) pa_nil)))))
  (pss_one (ps_ret (pv 1)))))), ?_⟩
    refine ⟨.ref a, rfl, a, rs, rfl, hS, fun g => ?_, kB⟩
    refine ⟨by show 1 ≤ sizeLine; decide, fun p hp => ?_⟩
    have hpa : SqL K (upd H p (.lst [.int 1])) a (rs.map V.int) := (same_upd hp).seq hS
    refine ⟨_, rfl, a, rfl, ⟨_, hpa⟩, for_list (K := K) (a := a) (xs := rs.map V.int) (fun i σ H' => ∃ v, σ = [some (.ref a), some (.ref p), v] ∧ Same H H' ∧ H' p = some (.lst ((worthsL (rs.take i)).map V.int)))
        ⟨none, rfl, same_upd hp, upd_same⟩ (fun i σ H' _ ⟨_, _, e, _⟩ => e.seq hS) ?_ ?_⟩
    · rintro i y σ H' hi ⟨v, rfl, sm, hp'⟩
      obtain ⟨z, hz, rfl⟩ := get_map hi
      obtain ⟨hil, _⟩ := List.getElem?_eq_some_iff.mp hz
      have hil' : i ≤ 11 := by have := g.1; omega
      have e1 : (worthsL (rs.take i)).map V.int = ((List.range i).map (fun k => prodL (rs.take k))).map V.int ++ [.int (prodL (rs.take i))] := by
        rw [worths_take rs i (Nat.le_of_lt hil), List.map_append]
        all_goals rfl
      have gz := g.2 z (List.mem_of_getElem? hz)
      have gp := prodL_lt (l := rs.take i) (fun r hr => g.2 r (List.mem_of_mem_take hr)) (by rw [List.length_take]; omega)
      refine ⟨_, rfl, .inl ⟨rfl, _, SqL.of hp'⟩, _, rfl, _, rfl, p, _, -1, .int (prodL (rs.take i)), rfl, rfl, SqL.of hp', by rw [e1]; exact atI_last _ _, .int z, rfl, _, _, rfl, rfl, ?_, p, _, _, rfl, rfl, hp', ?_, ?_⟩
      · exact wide_mul (a := 40) (b := 40) (abs_lt_pow (by omega) gp.2) (abs_lt_pow (by omega) (by omega)) (by decide) (by decide) (by decide)
      · rw [List.length_map, worths_len, List.length_take]
        exact small64 (by omega)
      · refine ⟨some (.int z), rfl, fun b o e => ?_, ?_⟩
        · rw [upd_ne (ne_of_none e hp)]
          exact sm b o e
        · rw [upd_same, worths_more rs i z hz, List.map_append]
          all_goals rfl
    · rintro σ H' ⟨v, rfl, sm, hp'⟩
      rw [List.length_map, List.take_length] at hp'
      exact ⟨_, rfl, kG g H' p sm hp hp'⟩
end
end CB
namespace CB
open PySem PySem.Spec PyProof.Rows L2
abbrev s_worth : Stmt := top 15
abbrev N_worth : List Str := ["ratios", "board", "counters", "one"]
theorem sc_worth : FnScope N_worth ["ratios", "board"] (defScope s_worth) := ⟨rfl, rfl, rfl, by decide +kernel, rfl, by decide +kernel, by decide +kernel⟩
end CB

namespace CB
open PySem PySem.Spec PyProof.Rows L2
def sp_worth (K : PySem.W.Frag) (mg : Str → Option Value) : Sp := fun vs H Q E => ∃ (a b : Addr) (rs bs : List Int), vs = [.ref a, .ref b] ∧ SqL K H a (rs.map V.int) ∧ SqL K H b (bs.map V.int) ∧
  (GF rs → GB rs bs → BS bs ∧ TellV H Q (.int (W rs bs))) ∧ (¬ GF rs → E (.ref (ErA mg "NoFrame")) none H) ∧ (GF rs → ¬ GB rs bs → E (.ref (ErA mg "NoBoard")) none H)
section
variable {P : Program} {w : World} {K : PySem.W.Frag} {mg : Str → Option Value} {base : Heap}
theorem ok_worth {f : Addr} {fd : FuncData} (F : Fun K "worth" "worth" s_worth f fd) (B : Bi mg) (c_asked_board : Callee P w K mg base 2 "asked_board" ["ratios", "board"] (sp_asked_board K mg))
    (c_worths : Callee P w K mg base 2 "worths" ["ratios"] (sp_worths K mg)) :
    FnOk P w K mg base (L2.CX P w) 3 f fd ["ratios", "board"] (sp_worth K mg) := by
  refine F.okX sc_worth (fun vs H Q E h => ?_) (fun cdv A outer s H vs Q E hr h => ?_)
  · obtain ⟨a, b, rs, bs, rfl, _⟩ := h
    rfl
  · obtain ⟨a, b, rs, bs, rfl, hA, hB, kG, kF, kB⟩ := h
    have tk : Takes (cxOf (L2.CX P w) P w K mg base N_worth "worth" (defScope s_worth) f cdv A outer s H E) (fun cls d _ H => E cls d H) := takes_of rfl rfl rfl rfl
    refine ⟨_, (pss_cons (ps_expr (pe_f c_asked_board hr (by decide) tk (pa_cons (pv 0) (pa_cons (pv 1) pa_nil))))
  (pss_one (ps_ret (pe_callB (cr_sum rfl) (by rfl) B.sum (by decide +kernel) (pa_cons (pe_lc (own := [("counters", 2), ("one", 3)]) (g := gTup K 2 (gCons (gName 2) (gCons (gName 3) gNil))) (tt := tYes) rfl sc_worth.nd (pi_zip (by rfl) B.zip (pa_cons (pv 1) (pa_cons (pe_f c_worths hr (by decide) tk (pa_cons (pv 0) pa_nil)) pa_nil))) (blkOk_by (own := [("counters", 2), ("one", 3)]) (N := N_worth) (sc := defScope s_worth) (by decide +kernel)) (fun _ _ _ _ _ => pg_tup rfl (pgs_cons (pg_name (i := 2) sc_worth.nd rfl (Or.inl rfl)) (pgs_cons (pg_name (i := 3) sc_worth.nd rfl (Or.inl rfl)) pgs_nil))) (fun _ _ _ _ _ => pts_nil) (fun _ _ _ _ _ => (pe_op op_mulW (pv 2) (pv 3)))) pa_nil))))), ?_⟩
    refine ⟨_, rfl, _, rfl, a, b, rs, bs, rfl, hA, hB, fun g gb => ?_, kF, kB⟩
    obtain ⟨hs, k⟩ := kG g gb
    refine ⟨_, rfl, _, rfl, a, rs, rfl, hA, fun _ H1 p s1 n1 e1 => ?_, fun z => absurd g z⟩
    refine ⟨b, p, _, _, rfl, s1.seq hB, SqL.of e1, fun T hT => ?_⟩
    have hlen : bs.length = rs.length + 1 := gb.1
    have hl : (List.zipWith (· * ·) bs (worthsL rs)).length = rs.length + 1 := by rw [List.length_zipWith, worths_len]; omega
    refine lc_zip (K := K) (rs.length + 1) (by rw [List.length_map, List.length_map, worths_len]; omega) (Gr H1 T ((List.zipWith (· * ·) bs (worthsL rs)).map V.int)) (Gr.zero _ hT) (fun i H' gr => ⟨gr.1.seq (s1.seq hB), gr.1.seq (SqL.of e1)⟩) ?_ ?_
    · rintro i x y T' H' hx hy gr nT
      obtain ⟨z, hz, rfl⟩ := get_map hx
      obtain ⟨o, ho, rfl⟩ := get_map hy
      refine ⟨T', _, rfl, SqT.of upd_same, rfl, _, _, rfl, _, _, rfl, rfl, rfl, ?_⟩
      have ho' : ∃ k, k < rs.length + 1 ∧ o = prodL (rs.take k) := by
        have hm := List.mem_of_getElem? ho
        unfold worthsL at hm
        obtain ⟨k, hk, e⟩ := List.mem_map.mp hm
        exact ⟨k, List.mem_range.mp hk, e.symm⟩
      obtain ⟨k', hk', rfl⟩ := ho'
      have gp := prodL_lt (l := rs.take k') (fun r hr => g.2 r (List.mem_of_mem_take hr)) (by rw [List.length_take]; have := g.1; omega)
      have hz0 := gb.2 z (List.mem_of_getElem? hz)
      have hz1 := hs z (List.mem_of_getElem? hz)
      refine ⟨_, rfl, _, rfl, _, _, rfl, rfl, wide_mul (a := 200) (b := 40) (abs_lt_pow hz0 hz1) (abs_lt_pow (by omega) gp.2) (by decide) (by decide) (by decide), ?_⟩
      refine ⟨_, gr.step hT (by rw [List.length_map, hl]; have := g.1; omega) (map_get (z := z * prodL (rs.take k')) ?_) (same_upd nT)⟩
      rw [List.getElem?_zipWith, hz, ho]
    · intro H' gr
      refine ⟨T, _, rfl, SqL.of (gr.done (by rw [List.length_map, hl]; exact Nat.le_refl _)), ?_⟩
      rw [W_sum rs bs hlen]
      refine k H' fun b' o' e' => gr.1 _ _ (s1 _ _ e')
end
end CB
namespace CB
open PySem PySem.Spec PyProof.Rows L2
abbrev s_board_of : Stmt := top 16
abbrev N_board_of : List Str := ["ratios", "number", "found", "ratio"]
theorem sc_board_of : FnScope N_board_of ["ratios", "number"] (defScope s_board_of) := ⟨rfl, rfl, rfl, by decide +kernel, rfl, by decide +kernel, by decide +kernel⟩
end CB

namespace CB
open PySem PySem.Spec PyProof.Rows L2
def sp_board_of (K : PySem.W.Frag) (mg : Str → Option Value) : Sp := fun vs H Q E => ∃ (a : Addr) (n : Int) (rs : List Int), vs = [.ref a, .int n] ∧ SqL K H a (rs.map V.int) ∧
  (GF rs → 0 ≤ n → TellL H Q ((D rs n).map V.int)) ∧ (¬ GF rs → E (.ref (ErA mg "NoFrame")) none H) ∧ (GF rs → ¬ 0 ≤ n → E (.ref (ErA mg "NoNumber")) none H)
section
variable {P : Program} {w : World} {K : PySem.W.Frag} {mg : Str → Option Value} {base : Heap}
theorem ok_board_of {f : Addr} {fd : FuncData} (F : Fun K "board_of" "board_of" s_board_of f fd) (B : Bi mg) (e_NoNumber : Er K mg "NoNumber") (c_asked_frame : Callee P w K mg base 1 "asked_frame" ["ratios"] (sp_asked_frame K mg)) :
    FnOk P w K mg base (L2.CX P w) 2 f fd ["ratios", "number"] (sp_board_of K mg) := by
  refine F.okX sc_board_of (fun vs H Q E h => ?_) (fun cdv A outer s H vs Q E hr h => ?_)
  · obtain ⟨a, n, rs, rfl, _⟩ := h
    rfl
  · obtain ⟨a, n, rs, rfl, hA, kG, kF, kB⟩ := h
    have tk : Takes (cxOf (L2.CX P w) P w K mg base N_board_of "board_of" (defScope s_board_of) f cdv A outer s H E) (fun cls d _ H => E cls d H) := takes_of rfl rfl rfl rfl
    refine ⟨_, (pss_cons (ps_expr (pe_f c_asked_frame hr (by decide) tk (pa_cons (pv 0) pa_nil)))
  (pss_cons (ps_if (pt_cmpR op_lt (pv 1) pe_int (nomark _)) (pss_one (ps_raise rfl tk (pmk_own PySem.F.excBase_ValueError e_NoNumber.xP e_NoNumber.gC e_NoNumber.kP (raises_own e_NoNumber.bP e_NoNumber.tP) (by rfl)))) pss_nil)
  (pss_cons (ps_set (i := 2) sc_board_of.nd rfl (Or.inl rfl) (pe_lst pa_nil))
  (pss_cons (ps_for (passes_of rfl) rfl (pi_list (pv 0)) (pg_name (i := 3) sc_board_of.nd rfl (Or.inl rfl)) (pss_cons (ps_expr (pe_bm PySem.F.plainAttrs_list PySem.F.slot_list_append PySem.F.type_list_append mt_append (pv 2) (pa_cons (pe_op op_mod (pv 1) (pv 3)) pa_nil)))
  (pss_one (ps_set (i := 1) sc_board_of.nd rfl (Or.inl rfl) (pe_op op_fdiv (pv 1) (pv 3))))))
  (pss_cons (ps_expr (pe_bm PySem.F.plainAttrs_list PySem.F.slot_list_append PySem.F.type_list_append mt_append (pv 2) (pa_cons (pv 1) pa_nil)))
  (pss_one (ps_ret (pv 2)))))))), ?_⟩
    refine ⟨_, rfl, a, rs, rfl, hA, fun g => ?_, kF⟩
    refine ⟨_, rfl, _, _, rfl, rfl, _, rfl, ite2 (fun e => kB g (by have := of_decide_eq_true e; omega)) (fun e => ?_)⟩
    have h0 : 0 ≤ n := by
      have : ¬ n < 0 := fun q => e (decide_eq_true q)
      omega
    have k := kG g h0
    refine ⟨by show 0 ≤ sizeLine; decide, fun p hp => ?_⟩
    have hlen : ((D rs n).map V.int).length ≤ 100000 := by rw [List.length_map, D_len]; have := g.1; omega
    refine ⟨_, rfl, a, rfl, ⟨_, (same_upd hp).seq hA⟩, for_list (K := K) (a := a) (xs := rs.map V.int) (fun i σ H' => ∃ v m, σ = [some (.ref a), some (.int m), some (.ref p), v] ∧ Gr H p ((D rs n).map V.int) i H' ∧ ∃ l, D rs n = l ++ D (rs.drop i) m ∧ l.length = i)
        ⟨none, n, rfl, Gr.zero _ hp, [], rfl, rfl⟩ (fun i σ H' _ ⟨_, _, _, gr, _⟩ => gr.1.seq hA) ?_ ?_⟩
    · rintro i y σ H' hi ⟨v, m, rfl, gr, l, e1, e2⟩
      obtain ⟨z, hz, rfl⟩ := get_map hi
      have gz := g.2 z (List.mem_of_getElem? hz)
      have e3 : rs.drop i = z :: rs.drop (i + 1) := by
        obtain ⟨hl, e⟩ := List.getElem?_eq_some_iff.mp hz
        rw [List.drop_eq_getElem_cons hl, e]
      rw [e3] at e1
      have e4 : ((D rs n).map V.int)[i]? = some (.int (m % z)) := by
        refine map_get ?_
        rw [e1, List.getElem?_append_right (by omega), e2, Nat.sub_self]
        rfl
      have st := gr.step hp hlen e4 (Same.refl H')
      refine ⟨_, rfl, .inl ⟨rfl, _, SqL.of st.1⟩, _, rfl, _, rfl, _, _, rfl, rfl, (by show 0 < z; omega), p, _, _, rfl, rfl, st.1, st.2.1, ?_⟩
      refine ⟨_, rfl, _, rfl, _, _, rfl, rfl, ⟨by omega, by omega⟩, ?_⟩
      refine ⟨some (.int z), m / z, rfl, st.2.2, l ++ [m % z], ?_, by rw [List.length_append, e2]; rfl⟩
      rw [e1, List.append_assoc]
      rfl
    · rintro σ H' ⟨v, m, rfl, gr, l, e1, e2⟩
      rw [List.length_map] at gr e1 e2
      have e3 : D (rs.drop rs.length) m = [m] := by rw [List.drop_length]; rfl
      rw [e3] at e1
      have e4 : ((D rs n).map V.int)[rs.length]? = some (.int m) := by
        refine map_get ?_
        rw [e1, List.getElem?_append_right (by omega), e2, Nat.sub_self]
        rfl
      have st := gr.step hp hlen e4 (Same.refl H')
      refine ⟨_, rfl, .inl ⟨rfl, _, SqL.of st.1⟩, _, rfl, p, _, _, rfl, rfl, st.1, st.2.1, ?_⟩
      exact ⟨_, rfl, k _ p st.2.2.1 hp (st.2.2.done (by rw [List.length_map, D_len]; exact Nat.le_refl _))⟩
end
end CB
namespace CB
open PySem PySem.Spec PyProof.Rows L2
abbrev s_added : Stmt := top 18
abbrev N_added : List Str := ["ratios", "one", "other", "first"]
theorem sc_added : FnScope N_added ["ratios", "one", "other"] (defScope s_added) := ⟨rfl, rfl, rfl, by decide +kernel, rfl, by decide +kernel, by decide +kernel⟩
end CB

namespace CB
open PySem PySem.Spec PyProof.Rows L2
def sp_added (K : PySem.W.Frag) (mg : Str → Option Value) : Sp := fun vs H Q E => ∃ (a b c : Addr) (rs bs cs : List Int), vs = [.ref a, .ref b, .ref c] ∧ SqL K H a (rs.map V.int) ∧ SqL K H b (bs.map V.int) ∧ SqL K H c (cs.map V.int) ∧
  Two mg H E rs bs cs (TellL H Q ((D rs (W rs bs + W rs cs)).map V.int))
section
variable {P : Program} {w : World} {K : PySem.W.Frag} {mg : Str → Option Value} {base : Heap}
theorem ok_added {f : Addr} {fd : FuncData} (F : Fun K "added" "added" s_added f fd) (B : Bi mg) (c_worth : Callee P w K mg base 3 "worth" ["ratios", "board"] (sp_worth K mg)) (c_board_of : Callee P w K mg base 2 "board_of" ["ratios", "number"] (sp_board_of K mg)) :
    FnOk P w K mg base (L2.CX P w) 4 f fd ["ratios", "one", "other"] (sp_added K mg) := by
  refine F.okX sc_added (fun vs H Q E h => ?_) (fun cdv A outer s H vs Q E hr h => ?_)
  · obtain ⟨a, b, c, rs, bs, cs, rfl, _⟩ := h
    rfl
  · obtain ⟨a, b, c, rs, bs, cs, rfl, hA, hB, hC, k, kF, kB⟩ := h
    have tk : Takes (cxOf (L2.CX P w) P w K mg base N_added "added" (defScope s_added) f cdv A outer s H E) (fun cls d _ H => E cls d H) := takes_of rfl rfl rfl rfl
    refine ⟨_, (pss_cons (ps_set (i := 3) sc_added.nd rfl (Or.inl rfl) (pe_f c_worth hr (by decide) tk (pa_cons (pv 0) (pa_cons (pv 1) pa_nil))))
  (pss_one (ps_ret (pe_f c_board_of hr (by decide) tk (pa_cons (pv 0) (pa_cons (pe_op op_add (pv 3) (pe_f c_worth hr (by decide) tk (pa_cons (pv 0) (pa_cons (pv 2) pa_nil)))) pa_nil)))))), ?_⟩
    refine ⟨_, rfl, _, rfl, a, b, rs, bs, rfl, hA, hB, fun g gb => ?_, kF, kB⟩
    obtain ⟨sb, k1, k2⟩ := k g gb
    refine ⟨sb, fun H1 s1 => ?_⟩
    refine ⟨_, rfl, _, rfl, _, rfl, _, rfl, a, c, rs, cs, rfl, s1.seq hA, s1.seq hC, fun _ gc => ?_, fun z => absurd g z, fun _ z => k2 z H1 s1⟩
    obtain ⟨sc, kk⟩ := k1 gc
    refine ⟨sc, fun H2 s2 => ?_⟩
    have h1 := (W_small g gb.2 sb).1
    have h2 := (W_small g gc.2 sc).1
    have s02 := s1.trans s2
    refine ⟨_, _, rfl, rfl, a, _, rs, rfl, s02.seq hA, fun _ _ H3 p3 s3 n3 e3 => kk H3 p3 (s02.trans s3) (s02.free n3) e3, fun z => absurd g z, fun _ z => absurd (Int.add_nonneg h1 h2) z⟩
end
end CB
namespace CB
open PySem PySem.Spec PyProof.Rows L2
abbrev s_less : Stmt := top 19
abbrev N_less : List Str := ["ratios", "one", "other", "left"]
theorem sc_less : FnScope N_less ["ratios", "one", "other"] (defScope s_less) := ⟨rfl, rfl, rfl, by decide +kernel, rfl, by decide +kernel, by decide +kernel⟩
end CB

namespace CB
open PySem PySem.Spec PyProof.Rows L2
def sp_less (K : PySem.W.Frag) (mg : Str → Option Value) : Sp := fun vs H Q E => ∃ (a b c : Addr) (rs bs cs : List Int), vs = [.ref a, .ref b, .ref c] ∧ SqL K H a (rs.map V.int) ∧ SqL K H b (bs.map V.int) ∧ SqL K H c (cs.map V.int) ∧
  Two mg H E rs bs cs ((W rs cs ≤ W rs bs → TellL H Q ((D rs (W rs bs - W rs cs)).map V.int)) ∧ (W rs bs < W rs cs → Raise mg "NoLess" H E))
section
variable {P : Program} {w : World} {K : PySem.W.Frag} {mg : Str → Option Value} {base : Heap}
theorem ok_less {f : Addr} {fd : FuncData} (F : Fun K "less" "less" s_less f fd) (B : Bi mg) (e_NoLess : Er K mg "NoLess") (c_worth : Callee P w K mg base 3 "worth" ["ratios", "board"] (sp_worth K mg)) (c_board_of : Callee P w K mg base 2 "board_of" ["ratios", "number"] (sp_board_of K mg)) :
    FnOk P w K mg base (L2.CX P w) 4 f fd ["ratios", "one", "other"] (sp_less K mg) := by
  refine F.okX sc_less (fun vs H Q E h => ?_) (fun cdv A outer s H vs Q E hr h => ?_)
  · obtain ⟨a, b, c, rs, bs, cs, rfl, _⟩ := h
    rfl
  · obtain ⟨a, b, c, rs, bs, cs, rfl, hA, hB, hC, k, kF, kB⟩ := h
    have tk : Takes (cxOf (L2.CX P w) P w K mg base N_less "less" (defScope s_less) f cdv A outer s H E) (fun cls d _ H => E cls d H) := takes_of rfl rfl rfl rfl
    refine ⟨_, (pss_cons (ps_set (i := 3) sc_less.nd rfl (Or.inl rfl) (pe_op op_sub (pe_f c_worth hr (by decide) tk (pa_cons (pv 0) (pa_cons (pv 1) pa_nil))) (pe_f c_worth hr (by decide) tk (pa_cons (pv 0) (pa_cons (pv 2) pa_nil)))))
  (pss_cons (ps_if (pt_cmpR op_lt (pv 3) pe_int (nomark _)) (pss_one (ps_raise rfl tk (pmk_own PySem.F.excBase_ValueError e_NoLess.xP e_NoLess.gC e_NoLess.kP (raises_own e_NoLess.bP e_NoLess.tP) (by rfl)))) pss_nil)
  (pss_one (ps_ret (pe_f c_board_of hr (by decide) tk (pa_cons (pv 0) (pa_cons (pv 3) pa_nil))))))), ?_⟩
    refine ⟨_, rfl, _, rfl, a, b, rs, bs, rfl, hA, hB, fun g gb => ?_, kF, kB⟩
    obtain ⟨sb, k1, k2⟩ := k g gb
    refine ⟨sb, fun H1 s1 => ?_⟩
    refine ⟨_, rfl, _, rfl, a, c, rs, cs, rfl, s1.seq hA, s1.seq hC, fun _ gc => ?_, fun z => absurd g z, fun _ z => k2 z H1 s1⟩
    obtain ⟨sc, k3, k4⟩ := k1 gc
    refine ⟨sc, fun H2 s2 => ?_⟩
    have s02 := s1.trans s2
    refine ⟨_, _, rfl, rfl, _, rfl, _, _, rfl, rfl, _, rfl, ite2 (fun e => ?_) (fun e => ?_)⟩
    · have := of_decide_eq_true e
      exact k4 (by omega) H2 s02
    · have e' : ¬ (W rs bs - W rs cs < 0) := fun z => e (decide_eq_true z)
      refine ⟨_, rfl, _, rfl, a, _, rs, rfl, s02.seq hA, fun _ _ H3 p3 s3 n3 e3 => k3 (by omega) H3 p3 (s02.trans s3) (s02.free n3) e3, fun z => absurd g z, fun _ z => absurd (show 0 ≤ W rs bs - W rs cs by omega) z⟩
end
end CB
namespace CB
open PySem PySem.Spec PyProof.Rows L2
abbrev s_times : Stmt := top 20
abbrev N_times : List Str := ["ratios", "board", "number"]
theorem sc_times : FnScope N_times ["ratios", "board", "number"] (defScope s_times) := ⟨rfl, rfl, rfl, by decide +kernel, rfl, by decide +kernel, by decide +kernel⟩
end CB

namespace CB
open PySem PySem.Spec PyProof.Rows L2
def sp_times (K : PySem.W.Frag) (mg : Str → Option Value) : Sp := fun vs H Q E => ∃ (a b : Addr) (rs bs : List Int) (n : Int), vs = [.ref a, .ref b, .int n] ∧ SqL K H a (rs.map V.int) ∧ SqL K H b (bs.map V.int) ∧
  (GF rs → GB rs bs → (0 ≤ n → BS bs ∧ n < 2 ^ 200 ∧ TellL H Q ((D rs (W rs bs * n)).map V.int)) ∧ (¬ 0 ≤ n → E (.ref (ErA mg "NoNumber")) none H)) ∧ (¬ GF rs → E (.ref (ErA mg "NoFrame")) none H) ∧ (GF rs → ¬ GB rs bs → E (.ref (ErA mg "NoBoard")) none H)
section
variable {P : Program} {w : World} {K : PySem.W.Frag} {mg : Str → Option Value} {base : Heap}
theorem ok_times {f : Addr} {fd : FuncData} (F : Fun K "times" "times" s_times f fd) (B : Bi mg) (e_NoNumber : Er K mg "NoNumber") (c_asked_board : Callee P w K mg base 2 "asked_board" ["ratios", "board"] (sp_asked_board K mg))
    (c_worth : Callee P w K mg base 3 "worth" ["ratios", "board"] (sp_worth K mg)) (c_board_of : Callee P w K mg base 2 "board_of" ["ratios", "number"] (sp_board_of K mg)) :
    FnOk P w K mg base (L2.CX P w) 4 f fd ["ratios", "board", "number"] (sp_times K mg) := by
  refine F.okX sc_times (fun vs H Q E h => ?_) (fun cdv A outer s H vs Q E hr h => ?_)
  · obtain ⟨a, b, rs, bs, n, rfl, _⟩ := h
    rfl
  · obtain ⟨a, b, rs, bs, n, rfl, hA, hB, k, kF, kB⟩ := h
    have tk : Takes (cxOf (L2.CX P w) P w K mg base N_times "times" (defScope s_times) f cdv A outer s H E) (fun cls d _ H => E cls d H) := takes_of rfl rfl rfl rfl
    refine ⟨_, (pss_cons (ps_expr (pe_f c_asked_board hr (by decide) tk (pa_cons (pv 0) (pa_cons (pv 1) pa_nil))))
  (pss_cons (ps_if (pt_cmpR op_lt (pv 2) pe_int (nomark _)) (pss_one (ps_raise rfl tk (pmk_own PySem.F.excBase_ValueError e_NoNumber.xP e_NoNumber.gC e_NoNumber.kP (raises_own e_NoNumber.bP e_NoNumber.tP) (by rfl)))) pss_nil)
  (pss_one (ps_ret (pe_f c_board_of hr (by decide) tk (pa_cons (pv 0) (pa_cons (pe_op op_mulW (pe_f c_worth hr (by decide) tk (pa_cons (pv 0) (pa_cons (pv 1) pa_nil))) (pv 2)) pa_nil))))))), ?_⟩
    refine ⟨_, rfl, _, rfl, a, b, rs, bs, rfl, hA, hB, fun g gb => ?_, kF, kB⟩
    obtain ⟨k1, k2⟩ := k g gb
    refine ⟨_, rfl, _, _, rfl, rfl, _, rfl, ite2 (fun e => k2 (by have := of_decide_eq_true e; omega)) (fun e => ?_)⟩
    have h0 : 0 ≤ n := by
      have : ¬ n < 0 := fun q => e (decide_eq_true q)
      omega
    obtain ⟨sb, hn, kk⟩ := k1 h0
    obtain ⟨w0, w1⟩ := W_small g gb.2 sb
    refine ⟨_, rfl, _, rfl, _, rfl, a, b, rs, bs, rfl, hA, hB, fun _ _ => ⟨sb, fun H1 s1 => ?_⟩, fun z => absurd g z, fun _ z => absurd gb z⟩
    refine ⟨_, rfl, _, _, rfl, rfl, wide_mul (a := 250) (b := 200) (abs_lt_pow w0 w1) (abs_lt_pow h0 hn) (by decide) (by decide) (by decide), ?_⟩
    exact ⟨a, _, rs, rfl, s1.seq hA, fun _ _ H3 p3 s3 n3 e3 => kk H3 p3 (s1.trans s3) (s1.free n3) e3, fun z => absurd g z, fun _ z => absurd (Int.mul_nonneg w0 h0) z⟩
end
end CB
namespace CB
open PySem PySem.Spec PyProof.Rows L2
abbrev s_law_word_of : Stmt := top 29
abbrev N_law_word_of : List Str := ["e", "kinds"]
theorem sc_law_word_of : FnScope N_law_word_of ["e"] (defScope s_law_word_of) := ⟨rfl, rfl, rfl, by decide +kernel, rfl, by decide +kernel, by decide +kernel⟩
end CB

namespace CB
open PySem PySem.Spec PyProof.Rows L2
/-! ### the word for the class of what was refused -/
def clsL : List Str := ["NoFrame", "NoBoard", "NoNumber", "NoStep", "NoWay", "TooLong", "NoLess", "NoNote"]
def wordL : List Str := ["frame", "board", "number", "step", "kind", "long", "less", "note"]
theorem er_g {mg : Str → Option Value} {x : Str} {C : Addr} (g : mg x = some (.ref C)) : mg x = some (.ref (ErA mg x)) := by
  have e : ErA mg x = C := by unfold ErA; rw [g]
  rw [e]; exact g
/-- D is the class of the n-th refusals, and of no others -/
structure Wd (K : PySem.W.Frag) (mg : Str → Option Value) (D : Addr) (n : Nat) : Prop where
  C : ExcC K D
  lt : n < 8
  is : ∀ i x, clsL[i]? = some x → PySem.W.kitOne K (.ref D) (.ref (ErA mg x)) = some (decide (i = n))
  ve : PySem.W.kitOne K (.ref D) (.type "ValueError") = some true
  bd : PySem.W.exmOne K (.ref D) (.ref (ErA mg "BoardError")) = some true
theorem wd_mk {K : PySem.W.Frag} {mg : Str → Option Value} {x : Str} {n : Nat} {D c0 c1 c2 c3 c4 c5 c6 c7 cb : Addr} (gx : mg x = some (.ref D)) (C : ExcC K D) (g0 : mg "NoFrame" = some (.ref c0)) (g1 : mg "NoBoard" = some (.ref c1)) (g2 : mg "NoNumber" = some (.ref c2))
    (g3 : mg "NoStep" = some (.ref c3)) (g4 : mg "NoWay" = some (.ref c4)) (g5 : mg "TooLong" = some (.ref c5)) (g6 : mg "NoLess" = some (.ref c6)) (g7 : mg "NoNote" = some (.ref c7)) (gb : mg "BoardError" = some (.ref cb))
    (q0 : PySem.W.kitOne K (.ref D) (.ref c0) = some (decide (0 = n))) (q1 : PySem.W.kitOne K (.ref D) (.ref c1) = some (decide (1 = n))) (q2 : PySem.W.kitOne K (.ref D) (.ref c2) = some (decide (2 = n))) (q3 : PySem.W.kitOne K (.ref D) (.ref c3) = some (decide (3 = n)))
    (q4 : PySem.W.kitOne K (.ref D) (.ref c4) = some (decide (4 = n))) (q5 : PySem.W.kitOne K (.ref D) (.ref c5) = some (decide (5 = n))) (q6 : PySem.W.kitOne K (.ref D) (.ref c6) = some (decide (6 = n))) (q7 : PySem.W.kitOne K (.ref D) (.ref c7) = some (decide (7 = n)))
    (qv : PySem.W.kitOne K (.ref D) (.type "ValueError") = some true) (qb : PySem.W.exmOne K (.ref D) (.ref cb) = some true) (lt : n < 8 := by decide) : Wd K mg (ErA mg x) n := by
  have ea : ∀ {y : Str} {c : Addr}, mg y = some (.ref c) → ErA mg y = c := fun {y c} g => by unfold ErA; rw [g]
  rw [ea gx]
  refine ⟨C, lt, fun i y hy => ?_, qv, by rw [ea gb]; exact qb⟩
  match i, hy with
  | 0, h => cases h; rw [ea g0]; exact q0
  | 1, h => cases h; rw [ea g1]; exact q1
  | 2, h => cases h; rw [ea g2]; exact q2
  | 3, h => cases h; rw [ea g3]; exact q3
  | 4, h => cases h; rw [ea g4]; exact q4
  | 5, h => cases h; rw [ea g5]; exact q5
  | 6, h => cases h; rw [ea g6]; exact q6
  | 7, h => cases h; rw [ea g7]; exact q7
  | k + 8, h => cases h
def sp_law_word_of (K : PySem.W.Frag) (mg : Str → Option Value) : SpE := fun a D vs H Q _ => ∃ n, Wd K mg D n ∧ vs = [.ref a] ∧ TellV H Q (.str (wordL.getD n ""))
def kindL (n : Nat) : List V := [.bl (decide (0 = n)), .bl (decide (1 = n)), .bl (decide (2 = n)), .bl (decide (3 = n))] ++ [.bl (decide (4 = n)), .bl (decide (5 = n)), .bl (decide (6 = n)), .bl (decide (7 = n))]
theorem kind_flat (n : Nat) : (kindL n).all flatV = true := rfl
theorem kind_at : ∀ n, n < 8 → (kindL n)[n]? = some (.bl true) := by
  intro n h
  match n, h with
  | 0, _ => rfl
  | 1, _ => rfl
  | 2, _ => rfl
  | 3, _ => rfl
  | 4, _ => rfl
  | 5, _ => rfl
  | 6, _ => rfl
  | 7, _ => rfl
  | k + 8, h => omega
theorem kind_count : ∀ n, n < 8 → (kindL n).countP (fun z => eqV z (.bl true)) = 1 := by
  intro n h
  match n, h with
  | 0, _ => rfl
  | 1, _ => rfl
  | 2, _ => rfl
  | 3, _ => rfl
  | 4, _ => rfl
  | 5, _ => rfl
  | 6, _ => rfl
  | 7, _ => rfl
  | k + 8, h => omega
theorem kind_get (n : Nat) : ∀ m z, (kindL n)[m]? = some z → z = V.bl (decide (m = n)) := by
  intro m z h
  match m, h with
  | 0, h => cases h; rfl
  | 1, h => cases h; rfl
  | 2, h => cases h; rfl
  | 3, h => cases h; rfl
  | 4, h => cases h; rfl
  | 5, h => cases h; rfl
  | 6, h => cases h; rfl
  | 7, h => cases h; rfl
  | k + 8, h => cases h
theorem word_at : ∀ n, n < 8 → (wordL.map V.str)[n]? = some (.str (wordL.getD n "")) := by
  intro n h
  match n, h with
  | 0, _ => rfl
  | 1, _ => rfl
  | 2, _ => rfl
  | 3, _ => rfl
  | 4, _ => rfl
  | 5, _ => rfl
  | 6, _ => rfl
  | 7, _ => rfl
  | k + 8, h => omega
section
variable {P : Program} {w : World} {K : PySem.W.Frag} {mg : Str → Option Value} {base : Heap}
theorem ok_law_word_of {f : Addr} {fd : FuncData} (F : Fun K "_law_word_of" "_law_word_of" s_law_word_of f fd) (B : Bi mg) (e_NoFrame : Er K mg "NoFrame") (e_NoBoard : Er K mg "NoBoard") (e_NoNumber : Er K mg "NoNumber") (e_NoStep : Er K mg "NoStep")
    (e_NoWay : Er K mg "NoWay") (e_TooLong : Er K mg "TooLong") (e_NoLess : Er K mg "NoLess") (e_NoNote : Er K mg "NoNote") : FnE P w K mg base 1 f fd ["e"] (sp_law_word_of K mg) := by
  refine fun_okE F sc_law_word_of (fun a D vs H Q E h => ?_) (fun cdv A outer s H vs Q E p D hex hr h => ?_)
  · obtain ⟨n, _, rfl, _⟩ := h; rfl
  · obtain ⟨a, oe⟩ := p
    obtain ⟨n, hW, rfl, h⟩ := h
    obtain ⟨hz, hf⟩ := hex
    have hn := hW.lt
    refine ⟨_, (pss_cons (ps_set (i := 1) sc_law_word_of.nd rfl (Or.inl rfl) (pe_lst (pa_cons (pe_callB (call_isP List.mem_cons_self hW.C hz hf) (by rfl) B.isinstance (by decide +kernel) (pa_cons (pv 0) (pa_cons (pe_glob (v := .ref (ErA mg "NoFrame")) (by rfl) e_NoFrame.gC rfl) pa_nil))) (pa_cons (pe_callB (call_isP List.mem_cons_self hW.C hz hf) (by rfl) B.isinstance (by decide +kernel) (pa_cons (pv 0) (pa_cons (pe_glob (v := .ref (ErA mg "NoBoard")) (by rfl) e_NoBoard.gC rfl) pa_nil))) (pa_cons (pe_callB (call_isP List.mem_cons_self hW.C hz hf) (by rfl) B.isinstance (by decide +kernel) (pa_cons (pv 0) (pa_cons (pe_glob (v := .ref (ErA mg "NoNumber")) (by rfl) e_NoNumber.gC rfl) pa_nil))) (pa_cons (pe_callB (call_isP List.mem_cons_self hW.C hz hf) (by rfl) B.isinstance (by decide +kernel) (pa_cons (pv 0) (pa_cons (pe_glob (v := .ref (ErA mg "NoStep")) (by rfl) e_NoStep.gC rfl) pa_nil))) pa_nil))))))
  (pss_cons (ps_set (i := 1) sc_law_word_of.nd rfl (Or.inl rfl) (pe_op op_cat (pv 1) (pe_lst (pa_cons (pe_callB (call_isP List.mem_cons_self hW.C hz hf) (by rfl) B.isinstance (by decide +kernel) (pa_cons (pv 0) (pa_cons (pe_glob (v := .ref (ErA mg "NoWay")) (by rfl) e_NoWay.gC rfl) pa_nil))) (pa_cons (pe_callB (call_isP List.mem_cons_self hW.C hz hf) (by rfl) B.isinstance (by decide +kernel) (pa_cons (pv 0) (pa_cons (pe_glob (v := .ref (ErA mg "TooLong")) (by rfl) e_TooLong.gC rfl) pa_nil))) (pa_cons (pe_callB (call_isP List.mem_cons_self hW.C hz hf) (by rfl) B.isinstance (by decide +kernel) (pa_cons (pv 0) (pa_cons (pe_glob (v := .ref (ErA mg "NoLess")) (by rfl) e_NoLess.gC rfl) pa_nil))) (pa_cons (pe_callB (call_isP List.mem_cons_self hW.C hz hf) (by rfl) B.isinstance (by decide +kernel) (pa_cons (pv 0) (pa_cons (pe_glob (v := .ref (ErA mg "NoNote")) (by rfl) e_NoNote.gC rfl) pa_nil))) pa_nil)))))))
  (pss_cons (ps_if (pw_or (pt_cmpR op_ne (pe_bm PySem.F.plainAttrs_list PySem.F.slot_list_count PySem.F.type_list_count mt_countV (pv 1) (pa_cons pe_bl pa_nil)) pe_int (nomark _)) (pw_or1 (pt_not (pt_val (pe_callB (call_isP List.mem_cons_self hW.C hz hf) (by rfl) B.isinstance (by decide +kernel) (pa_cons (pv 0) (pa_cons (pe_bltn (v := .ty "ValueError") (by rfl) B.ValueError (by decide +kernel) rfl) pa_nil))))))).pt (pss_one (ps_ret pe_str)) pss_nil)
  (pss_one (ps_ret (pe_ix ix_list (pe_lst (pa_cons pe_str (pa_cons pe_str (pa_cons pe_str (pa_cons pe_str (pa_cons pe_str (pa_cons pe_str (pa_cons pe_str (pa_cons pe_str pa_nil))))))))) (pe_bm PySem.F.plainAttrs_list PySem.F.slot_list_index PySem.F.type_list_index mt_index (pv 1) (pa_cons pe_bl pa_nil)) (fun _ _ => rfl))))))), ?_⟩
    refine ⟨_, rfl, _, _, _, rfl, fun u r => r, hW.is 0 _ rfl, _, rfl, _, _, _, rfl, fun u r => r, hW.is 1 _ rfl, _, rfl, _, _, _, rfl, fun u r => r, hW.is 2 _ rfl, _, rfl, _, _, _, rfl, fun u r => r, hW.is 3 _ rfl, by show 4 ≤ sizeLine; decide, fun l nl => ?_⟩
    have hl : upd H l (.lst [.bl (decide (0 = n)), .bl (decide (1 = n)), .bl (decide (2 = n)), .bl (decide (3 = n))]) l = some (.lst [.bl (decide (0 = n)), .bl (decide (1 = n)), .bl (decide (2 = n)), .bl (decide (3 = n))]) := upd_same
    have s1 := same_upd (o := .lst [.bl (decide (0 = n)), .bl (decide (1 = n)), .bl (decide (2 = n)), .bl (decide (3 = n))]) nl
    generalize upd H l (.lst [.bl (decide (0 = n)), .bl (decide (1 = n)), .bl (decide (2 = n)), .bl (decide (3 = n))]) = H1 at hl s1
    refine ⟨_, rfl, _, rfl, _, _, _, rfl, fun u r => r, hW.is 4 _ rfl, _, rfl, _, _, _, rfl, fun u r => r, hW.is 5 _ rfl, _, rfl, _, _, _, rfl, fun u r => r, hW.is 6 _ rfl, _, rfl, _, _, _, rfl, fun u r => r, hW.is 7 _ rfl, by show 4 ≤ sizeLine; decide, fun m nm => ?_⟩
    have s2 := same_upd (o := .lst [.bl (decide (4 = n)), .bl (decide (5 = n)), .bl (decide (6 = n)), .bl (decide (7 = n))]) nm
    refine ⟨l, m, _, _, rfl, rfl, s2 _ _ hl, upd_same, by show 4 + 4 ≤ sizeLine; decide, fun k nk => ?_⟩
    have s3 := same_upd (o := .lst (kindL n)) nk
    have hk : upd (upd H1 m (.lst [.bl (decide (4 = n)), .bl (decide (5 = n)), .bl (decide (6 = n)), .bl (decide (7 = n))])) k (.lst (kindL n)) k = some (.lst (kindL n)) := upd_same
    have s4 := (s1.trans s2).trans s3
    show tSeq _ _ _ _ (upd (upd H1 m (.lst [.bl (decide (4 = n)), .bl (decide (5 = n)), .bl (decide (6 = n)), .bl (decide (7 = n))])) k (.lst (kindL n)))
    generalize upd (upd H1 m (.lst [.bl (decide (4 = n)), .bl (decide (5 = n)), .bl (decide (6 = n)), .bl (decide (7 = n))])) k (.lst (kindL n)) = H2 at hk s4
    refine ⟨_, rfl, .inl ⟨rfl, _, SqL.of hk⟩, _, _, .bl true, rfl, rfl, SqL.of hk, rfl, kind_flat n, ?_⟩
    rw [kind_count n hn]
    refine ⟨rfl, _, rfl, ite_f rfl ?_⟩
    refine ⟨_, rfl, _, _, _, rfl, fun u r => r, hW.ve, _, rfl, ite_f rfl ?_⟩
    refine ⟨by show 8 ≤ sizeLine; decide, fun r nr => ?_⟩
    have s5 := same_upd (o := .lst (wordL.map V.str)) nr
    refine ⟨_, rfl, .inl ⟨rfl, _, SqL.of (s5 _ _ hk)⟩, _, _, .bl true, n, _, rfl, rfl, SqL.of (s5 _ _ hk), rfl, kind_flat n, kind_at n hn, rfl, fun m z hm hz => ?_, ?_⟩
    · rw [kind_get n m z hz, decide_eq_false (by omega)]
      rfl
    · refine ⟨r, _, _, _, rfl, rfl, SqL.of (upd_same (o := .lst (wordL.map V.str))), atI_nat (word_at n hn), ?_⟩
      exact h _ (s4.trans s5)
end
end CB
namespace CB
open PySem PySem.Spec PyProof.Rows L2
abbrev s_law_cell_at : Stmt := top 22
abbrev N_law_cell_at : List Str := ["script", "k"]
theorem sc_law_cell_at : FnScope N_law_cell_at ["script", "k"] (defScope s_law_cell_at) := ⟨rfl, rfl, rfl, by decide +kernel, rfl, by decide +kernel, by decide +kernel⟩
end CB

namespace CB
open PySem PySem.Spec PyProof.Rows L2
def cell (ns : List Int) (k : Int) : Int := ns.getD k.toNat 0
def sp_law_cell_at (K : PySem.W.Frag) (_ : Str → Option Value) : Sp := fun vs H Q _ => ∃ (a : Addr) (ns : List Int) (k : Int), vs = [.ref a, .int k] ∧ SqL K H a (ns.map V.int) ∧ 0 ≤ k ∧ Q (.int (cell ns k)) H
section
variable {P : Program} {w : World} {K : PySem.W.Frag} {mg : Str → Option Value} {base : Heap}
theorem ok_law_cell_at {f : Addr} {fd : FuncData} (F : Fun K "_law_cell_at" "_law_cell_at" s_law_cell_at f fd) (B : Bi mg) : FnOk P w K mg base (L2.CX P w) 1 f fd ["script", "k"] (sp_law_cell_at K mg) := by
  refine F.okX sc_law_cell_at (fun vs H Q E h => ?_) (fun cdv A outer s H vs Q E hr h => ?_)
  · obtain ⟨a, ns, k, rfl, _⟩ := h
    rfl
  · obtain ⟨a, ns, k, rfl, hS, h0, q⟩ := h
    refine ⟨_, (pss_cons (ps_if (pt_cmpR op_lt (pv 1) (pe_callB call_len_seq (by rfl) B.len PySem.boot_len (pa_cons (pv 0) pa_nil)) (nomark _)) (pss_one (ps_ret (pe_ix ix_list (pv 0) (pv 1) (fun _ _ => rfl)))) pss_nil)
  (pss_one (ps_ret pe_int))), ?_⟩
    refine ⟨_, rfl, _, rfl, a, _, rfl, .inl hS, _, _, rfl, rfl, _, rfl, ite2 (fun e => ?_) (fun e => ?_)⟩
    · have e1 := of_decide_eq_true e
      rw [List.length_map] at e1
      have hk : k.toNat < ns.length := by omega
      refine ⟨_, rfl, _, rfl, a, _, _, .int (cell ns k), rfl, rfl, hS, ?_, q⟩
      refine at_of (j := k.toNat) (by omega) (map_get ?_)
      unfold cell
      rw [List.getElem?_eq_getElem hk, List.getD_eq_getElem?_getD, List.getElem?_eq_getElem hk]
      all_goals rfl
    · have hk : ¬ k.toNat < ns.length := fun z => e (decide_eq_true (by rw [List.length_map]; omega))
      have e0 : cell ns k = 0 := by
        unfold cell
        rw [List.getD_eq_getElem?_getD, List.getElem?_eq_none (by omega)]
        all_goals rfl
      rw [e0] at q
      exact q
end
end CB
namespace CB
open PySem PySem.Spec PyProof.Rows L2
abbrev s_law_whole : Stmt := top 23
abbrev N_law_whole : List Str := ["found"]
theorem sc_law_whole : FnScope N_law_whole ["found"] (defScope s_law_whole) := ⟨rfl, rfl, rfl, by decide +kernel, rfl, by decide +kernel, by decide +kernel⟩
end CB

namespace CB
open PySem PySem.Spec PyProof.Rows L2
def sp_law_whole (_ : PySem.W.Frag) (_ : Str → Option Value) : Sp := fun vs H Q _ => ∃ (k : Int), vs = [.int k] ∧ Q (.bl true) H
section
variable {P : Program} {w : World} {K : PySem.W.Frag} {mg : Str → Option Value} {base : Heap}
theorem ok_law_whole {f : Addr} {fd : FuncData} (F : Fun K "_law_whole" "_law_whole" s_law_whole f fd) (B : Bi mg) : FnOk P w K mg base (L2.CX P w) 1 f fd ["found"] (sp_law_whole K mg) := by
  refine F.okX sc_law_whole (fun vs H Q E h => ?_) (fun cdv A outer s H vs Q E hr h => ?_)
  · obtain ⟨k, rfl, _⟩ := h
    rfl
  · obtain ⟨k, rfl, q⟩ := h
    refine ⟨_, (pss_one (ps_ret (pe_and (pe_callB call_isi (by rfl) B.isinstance (by decide +kernel) (pa_cons (pv 0) (pa_cons (pe_bltn (v := .ty "int") (by rfl) B.int (by decide +kernel) rfl) pa_nil))) (pe_one (pe_not (pe_callB call_isi (by rfl) B.isinstance (by decide +kernel) (pa_cons (pv 0) (pa_cons (pe_bltn (v := .ty "bool") (by rfl) B.bool (by decide +kernel) rfl) pa_nil)))))))), ?_⟩
    refine ⟨_, rfl, _, _, .type "int", _, true, rfl, .ty _, .base (.int _), kit_ty (by decide +kernel), _, rfl, ite_t rfl ?_⟩
    exact ⟨_, rfl, _, _, .type "int", _, false, rfl, .ty _, .base (.int _), kit_ty (by decide +kernel), _, rfl, q⟩
end
end CB
namespace CB
open PySem PySem.Spec PyProof.Rows L2
abbrev s_law_frame_by : Stmt := top 24
abbrev N_law_frame_by : List Str := ["script", "lines", "k"]
theorem sc_law_frame_by : FnScope N_law_frame_by ["script"] (defScope s_law_frame_by) := ⟨rfl, rfl, rfl, by decide +kernel, rfl, by decide +kernel, by decide +kernel⟩
end CB

namespace CB
open PySem PySem.Spec PyProof.Rows L2
def sp_law_frame_by (K : PySem.W.Frag) (_ : Str → Option Value) : Sp := fun vs H Q _ => ∃ (a : Addr) (ns : List Int), vs = [.ref a] ∧ SqL K H a (ns.map V.int) ∧ ∀ rs : List Int, GF rs → TellL H Q (rs.map V.int)
section
variable {P : Program} {w : World} {K : PySem.W.Frag} {mg : Str → Option Value} {base : Heap}
theorem ok_law_frame_by {f : Addr} {fd : FuncData} (F : Fun K "_law_frame_by" "_law_frame_by" s_law_frame_by f fd) (B : Bi mg) (c_law_cell_at : Callee P w K mg base 1 "_law_cell_at" ["script", "k"] (sp_law_cell_at K mg)) :
    FnOk P w K mg base (L2.CX P w) 2 f fd ["script"] (sp_law_frame_by K mg) := by
  refine F.okX sc_law_frame_by (fun vs H Q E h => ?_) (fun cdv A outer s H vs Q E hr h => ?_)
  · obtain ⟨a, ns, rfl, _⟩ := h
    rfl
  · obtain ⟨a, ns, rfl, hS, k⟩ := h
    refine ⟨_, (pss_cons (ps_set (i := 1) sc_law_frame_by.nd rfl (Or.inl rfl) (pe_op op_mod (pe_f c_law_cell_at hr (by decide) takes0 (pa_cons (pv 0) (pa_cons pe_int pa_nil))) pe_int))
  (pss_cons (ps_if (pt_cmpR op_eq (pe_op op_mod (pe_op op_fdiv (pe_f c_law_cell_at hr (by decide) takes0 (pa_cons (pv 0) (pa_cons pe_int pa_nil))) pe_int) pe_int) pe_int (nomark _)) (pss_one (ps_set (i := 1) sc_law_frame_by.nd rfl (Or.inl rfl) (pe_op op_mod (pe_op op_fdiv (pe_f c_law_cell_at hr (by decide) takes0 (pa_cons (pv 0) (pa_cons pe_int pa_nil))) pe_int) pe_int))) pss_nil)
  (pss_one (ps_ret (pe_lc (own := [("k", 2)]) (g := gName 2) (tt := tYes) rfl sc_law_frame_by.nd (pi_range1 (by rfl) B.range (pa_cons (pv 1) pa_nil)) (blkOk_by (own := [("k", 2)]) (N := N_law_frame_by) (sc := defScope s_law_frame_by) (by decide +kernel)) (fun _ _ _ _ _ => pg_name (i := 2) sc_law_frame_by.nd rfl (Or.inl rfl)) (fun _ _ _ _ _ => pts_nil) (fun _ _ _ _ _ => (pe_op op_add pe_int (pe_op op_mod (pe_f c_law_cell_at hr (by decide) takes0 (pa_cons (pv 0) (pa_cons (pe_op op_add pe_int (pv 2)) pa_nil))) pe_int)))))))), ?_⟩
    -- the tail, whatever lines is
    have tail : ∀ (z : Int), 0 ≤ z → z ≤ 11 → tRet (tLc (iRng1 (tCons (tVar 1) tNil)) (gName 2) tYes (tOp (rI0 fun i j => .int (i + j)) (tC (.int 2)) (tOp (rI (fun _ j => 0 < j) fun i j => .int (i % j)) (tCallS (sp_law_cell_at K mg) (WE fun _ _ _ _ => False) (tCons (tVar 0) (tCons (tOp (rI0 fun i j => .int (i + j)) (tC (.int 2)) (tVar 2)) tNil))) (tC (.int 11)))) [2])
        { nx := fun _ H' => Q .non H', rt := Q } [some (.ref a), some (.int z), none] H := by
      intro z h0 h1
      refine ⟨_, rfl, _, rfl, by omega, by omega, fun D hD => ?_⟩
      refine lc_range (lo := 0) (n := z.toNat) (fun i H' => Same H H' ∧ H' D = some (.lst (((List.range i).map fun j : Nat => 2 + cell ns (2 + (0 + (j : Int))) % 11).map V.int))) ⟨same_upd hD, upd_same⟩ ?_ ?_
      · rintro i H' hi ⟨sm, hD'⟩
        refine ⟨rfl, .ref a, rfl, _, rfl, _, _, rfl, rfl, a, ns, _, rfl, sm.seq hS, by omega, _, _, rfl, rfl, (show (0 : Int) < 11 by decide), _, _, rfl, rfl, _, hD', ?_, fun b o e => ?_, ?_⟩
        · rw [List.length_map, List.length_map, List.length_range]
          exact small64 (by omega)
        · rw [upd_ne (ne_of_none e hD)]
          exact sm b o e
        · rw [upd_same, List.range_succ, List.map_append, List.map_append]
          all_goals rfl
      · rintro H' ⟨sm, hD'⟩
        exact k _ (frame_gf (fun j => cell ns (2 + (0 + (j : Int)))) z.toNat (by omega)) H' D sm hD hD'
    refine ⟨.ref a, rfl, a, ns, 0, rfl, hS, by decide, _, _, rfl, rfl, (show (0 : Int) < 6 by decide), ?_⟩
    refine ⟨.ref a, rfl, a, ns, 0, rfl, hS, by decide, _, _, rfl, rfl, ⟨by decide, by decide⟩, _, _, rfl, rfl, (show (0 : Int) < 4 by decide), rfl, _, rfl, ite2 (fun _ => ?_) (fun _ => ?_)⟩
    · refine ⟨.ref a, rfl, a, ns, 0, rfl, hS, by decide, _, _, rfl, rfl, ⟨by decide, by decide⟩, _, _, rfl, rfl, (show (0 : Int) < 12 by decide), ?_⟩
      exact tail _ (by omega) (by omega)
    · exact tail _ (by omega) (by omega)
end
end CB
namespace CB
open PySem PySem.Spec PyProof.Rows L2
abbrev s_law_board_by : Stmt := top 25
abbrev N_law_board_by : List Str := ["script", "first", "ratios", "kind", "board", "k", "cell"]
theorem sc_law_board_by : FnScope N_law_board_by ["script", "first", "ratios", "kind"] (defScope s_law_board_by) := ⟨rfl, rfl, rfl, by decide +kernel, rfl, by decide +kernel, by decide +kernel⟩
end CB

namespace CB
open PySem PySem.Spec PyProof.Rows L2
def sp_law_board_by (K : PySem.W.Frag) (_ : Str → Option Value) : Sp := fun vs H Q _ => ∃ (a b : Addr) (ns rs : List Int) (first kind : Int), vs = [.ref a, .int first, .ref b, .int kind] ∧ SqL K H a (ns.map V.int) ∧ SqL K H b (rs.map V.int) ∧ rs.length ≤ 11 ∧ 0 ≤ first ∧
  ∀ bs : List Int, GB rs bs → (∀ x ∈ bs, x < 10 ^ 20) → TellL H Q (bs.map V.int)
section
variable {P : Program} {w : World} {K : PySem.W.Frag} {mg : Str → Option Value} {base : Heap}
theorem ok_law_board_by {f : Addr} {fd : FuncData} (F : Fun K "_law_board_by" "_law_board_by" s_law_board_by f fd) (B : Bi mg) (c_law_cell_at : Callee P w K mg base 1 "_law_cell_at" ["script", "k"] (sp_law_cell_at K mg)) :
    FnOk P w K mg base (L2.CX P w) 2 f fd ["script", "first", "ratios", "kind"] (sp_law_board_by K mg) := by
  refine F.okX sc_law_board_by (fun vs H Q E h => ?_) (fun cdv A outer s H vs Q E hr h => ?_)
  · obtain ⟨a, b, ns, rs, first, kind, rfl, _⟩ := h
    rfl
  · obtain ⟨a, b, ns, rs, first, kind, rfl, hA, hB, hl, h0, k⟩ := h
    refine ⟨_, (pss_cons (ps_set (i := 4) sc_law_board_by.nd rfl (Or.inl rfl) (pe_lst pa_nil))
  (pss_cons (ps_for (passes_of rfl) rfl (pi_range1 (by rfl) B.range (pa_cons (pe_op op_add (pe_callB call_len_seq (by rfl) B.len PySem.boot_len (pa_cons (pv 2) pa_nil)) pe_int) pa_nil)) (pg_name (i := 5) sc_law_board_by.nd rfl (Or.inl rfl)) (pss_cons (ps_set (i := 6) sc_law_board_by.nd rfl (Or.inl rfl) (pe_f c_law_cell_at hr (by decide) takes0 (pa_cons (pv 0) (pa_cons (pe_op op_add (pv 1) (pv 5)) pa_nil))))
  (pss_one (ps_if (pt_cmpR op_eq (pv 3) pe_int (nomark _)) (pss_one (ps_expr (pe_bm PySem.F.plainAttrs_list PySem.F.slot_list_append PySem.F.type_list_append mt_append (pv 4) (pa_cons (pe_op op_mod (pv 6) pe_int) pa_nil)))) (pss_one (ps_if (pt_cmpR op_eq (pv 3) pe_int (nomark _)) (pss_one (ps_expr (pe_bm PySem.F.plainAttrs_list PySem.F.slot_list_append PySem.F.type_list_append mt_append (pv 4) (pa_cons (pe_op op_mod (pv 6) (pe_op op_pow pe_int pe_int)) pa_nil)))) (pss_one (ps_if (pt_cmpR op_eq (pv 3) pe_int (nomark _)) (pss_one (ps_expr (pe_bm PySem.F.plainAttrs_list PySem.F.slot_list_append PySem.F.type_list_append mt_append (pv 4) (pa_cons (pe_op op_mod (pv 6) pe_int) pa_nil)))) (pss_one (ps_expr (pe_bm PySem.F.plainAttrs_list PySem.F.slot_list_append PySem.F.type_list_append mt_append (pv 4) (pa_cons (pe_op op_mod (pv 6) pe_int) pa_nil))))))))))))
  (pss_one (ps_ret (pv 4))))), ?_⟩
    refine ⟨by show 0 ≤ sizeLine; decide, fun p hp => ?_⟩
    refine ⟨_, rfl, b, _, rfl, .inl ((same_upd hp).seq hB), _, _, rfl, rfl, _, rfl, by rw [List.length_map]; omega, by rw [List.length_map]; omega, ?_⟩
    rw [List.length_map, show ((rs.length : Int) + 1).toNat = rs.length + 1 by omega]
    refine for_range (fun i σ H' => ∃ (v u : Option V) (bs : List Int), σ = [some (.ref a), some (.int first), some (.ref b), some (.int kind), some (.ref p), v, u] ∧ Same H H' ∧ H' p = some (.lst (bs.map V.int)) ∧ bs.length = i ∧ (∀ x ∈ bs, 0 ≤ x ∧ x < 10 ^ 20))
      ⟨none, none, [], rfl, same_upd hp, upd_same, rfl, fun x hx => nomatch hx⟩ ?_ ?_
    · rintro i σ H' hi ⟨v, u, bs, rfl, sm, hP, hbl, hb⟩
      refine ⟨_, rfl, _, rfl, _, rfl, _, _, rfl, rfl, a, ns, _, rfl, sm.seq hA, by omega, ?_⟩
      have fin : ∀ (x : Int) (σ' : L2.St), 0 ≤ x → x < 10 ^ 20 → σ' = [some (.ref a), some (.int first), some (.ref b), some (.int kind), some (.ref p), some (.int (0 + (i : Int))), some (.int (cell ns (first + (0 + (i : Int)))))] →
          ∃ (v u : Option V) (bs' : List Int), σ' = [some (.ref a), some (.int first), some (.ref b), some (.int kind), some (.ref p), v, u] ∧ Same H (upd H' p (.lst (bs.map V.int ++ [.int x]))) ∧ (upd H' p (.lst (bs.map V.int ++ [.int x]))) p = some (.lst (bs'.map V.int)) ∧ bs'.length = i + 1 ∧ (∀ x ∈ bs', 0 ≤ x ∧ x < 10 ^ 20) := by
        intro x σ' hx0 hx1 e
        refine ⟨_, _, bs ++ [x], e, fun c o q => ?_, by rw [upd_same, List.map_append]; rfl, by rw [List.length_append, hbl]; rfl, fun y hy => ?_⟩
        · rw [upd_ne (ne_of_none q hp)]
          exact sm _ _ q
        · rcases List.mem_append.mp hy with hy | hy
          · exact hb y hy
          · rw [List.mem_singleton.mp hy]
            exact ⟨hx0, hx1⟩
      have hsz : (bs.map V.int).length < sizeLine := by rw [List.length_map]; exact small64 (by omega)
      refine ⟨_, rfl, rfl, _, rfl, ite2 (fun _ => ?_) (fun _ => ?_)⟩
      · refine ⟨_, rfl, .inl ⟨rfl, _, SqL.of hP⟩, _, rfl, _, _, rfl, rfl, (show (0 : Int) < 40 by decide), p, _, _, rfl, rfl, hP, hsz, ?_⟩
        exact fin _ _ (by omega) (by omega) rfl
      · refine ⟨_, rfl, rfl, _, rfl, ite2 (fun _ => ?_) (fun _ => ?_)⟩
        · refine ⟨_, rfl, .inl ⟨rfl, _, SqL.of hP⟩, _, rfl, _, _, rfl, rfl, ⟨by decide, by decide, by decide⟩, _, _, rfl, rfl, (by decide : (0 : Int) < 10 ^ (20 : Int).toNat), p, _, _, rfl, rfl, hP, hsz, ?_⟩
          exact fin _ _ (Int.emod_nonneg _ (by decide)) (Int.emod_lt_of_pos _ (by decide)) rfl
        · refine ⟨_, rfl, rfl, _, rfl, ite2 (fun _ => ?_) (fun _ => ?_)⟩
          · refine ⟨_, rfl, .inl ⟨rfl, _, SqL.of hP⟩, _, rfl, _, _, rfl, rfl, (show (0 : Int) < 3 by decide), p, _, _, rfl, rfl, hP, hsz, ?_⟩
            exact fin _ _ (by omega) (by omega) rfl
          · refine ⟨_, rfl, .inl ⟨rfl, _, SqL.of hP⟩, _, rfl, _, _, rfl, rfl, (show (0 : Int) < 13 by decide), p, _, _, rfl, rfl, hP, hsz, ?_⟩
            exact fin _ _ (by omega) (by omega) rfl
    · rintro σ H' ⟨v, u, bs, rfl, sm, hP, hbl, hb⟩
      exact ⟨_, rfl, k bs ⟨hbl, fun x hx => (hb x hx).1⟩ (fun x hx => (hb x hx).2) H' p sm hp hP⟩
end
end CB
namespace CB
open PySem PySem.Spec PyProof.Rows L2
abbrev s_law_is_list : Stmt := top 28
abbrev N_law_is_list : List Str := ["found", "due", "k"]
theorem sc_law_is_list : FnScope N_law_is_list ["found", "due"] (defScope s_law_is_list) := ⟨rfl, rfl, rfl, by decide +kernel, rfl, by decide +kernel, by decide +kernel⟩
end CB

namespace CB
open PySem PySem.Spec PyProof.Rows L2
def sp_law_is_list (K : PySem.W.Frag) (_ : Str → Option Value) : Sp := fun vs H Q _ => ∃ (a b : Addr) (xs : List Int), vs = [.ref a, .ref b] ∧ H a = some (.lst (xs.map V.int)) ∧ SqL K H b (xs.map V.int) ∧ xs.length ≤ 100000 ∧ Q (.bl true) H
section
variable {P : Program} {w : World} {K : PySem.W.Frag} {mg : Str → Option Value} {base : Heap}
theorem ok_law_is_list {f : Addr} {fd : FuncData} (F : Fun K "_law_is_list" "_law_is_list" s_law_is_list f fd) (B : Bi mg) (c_law_whole : Callee P w K mg base 1 "_law_whole" ["found"] (sp_law_whole K mg)) :
    FnOk P w K mg base (L2.CX P w) 2 f fd ["found", "due"] (sp_law_is_list K mg) := by
  refine F.okX sc_law_is_list (fun vs H Q E h => ?_) (fun cdv A outer s H vs Q E hr h => ?_)
  · obtain ⟨a, b, xs, rfl, _⟩ := h
    rfl
  · obtain ⟨a, b, xs, rfl, hA, hB, hl, q⟩ := h
    refine ⟨_, (pss_cons (ps_if (pw_or (pt_not (pt_val (pe_callB call_isi (by rfl) B.isinstance (by decide +kernel) (pa_cons (pv 0) (pa_cons (pe_bltn (v := .ty "list") (by rfl) B.list (by decide +kernel) rfl) pa_nil))))) (pw_or1 (pt_cmpR op_ne (pe_callB call_len_seq (by rfl) B.len PySem.boot_len (pa_cons (pv 0) pa_nil)) (pe_callB call_len_seq (by rfl) B.len PySem.boot_len (pa_cons (pv 1) pa_nil)) (nomark _)))).pt (pss_one (ps_ret pe_bl)) pss_nil)
  (pss_cons (ps_for (passes_of rfl) rfl (pi_range1 (by rfl) B.range (pa_cons (pe_callB call_len_seq (by rfl) B.len PySem.boot_len (pa_cons (pv 1) pa_nil)) pa_nil)) (pg_name (i := 2) sc_law_is_list.nd rfl (Or.inl rfl)) (pss_one (ps_if (pw_or (pt_not (pt_val (pe_f c_law_whole hr (by decide) takes0 (pa_cons (pe_ix ix_list (pv 0) (pv 2) (fun _ _ => rfl)) pa_nil)))) (pw_or1 (pt_cmpR op_ne (pe_ix ix_list (pv 0) (pv 2) (fun _ _ => rfl)) (pe_ix ix_list (pv 1) (pv 2) (fun _ _ => rfl)) (nomark _)))).pt (pss_one (ps_ret pe_bl)) pss_nil)))
  (pss_one (ps_ret pe_bl)))), ?_⟩
    refine ⟨_, rfl, _, _, .type "list", _, true, rfl, .ty _, .base (.lst hA), kit_ty (by decide +kernel), _, rfl, ite_f rfl ?_⟩
    refine ⟨_, rfl, a, _, rfl, .inl (SqL.of hA), _, rfl, b, _, rfl, .inl hB, rfl, _, rfl, ite_f (by simp) ?_⟩
    refine ⟨_, rfl, b, _, rfl, .inl hB, _, rfl, by rw [List.length_map]; omega, by rw [List.length_map]; omega, ?_⟩
    rw [List.length_map, Int.toNat_natCast]
    refine for_range (fun i σ H' => H' = H ∧ ∃ v, σ = [some (.ref a), some (.ref b), v]) ⟨rfl, none, rfl⟩ ?_ ?_
    · rintro i σ H' hi ⟨rfl, v, rfl⟩
      have h0 : xs[i]? = some xs[i] := List.getElem?_eq_getElem hi
      have h1 : atI (xs.map V.int) (0 + (i : Int)) = some (.int xs[i]) := at_of (j := i) (by omega) (map_get h0)
      refine ⟨_, rfl, _, rfl, a, _, _, _, rfl, rfl, SqL.of hA, h1, _, rfl, _, rfl, ite_f rfl ?_⟩
      refine ⟨_, rfl, _, rfl, a, _, _, _, rfl, rfl, SqL.of hA, h1, _, rfl, _, rfl, b, _, _, _, rfl, rfl, hB, h1, rfl, _, rfl, ite_f (by simp) ?_⟩
      exact ⟨rfl, _, rfl⟩
    · rintro σ H' ⟨rfl, v, rfl⟩
      exact q
end
end CB
namespace CB
open PySem PySem.Spec PyProof.Rows L2
abbrev s_law_worth : Stmt := top 26
abbrev N_law_worth : List Str := ["ratios", "board", "total", "k"]
theorem sc_law_worth : FnScope N_law_worth ["ratios", "board"] (defScope s_law_worth) := ⟨rfl, rfl, rfl, by decide +kernel, rfl, by decide +kernel, by decide +kernel⟩
end CB

namespace CB
open PySem PySem.Spec PyProof.Rows L2
def sp_law_worth (K : PySem.W.Frag) (_ : Str → Option Value) : Sp := fun vs H Q _ => ∃ (a b : Addr) (rs bs : List Int), vs = [.ref a, .ref b] ∧ SqL K H a (rs.map V.int) ∧ SqL K H b (bs.map V.int) ∧
  GF rs ∧ GB rs bs ∧ BS bs ∧ Q (.int (W rs bs)) H
section
variable {P : Program} {w : World} {K : PySem.W.Frag} {mg : Str → Option Value} {base : Heap}
theorem ok_law_worth {f : Addr} {fd : FuncData} (F : Fun K "_law_worth" "_law_worth" s_law_worth f fd) (B : Bi mg) : FnOk P w K mg base (L2.CX P w) 1 f fd ["ratios", "board"] (sp_law_worth K mg) := by
  refine F.okX sc_law_worth (fun vs H Q E h => ?_) (fun cdv A outer s H vs Q E hr h => ?_)
  · obtain ⟨a, b, rs, bs, rfl, _⟩ := h
    rfl
  · obtain ⟨a, b, rs, bs, rfl, hA, hB, g, gb, hs, q⟩ := h
    refine ⟨_, (pss_cons (ps_set (i := 2) sc_law_worth.nd rfl (Or.inl rfl) pe_int)
  (pss_cons (ps_for (passes_of rfl) rfl (pi_revR (by rfl) B.reversed (prg_1 (by rfl) B.range (pe_callB call_len_seq (by rfl) B.len PySem.boot_len (pa_cons (pv 1) pa_nil)))) (pg_name (i := 3) sc_law_worth.nd rfl (Or.inl rfl)) (pss_one (ps_set (i := 2) sc_law_worth.nd rfl (Or.inl rfl) (pe_op op_add (pe_op op_mulW (pv 2) (pe_ifExp (pt_cmpR op_lt (pv 3) (pe_callB call_len_seq (by rfl) B.len PySem.boot_len (pa_cons (pv 0) pa_nil)) (nomark _)) (pe_ix ix_list (pv 0) (pv 3) (fun _ _ => rfl)) pe_int)) (pe_ix ix_list (pv 1) (pv 3) (fun _ _ => rfl))))))
  (pss_one (ps_ret (pv 2))))), ?_⟩
    have hn := gb.1
    have g11 := g.1
    refine ⟨_, rfl, b, _, rfl, .inl hB, _, rfl, by decide, by decide, by rw [List.length_map]; omega, by rw [List.length_map]; omega, ?_⟩
    rw [List.length_map, hn]
    rw [show (((rs.length + 1 : Nat) : Int) - 0).toNat = rs.length + 1 by omega]
    refine for_rangeC (fun i σ H' => ∃ (v : Option V), σ = [some (.ref a), some (.ref b), some (.int (W (rs.drop (rs.length + 1 - i)) (bs.drop (rs.length + 1 - i)))), v] ∧ H' = H)
      ⟨none, ?_, rfl⟩ ?_ ?_
    · have e1 : rs.drop (rs.length + 1 - 0) = [] := List.drop_eq_nil_of_le (by omega)
      have e2 : bs.drop (rs.length + 1 - 0) = [] := List.drop_eq_nil_of_le (by omega)
      rw [e1, e2]
      rfl
    · rintro i σ H' hi ⟨v, rfl, rfl⟩
      obtain ⟨k, hk⟩ : ∃ k, k = rs.length - i := ⟨_, rfl⟩
      have ek : rs.length + 1 - i = k + 1 := by omega
      have ek2 : rs.length + 1 - (i + 1) = k := by omega
      rw [ek, ek2]
      have ex : (0 + (((rs.length + 1 : Nat) : Int) - 0).toNat - 1 + ((i : Nat) : Int) * -1) = (k : Int) := by omega
      have ex' : (0 : Int) + ((rs.length + 1 : Nat) : Int) - 1 + ((i : Nat) : Int) * -1 = (k : Int) := by omega
      rw [ex']
      have hkb : k < bs.length := by omega
      have eb : bs.drop k = bs[k] :: bs.drop (k + 1) := List.drop_eq_getElem_cons hkb
      have hb : atI (bs.map V.int) (k : Int) = some (.int bs[k]) := atI_nat (map_get (List.getElem?_eq_getElem hkb))
      have w0 : 0 ≤ W (rs.drop (k + 1)) (bs.drop (k + 1)) ∧ W (rs.drop (k + 1)) (bs.drop (k + 1)) < 2 ^ 250 :=
        W_small ⟨by rw [List.length_drop]; omega, fun r hr => g.2 r (List.mem_of_mem_drop hr)⟩ (fun x hx => gb.2 x (List.mem_of_mem_drop hx)) (fun x hx => hs x (List.mem_of_mem_drop hx))
      refine ⟨_, rfl, _, rfl, _, rfl, a, _, rfl, .inl hA, _, _, rfl, rfl, _, rfl, ?_⟩
      rw [List.length_map]
      by_cases c : k < rs.length
      · have er : rs.drop k = rs[k] :: rs.drop (k + 1) := List.drop_eq_getElem_cons c
        have gz := g.2 rs[k] (List.getElem_mem c)
        refine ite_t (decide_eq_true (by omega)) ⟨_, rfl, _, rfl, a, _, _, _, rfl, rfl, hA, atI_nat (map_get (List.getElem?_eq_getElem c)), _, _, rfl, rfl, ?_, ?_⟩
        · exact wide_mul (a := 250) (b := 40) (abs_lt_pow w0.1 w0.2) (abs_lt_pow (by omega) (by omega)) (by decide) (by decide) (by decide)
        · refine ⟨_, rfl, _, rfl, b, _, _, _, rfl, rfl, hB, hb, _, _, rfl, rfl, some (.int (k : Int)), ?_, rfl⟩
          rw [er, eb]
          show [some (V.ref a), some (V.ref b), some (V.int (W (rs.drop (k + 1)) (bs.drop (k + 1)) * rs[k] + bs[k])), some (V.int (k : Int))] = [some (V.ref a), some (V.ref b), some (V.int (bs[k] + rs[k] * W (rs.drop (k + 1)) (bs.drop (k + 1)))), _]
          rw [Int.mul_comm rs[k], Int.add_comm]
      · have er : rs.drop k = [] := List.drop_eq_nil_of_le (by omega)
        have er' : rs.drop (k + 1) = [] := List.drop_eq_nil_of_le (by omega)
        have eb' : bs.drop (k + 1) = [] := List.drop_eq_nil_of_le (by omega)
        refine ite_f (decide_eq_false (by omega)) ⟨_, _, rfl, rfl, ?_, ?_⟩
        · exact wide_mul (a := 250) (b := 40) (abs_lt_pow w0.1 w0.2) (by decide) (by decide) (by decide) (by decide)
        · refine ⟨_, rfl, _, rfl, b, _, _, _, rfl, rfl, hB, hb, _, _, rfl, rfl, some (.int (k : Int)), ?_, rfl⟩
          rw [er, eb, er', eb']
          show [some (V.ref a), some (V.ref b), some (V.int (0 * 1 + bs[k])), some (V.int (k : Int))] = [some (V.ref a), some (V.ref b), some (V.int bs[k]), _]
          rw [Int.zero_mul, Int.zero_add]
    · rintro σ H' ⟨v, rfl, rfl⟩
      rw [Nat.sub_self]
      exact ⟨_, rfl, q⟩
end
end CB
namespace CB
open PySem PySem.Spec PyProof.Rows L2
abbrev s_law_digits : Stmt := top 27
abbrev N_law_digits : List Str := ["ratios", "number", "found", "ratio"]
theorem sc_law_digits : FnScope N_law_digits ["ratios", "number"] (defScope s_law_digits) := ⟨rfl, rfl, rfl, by decide +kernel, rfl, by decide +kernel, by decide +kernel⟩
end CB

namespace CB
open PySem PySem.Spec PyProof.Rows L2
def sp_law_digits (K : PySem.W.Frag) (_ : Str → Option Value) : Sp := fun vs H Q _ => ∃ (a : Addr) (n : Int) (rs : List Int), vs = [.ref a, .int n] ∧ SqL K H a (rs.map V.int) ∧ GF rs ∧ TellL H Q ((D rs n).map V.int)
section
variable {P : Program} {w : World} {K : PySem.W.Frag} {mg : Str → Option Value} {base : Heap}
theorem ok_law_digits {f : Addr} {fd : FuncData} (F : Fun K "_law_digits" "_law_digits" s_law_digits f fd) (B : Bi mg) : FnOk P w K mg base (L2.CX P w) 1 f fd ["ratios", "number"] (sp_law_digits K mg) := by
  refine F.okX sc_law_digits (fun vs H Q E h => ?_) (fun cdv A outer s H vs Q E hr h => ?_)
  · obtain ⟨a, n, rs, rfl, _⟩ := h
    rfl
  · obtain ⟨a, n, rs, rfl, hA, g, k⟩ := h
    refine ⟨_, (pss_cons (ps_set (i := 2) sc_law_digits.nd rfl (Or.inl rfl) (pe_lst pa_nil))
  (pss_cons (ps_for (passes_of rfl) rfl (pi_list (pv 0)) (pg_name (i := 3) sc_law_digits.nd rfl (Or.inl rfl)) (pss_cons (ps_expr (pe_bm PySem.F.plainAttrs_list PySem.F.slot_list_append PySem.F.type_list_append mt_append (pv 2) (pa_cons (pe_op op_mod (pv 1) (pv 3)) pa_nil)))
  (pss_one (ps_set (i := 1) sc_law_digits.nd rfl (Or.inl rfl) (pe_op op_fdiv (pv 1) (pv 3))))))
  (pss_one (ps_ret (pe_op op_cat (pv 2) (pe_lst (pa_cons (pv 1) pa_nil))))))), ?_⟩
    refine ⟨by show 0 ≤ sizeLine; decide, fun p hp => ?_⟩
    have hlen : ((D rs n).map V.int).length ≤ 100000 := by rw [List.length_map, D_len]; have := g.1; omega
    refine ⟨_, rfl, a, rfl, ⟨_, (same_upd hp).seq hA⟩, for_list (K := K) (a := a) (xs := rs.map V.int) (fun i σ H' => ∃ v m, σ = [some (.ref a), some (.int m), some (.ref p), v] ∧ Gr H p ((D rs n).map V.int) i H' ∧ ∃ l, D rs n = l ++ D (rs.drop i) m ∧ l.length = i)
        ⟨none, n, rfl, Gr.zero _ hp, [], rfl, rfl⟩ (fun i σ H' _ ⟨_, _, _, gr, _⟩ => gr.1.seq hA) ?_ ?_⟩
    · rintro i y σ H' hi ⟨v, m, rfl, gr, l, e1, e2⟩
      obtain ⟨z, hz, rfl⟩ := get_map hi
      have gz := g.2 z (List.mem_of_getElem? hz)
      have e3 : rs.drop i = z :: rs.drop (i + 1) := by
        obtain ⟨hl, e⟩ := List.getElem?_eq_some_iff.mp hz
        rw [List.drop_eq_getElem_cons hl, e]
      rw [e3] at e1
      have e4 : ((D rs n).map V.int)[i]? = some (.int (m % z)) := by
        refine map_get ?_
        rw [e1, List.getElem?_append_right (by omega), e2, Nat.sub_self]
        rfl
      have st := gr.step hp hlen e4 (Same.refl H')
      refine ⟨_, rfl, .inl ⟨rfl, _, SqL.of st.1⟩, _, rfl, _, rfl, _, _, rfl, rfl, (by show 0 < z; omega), p, _, _, rfl, rfl, st.1, st.2.1, ?_⟩
      refine ⟨_, rfl, _, rfl, _, _, rfl, rfl, ⟨by omega, by omega⟩, ?_⟩
      refine ⟨some (.int z), m / z, rfl, st.2.2, l ++ [m % z], ?_, by rw [List.length_append, e2]; rfl⟩
      rw [e1, List.append_assoc]
      rfl
    · rintro σ H' ⟨v, m, rfl, gr, l, e1, e2⟩
      rw [List.length_map] at gr e1 e2
      have e3 : D (rs.drop rs.length) m = [m] := by rw [List.drop_length]; rfl
      rw [e3] at e1
      have e4 : ((D rs n).map V.int)[rs.length]? = some (.int m) := by
        refine map_get ?_
        rw [e1, List.getElem?_append_right (by omega), e2, Nat.sub_self]
        rfl
      refine ⟨_, rfl, _, rfl, by show 1 ≤ sizeLine; decide, fun p2 n2 => ?_⟩
      have d : p ≠ p2 := ne_of_none gr.2 n2
      refine ⟨p, p2, _, _, rfl, rfl, by rw [upd_ne d]; exact gr.2, upd_same, ?_, fun p3 n3 => ?_⟩
      · rw [List.length_take, List.length_map]
        have := small64 (n := (D rs n).length + 1) (by rw [D_len]; have := g.1; omega)
        show _ + 1 ≤ sizeLine
        omega
      · have e5 : ((D rs n).map V.int).take rs.length ++ [V.int m] = (D rs n).map V.int := by
          rw [← take_more e4, List.take_of_length_le (by rw [List.length_map, D_len]; exact Nat.le_refl _)]
        rw [e5]
        refine k _ p3 ?_ ?_ upd_same
        · exact gr.1.trans ((same_upd n2).trans (same_upd n3))
        · exact gr.1.free ((same_upd (o := .lst [V.int m]) n2).free n3)
end
end CB
namespace CB
open PySem PySem.Spec PyProof.Rows L2
abbrev s_law_less : Stmt := top 30
abbrev N_law_less : List Str := ["ratios", "one", "other", "e"]
theorem sc_law_less : FnScope N_law_less ["ratios", "one", "other"] (defScope s_law_less) := ⟨rfl, rfl, rfl, by decide +kernel, rfl, by decide +kernel, by decide +kernel⟩
end CB

namespace CB
open PySem PySem.Spec PyProof.Rows L2
def sp_law_less (K : PySem.W.Frag) (_ : Str → Option Value) : Sp := fun vs H Q _ => ∃ (a b c : Addr) (rs bs cs : List Int), vs = [.ref a, .ref b, .ref c] ∧ SqL K H a (rs.map V.int) ∧ SqL K H b (bs.map V.int) ∧ SqL K H c (cs.map V.int) ∧
  GF rs ∧ GB rs bs ∧ GB rs cs ∧ BS bs ∧ BS cs ∧ (W rs cs ≤ W rs bs → TellL H Q ((D rs (W rs bs - W rs cs)).map V.int)) ∧ (W rs bs < W rs cs → TellV H Q (.str "less"))
section
variable {P : Program} {w : World} {K : PySem.W.Frag} {mg : Str → Option Value} {base : Heap}
theorem ok_law_less {f : Addr} {fd : FuncData} (F : Fun K "_law_less" "_law_less" s_law_less f fd) (B : Bi mg) (e_BoardError : mg "BoardError" = some (.ref (ErA mg "BoardError"))) (w_NoLess : Wd K mg (ErA mg "NoLess") 6) (c_less : Callee P w K mg base 4 "less" ["ratios", "one", "other"] (sp_less K mg))
    (c_law_word_of : CalleeE P w K mg base 1 "_law_word_of" ["e"] (sp_law_word_of K mg)) :
    FnOk P w K mg base (L2.CX P w) 5 f fd ["ratios", "one", "other"] (sp_law_less K mg) := by
  refine F.okX sc_law_less (fun vs H Q E h => ?_) (fun cdv A outer s H vs Q E hr h => ?_)
  · obtain ⟨a, b, c, rs, bs, cs, rfl, _⟩ := h
    rfl
  · obtain ⟨a, b, c, rs, bs, cs, rfl, hA, hB, hC, g, gb, gc, sb, sc, k1, k2⟩ := h
    refine ⟨_, (pss_one (ps_try_as (i := 3) rfl rfl sc_law_less.nd rfl rfl ⟨rfl, by decide, .inl e_BoardError⟩ takes0 (fun W pn xe tk _ => (pss_one (ps_ret (pe_f c_less hr (by decide) tk (pa_cons (pv 0) (pa_cons (pv 1) (pa_cons (pv 2) pa_nil)))))))
  (fun a oe cls d pn hz hf => (pss_one (ps_ret (pe_callE c_law_word_of hr (by decide) hz hf (pa_cons (pv 3) pa_nil))))))), ?_⟩
    refine ⟨_, rfl, _, rfl, _, rfl, a, b, c, rs, bs, cs, rfl, hA, hB, hC, Two.good g gb gc sb sc ⟨fun hw => k1 hw, fun hw H' s' => ?_⟩⟩
    refine ⟨true, w_NoLess.bd, fun _ z hz => ?_, fun q => nomatch q⟩
    exact ⟨_, rfl, ErA mg "NoLess", rfl, rfl, 6, w_NoLess, rfl, fun H2 s2 => k2 hw H2 (s'.trans s2)⟩
end
end CB
namespace CB
open PySem PySem.Spec PyProof.Rows L2
theorem no_err (P : Program) (w : World) (H : Hp) (s : Shared) (e : Value) (s' : Shared) : L2.CX P w [] H s (fun _ _ _ => False) e s' → False := fun h => by
  obtain ⟨_, _, _, _, _, _, _, _, _, _, _, _, z⟩ := h
  exact z
end CB
namespace CB
open PySem PySem.Spec PyProof.Rows L2
abbrev s_law : Stmt := top 31
abbrev N_law : List Str := ["script", "ratios", "one", "other", "number", "first", "second", "handed", "due", "great", "small", "found", "left"]
theorem sc_law : FnScope N_law ["script"] (defScope s_law) := ⟨rfl, rfl, rfl, by decide +kernel, rfl, by decide +kernel, by decide +kernel⟩
end CB

namespace CB
open PySem PySem.Spec PyProof.Rows L2
def sp_law (K : PySem.W.Frag) : Sp := fun vs H Q _ => ∃ (a : Addr) (ns : List Int), vs = [.ref a] ∧ SqL K H a (ns.map V.int) ∧ ns.length ≤ 63 ∧ ∀ H', Q (.bl true) H'
theorem pairs2 {t1 t2 : Addr} {i : Nat} {x : V} (h : [V.ref t1, V.ref t2][i]? = some x) : (x = .ref t1 ∨ x = .ref t2) := by
  match i, h with
  | 0, h => cases h; exact .inl rfl
  | 1, h => cases h; exact .inr rfl
  | k + 2, h => cases h
theorem pairs3 {t1 t2 t3 : Addr} {i : Nat} {x : V} (h : [V.ref t1, V.ref t2, V.ref t3][i]? = some x) : (x = .ref t1 ∨ x = .ref t2 ∨ x = .ref t3) := by
  match i, h with
  | 0, h => cases h; exact .inl rfl
  | 1, h => cases h; exact .inr (.inl rfl)
  | 2, h => cases h; exact .inr (.inr rfl)
  | k + 3, h => cases h
section
variable {P : Program} {w : World} {K : PySem.W.Frag} {mg : Str → Option Value} {base : Heap}
theorem ok_law {f : Addr} {fd : FuncData} (F : Fun K "law" "law" s_law f fd) (B : Bi mg) (c_law_frame_by : Callee P w K mg base 2 "_law_frame_by" ["script"] (sp_law_frame_by K mg))
    (c_law_board_by : Callee P w K mg base 2 "_law_board_by" ["script", "first", "ratios", "kind"] (sp_law_board_by K mg)) (c_law_cell_at : Callee P w K mg base 1 "_law_cell_at" ["script", "k"] (sp_law_cell_at K mg))
    (c_law_worth : Callee P w K mg base 1 "_law_worth" ["ratios", "board"] (sp_law_worth K mg)) (c_law_digits : Callee P w K mg base 1 "_law_digits" ["ratios", "number"] (sp_law_digits K mg))
    (c_added : Callee P w K mg base 4 "added" ["ratios", "one", "other"] (sp_added K mg)) (c_times : Callee P w K mg base 4 "times" ["ratios", "board", "number"] (sp_times K mg))
    (c_law_is_list : Callee P w K mg base 2 "_law_is_list" ["found", "due"] (sp_law_is_list K mg)) (c_law_less : Callee P w K mg base 5 "_law_less" ["ratios", "one", "other"] (sp_law_less K mg)) :
    FnOk P w K mg base (L2.CX P w) 6 f fd ["script"] (sp_law K) := by
  refine F.okX sc_law (fun vs H Q E h => ?_) (fun cdv A outer s H vs Q E hr h => ?_)
  · obtain ⟨a, ns, rfl, _⟩ := h
    rfl
  · obtain ⟨a, ns, rfl, hS, _, q⟩ := h
    refine ⟨_, (pss_cons (ps_set (i := 1) sc_law.nd rfl (Or.inl rfl) (pe_f c_law_frame_by hr (by decide) takes0 (pa_cons (pv 0) pa_nil)))
  (pss_cons (ps_set (i := 2) sc_law.nd rfl (Or.inl rfl) (pe_f c_law_board_by hr (by decide) takes0 (pa_cons (pv 0) (pa_cons pe_int (pa_cons (pv 1) (pa_cons (pe_op op_mod (pe_f c_law_cell_at hr (by decide) takes0 (pa_cons (pv 0) (pa_cons pe_int pa_nil))) pe_int) pa_nil))))))
  (pss_cons (ps_set (i := 3) sc_law.nd rfl (Or.inl rfl) (pe_f c_law_board_by hr (by decide) takes0 (pa_cons (pv 0) (pa_cons pe_int (pa_cons (pv 1) (pa_cons (pe_op op_mod (pe_op op_fdiv (pe_f c_law_cell_at hr (by decide) takes0 (pa_cons (pv 0) (pa_cons pe_int pa_nil))) pe_int) pe_int) pa_nil))))))
  (pss_cons (ps_set (i := 4) sc_law.nd rfl (Or.inl rfl) (pe_op op_mod (pe_f c_law_cell_at hr (by decide) takes0 (pa_cons (pv 0) (pa_cons pe_int pa_nil))) (pe_ix ix_list (pe_lst (pa_cons pe_int (pa_cons (pe_op op_pow pe_int pe_int) pa_nil))) (pe_op op_mod (pe_f c_law_cell_at hr (by decide) takes0 (pa_cons (pv 0) (pa_cons pe_int pa_nil))) pe_int) (fun _ _ => rfl))))
  (pss_cons (ps_set (i := 5) sc_law.nd rfl (Or.inl rfl) (pe_f c_law_worth hr (by decide) takes0 (pa_cons (pv 1) (pa_cons (pv 2) pa_nil))))
  (pss_cons (ps_set (i := 6) sc_law.nd rfl (Or.inl rfl) (pe_f c_law_worth hr (by decide) takes0 (pa_cons (pv 1) (pa_cons (pv 3) pa_nil))))
  (pss_cons (ps_set (i := 7) sc_law.nd rfl (Or.inl rfl) (pe_lst (pa_cons (pe_callTy call_list_of (by rfl) B.list (by decide +kernel) (pa_cons (pv 1) pa_nil)) (pa_cons (pe_callTy call_list_of (by rfl) B.list (by decide +kernel) (pa_cons (pv 2) pa_nil)) (pa_cons (pe_callTy call_list_of (by rfl) B.list (by decide +kernel) (pa_cons (pv 3) pa_nil)) pa_nil)))))
  (pss_cons (ps_set (i := 8) sc_law.nd rfl (Or.inl rfl) (pe_f c_law_digits hr (by decide) takes0 (pa_cons (pv 1) (pa_cons (pe_op op_add (pv 5) (pv 6)) pa_nil))))
  (pss_cons (ps_for (passes_of rfl) rfl (pi_list (pe_lst (pa_cons (pe_tup (pa_cons pe_int (pa_cons pe_int pa_nil))) (pa_cons (pe_tup (pa_cons pe_int (pa_cons pe_int pa_nil))) pa_nil)))) (pg_tup rfl (pgs_cons (pg_name (i := 9) sc_law.nd rfl (Or.inl rfl)) (pgs_cons (pg_name (i := 10) sc_law.nd rfl (Or.inl rfl)) pgs_nil))) (pss_cons (ps_set (i := 11) sc_law.nd rfl (Or.inl rfl) (pe_f c_added hr (by decide) takes0 (pa_cons (pe_ix ix_list (pv 7) pe_int (fun _ _ => rfl)) (pa_cons (pe_ix ix_list (pv 7) (pv 9) (fun _ _ => rfl)) (pa_cons (pe_ix ix_list (pv 7) (pv 10) (fun _ _ => rfl)) pa_nil)))))
  (pss_cons (ps_if (pt_not (pt_val (pe_f c_law_is_list hr (by decide) takes0 (pa_cons (pv 11) (pa_cons (pv 8) pa_nil))))) (pss_one (ps_ret pe_bl)) pss_nil)
  (pss_one (ps_asg (pe_op op_add (pe_ix ix_list (pv 11) pe_int (fun _ _ => rfl)) pe_int) (pg_sub (pv 11) pe_int set_list))))))
  (pss_cons (ps_set (i := 11) sc_law.nd rfl (Or.inl rfl) (pe_f c_times hr (by decide) takes0 (pa_cons (pe_ix ix_list (pv 7) pe_int (fun _ _ => rfl)) (pa_cons (pe_ix ix_list (pv 7) pe_int (fun _ _ => rfl)) (pa_cons (pv 4) pa_nil)))))
  (pss_cons (ps_if (pt_not (pt_val (pe_f c_law_is_list hr (by decide) takes0 (pa_cons (pv 11) (pa_cons (pe_f c_law_digits hr (by decide) takes0 (pa_cons (pv 1) (pa_cons (pe_op op_mulW (pv 5) (pv 4)) pa_nil))) pa_nil))))) (pss_one (ps_ret pe_bl)) pss_nil)
  (pss_cons (ps_asg (pe_op op_add (pe_ix ix_list (pv 11) pe_int (fun _ _ => rfl)) pe_int) (pg_sub (pv 11) pe_int set_list))
  (pss_cons (ps_for (passes_of rfl) rfl (pi_list (pe_lst (pa_cons (pe_tup (pa_cons pe_int (pa_cons pe_int pa_nil))) (pa_cons (pe_tup (pa_cons pe_int (pa_cons pe_int pa_nil))) (pa_cons (pe_tup (pa_cons pe_int (pa_cons pe_int pa_nil))) pa_nil))))) (pg_tup rfl (pgs_cons (pg_name (i := 9) sc_law.nd rfl (Or.inl rfl)) (pgs_cons (pg_name (i := 10) sc_law.nd rfl (Or.inl rfl)) pgs_nil))) (pss_cons (ps_set (i := 12) sc_law.nd rfl (Or.inl rfl) (pe_op op_sub (pe_ix ix_list (pe_lst (pa_cons pe_int (pa_cons (pv 5) (pa_cons (pv 6) pa_nil)))) (pv 9) (fun _ _ => rfl)) (pe_ix ix_list (pe_lst (pa_cons pe_int (pa_cons (pv 5) (pa_cons (pv 6) pa_nil)))) (pv 10) (fun _ _ => rfl))))
  (pss_cons (ps_set (i := 11) sc_law.nd rfl (Or.inl rfl) (pe_f c_law_less hr (by decide) takes0 (pa_cons (pe_ix ix_list (pv 7) pe_int (fun _ _ => rfl)) (pa_cons (pe_ix ix_list (pv 7) (pv 9) (fun _ _ => rfl)) (pa_cons (pe_callTy call_list_of (by rfl) B.list (by decide +kernel) (pa_cons (pe_ix ix_list (pv 7) (pv 10) (fun _ _ => rfl)) pa_nil)) pa_nil)))))
  (pss_cons (ps_if (pw_and (pt_cmpR op_lt (pv 12) pe_int (nomark _)) (pw_and1 (pt_cmpR op_ne (pv 11) pe_str (nomark _)))).pt (pss_one (ps_ret pe_bl)) pss_nil)
  (pss_one (ps_if (pt_cmpR op_ge (pv 12) pe_int (nomark _)) (pss_cons (ps_if (pt_not (pt_val (pe_f c_law_is_list hr (by decide) takes0 (pa_cons (pv 11) (pa_cons (pe_f c_law_digits hr (by decide) takes0 (pa_cons (pv 1) (pa_cons (pv 12) pa_nil))) pa_nil))))) (pss_one (ps_ret pe_bl)) pss_nil)
  (pss_one (ps_asg (pe_op op_add (pe_ix ix_list (pv 11) pe_int (fun _ _ => rfl)) pe_int) (pg_sub (pv 11) pe_int set_list)))) pss_nil))))))
  (pss_one (ps_ret (pe_cmpR (op_eqD hr.units) (pv 7) (pe_lst (pa_cons (pv 1) (pa_cons (pv 2) (pa_cons (pv 3) pa_nil)))) (nomark _))))))))))))))))), ?_⟩
    refine ⟨.ref a, rfl, a, ns, rfl, hS, fun rs g H1 p1 s1 n1 e1 => ?_⟩
    refine ⟨_, rfl, _, rfl, _, rfl, a, ns, 1, rfl, s1.seq hS, by decide, _, _, rfl, rfl, (show (0 : Int) < 4 by decide), ?_⟩
    refine ⟨a, p1, ns, rs, 13, _, rfl, s1.seq hS, SqL.of e1, g.1, by decide, fun bs gb hb H2 p2 s2 n2 e2 => ?_⟩
    have hbs := bs_of20 hb
    have hbn := gb.1
    have g11 := g.1
    obtain ⟨hw0, hw1⟩ := small20 g gb hb
    have s02 := s1.trans s2
    have k1 := s2 _ _ e1
    -- other
    refine ⟨_, rfl, _, rfl, _, rfl, a, ns, 1, rfl, s02.seq hS, by decide, _, _, rfl, rfl, ⟨by decide, by decide⟩, _, _, rfl, rfl, (show (0 : Int) < 4 by decide), ?_⟩
    refine ⟨a, p1, ns, rs, 26, _, rfl, s02.seq hS, SqL.of k1, g.1, by decide, fun os go ho H3 p3 s3 n3 e3 => ?_⟩
    have hos := bs_of20 ho
    have hon := go.1
    obtain ⟨hv0, hv1⟩ := small20 g go ho
    have s03 := s02.trans s3
    have l1 := s3 _ _ k1
    have l2 := s3 _ _ e2
    -- number
    refine ⟨_, rfl, a, ns, 40, rfl, s03.seq hS, by decide, ?_⟩
    refine ⟨_, _, rfl, rfl, ⟨by decide, by decide, by decide⟩, by show 2 ≤ sizeLine; decide, fun x1 y1 => ?_⟩
    have t1 := same_upd (o := .lst [V.int 30, V.int (10 ^ (20 : Int).toNat)]) y1
    have f1 := t1 _ _ l1
    have f2 := t1 _ _ l2
    have f3 := t1 _ _ e3
    have fx := upd_same (H := H3) (a := x1) (o := .lst [V.int 30, V.int (10 ^ (20 : Int).toNat)])
    have s04 := s03.trans t1
    generalize upd H3 x1 (.lst [V.int 30, V.int (10 ^ (20 : Int).toNat)]) = H4 at f1 f2 f3 fx s04
    obtain ⟨m, hm, hat⟩ := pick2 (x := 30) (y := 10 ^ (20 : Int).toNat) (mod2 (cell ns 41))
    have hm0 : 0 < m ∧ m ≤ 10 ^ 20 := by
      rcases hm with rfl | rfl
      · decide
      · decide
    refine ⟨_, rfl, a, ns, 41, rfl, s04.seq hS, by decide, _, _, rfl, rfl, (show (0 : Int) < 2 by decide), x1, _, _, _, rfl, rfl, SqL.of fx, hat, _, _, rfl, rfl, hm0.1, ?_⟩
    obtain ⟨n, en⟩ : ∃ n, n = cell ns 40 % m := ⟨_, rfl⟩
    have hn1 : 0 ≤ n := by
      have := Int.emod_nonneg (cell ns 40) (show m ≠ 0 by omega)
      omega
    have hn2 : n < 2 ^ 200 := by
      have h1 := Int.emod_lt_of_pos (cell ns 40) hm0.1
      have h2 : (10 : Int) ^ 20 + 1 < 2 ^ 200 := by decide
      omega
    show tSeq _ _ _ [some (V.ref a), some (V.ref p1), some (V.ref p2), some (V.ref p3), some (V.int (cell ns 40 % m)), none, none, none, none, none, none, none, none] H4
    rw [← en]
    -- first, second
    refine ⟨_, rfl, _, rfl, p1, p2, rs, bs, rfl, SqL.of f1, SqL.of f2, g, gb, hbs, ?_⟩
    refine ⟨_, rfl, _, rfl, p1, p3, rs, os, rfl, SqL.of f1, SqL.of f3, g, go, hos, ?_⟩
    -- handed
    refine ⟨_, rfl, p1, _, rfl, .inl (SqL.of f1), fun z1 u1 => ?_⟩
    have t2 := same_upd (o := .lst (rs.map V.int)) u1
    refine ⟨_, rfl, p2, _, rfl, .inl (SqL.of (t2 _ _ f2)), fun z2 u2 => ?_⟩
    have t3 := same_upd (o := .lst (bs.map V.int)) u2
    refine ⟨_, rfl, p3, _, rfl, .inl (SqL.of (t3 _ _ (t2 _ _ f3))), fun z3 u3 => ?_⟩
    have t4 := same_upd (o := .lst (os.map V.int)) u3
    refine ⟨by show 3 ≤ sizeLine; decide, fun p6 n6 => ?_⟩
    have t5 := same_upd (o := .lst [V.ref z1, V.ref z2, V.ref z3]) n6
    have t := ((t2.trans t3).trans t4).trans t5
    have i1 := t _ _ f1
    have i2 := t _ _ f2
    have i3 := t _ _ f3
    have j1 := t5 _ _ (t4 _ _ (t3 _ _ (upd_same (H := H4) (a := z1) (o := .lst (rs.map V.int)))))
    have j2 := t5 _ _ (t4 _ _ (upd_same (H := upd H4 z1 (.lst (rs.map V.int))) (a := z2) (o := .lst (bs.map V.int))))
    have j3 := t5 _ _ (upd_same (H := upd (upd H4 z1 (.lst (rs.map V.int))) z2 (.lst (bs.map V.int))) (a := z3) (o := .lst (os.map V.int)))
    have j6 := upd_same (H := upd (upd (upd H4 z1 (.lst (rs.map V.int))) z2 (.lst (bs.map V.int))) z3 (.lst (os.map V.int))) (a := p6) (o := .lst [V.ref z1, V.ref z2, V.ref z3])
    generalize upd (upd (upd (upd H4 z1 (.lst (rs.map V.int))) z2 (.lst (bs.map V.int))) z3 (.lst (os.map V.int))) p6 (.lst [V.ref z1, V.ref z2, V.ref z3]) = H6 at i1 i2 i3 j1 j2 j3 j6
    -- due
    refine ⟨_, rfl, _, rfl, _, rfl, _, _, rfl, rfl, ?_⟩
    refine ⟨p1, W rs bs + W rs os, rs, rfl, SqL.of i1, g, fun H7 p7 s7 n7 e7 => ?_⟩
    have i1 := s7 _ _ i1
    have i2 := s7 _ _ i2
    have i3 := s7 _ _ i3
    have j1 := s7 _ _ j1
    have j2 := s7 _ _ j2
    have j3 := s7 _ _ j3
    have j6 := s7 _ _ j6
    -- for great, small in [(1, 2), (2, 1)]
    refine ⟨by show 2 ≤ sizeLine; decide, fun a1 m1 => ⟨by show 2 ≤ sizeLine; decide, fun a2 m2 => ⟨by show 2 ≤ sizeLine; decide, fun a3 m3 => ?_⟩⟩⟩
    have o1 := same_upd (o := .tup [V.int 1, V.int 2]) m1
    have o2 := same_upd (o := .tup [V.int 2, V.int 1]) m2
    have o3 := same_upd (o := .lst [V.ref a1, V.ref a2]) m3
    have o := (o1.trans o2).trans o3
    have b1 := o3 _ _ (o2 _ _ (upd_same (H := H7) (a := a1) (o := .tup [V.int 1, V.int 2])))
    have b2 := o3 _ _ (upd_same (H := upd H7 a1 (.tup [V.int 1, V.int 2])) (a := a2) (o := .tup [V.int 2, V.int 1]))
    have b3 := upd_same (H := upd (upd H7 a1 (.tup [V.int 1, V.int 2])) a2 (.tup [V.int 2, V.int 1])) (a := a3) (o := .lst [V.ref a1, V.ref a2])
    have i1 := o _ _ i1
    have i2 := o _ _ i2
    have i3 := o _ _ i3
    have j1 := o _ _ j1
    have j2 := o _ _ j2
    have j3 := o _ _ j3
    have j6 := o _ _ j6
    have e7 := o _ _ e7
    generalize upd (upd (upd H7 a1 (.tup [V.int 1, V.int 2])) a2 (.tup [V.int 2, V.int 1])) a3 (.lst [V.ref a1, V.ref a2]) = H8 at b1 b2 b3 i1 i2 i3 j1 j2 j3 j6 e7
    -- what a number tells: the board of that number
    have bd : ∀ z : Int, z = 1 ∨ z = 2 → ∃ (x : Addr) (xs : List Int), atI [V.ref z1, V.ref z2, V.ref z3] z = some (.ref x) ∧ H8 x = some (.lst (xs.map V.int)) ∧ GB rs xs ∧ BS xs ∧ atI [V.int 0, V.int (W rs bs), V.int (W rs os)] z = some (.int (W rs xs)) ∧ 0 ≤ W rs xs ∧ W rs xs = (if z = 1 then W rs bs else W rs os) := by
      intro z hz
      rcases hz with rfl | rfl
      · exact ⟨z2, bs, rfl, j2, gb, hbs, rfl, hw0, rfl⟩
      · exact ⟨z3, os, rfl, j3, go, hos, rfl, hv0, rfl⟩
    have pr : ∀ (i : Nat) (x : V), [V.ref a1, V.ref a2][i]? = some x → ∃ (y : Addr) (u v : Int), x = .ref y ∧ H8 y = some (.tup [V.int u, V.int v]) ∧ ((u = 1 ∧ v = 2) ∨ (u = 2 ∧ v = 1)) := by
      intro i x h
      rcases pairs2 h with rfl | rfl
      · exact ⟨a1, 1, 2, rfl, b1, .inl ⟨rfl, rfl⟩⟩
      · exact ⟨a2, 2, 1, rfl, b2, .inr ⟨rfl, rfl⟩⟩
    refine ⟨a3, rfl, ⟨_, SqL.of b3⟩, for_list (K := K) (a := a3) (xs := [V.ref a1, V.ref a2]) (fun i σ H' => ∃ v1 v2 v3, σ = [some (V.ref a), some (V.ref p1), some (V.ref p2), some (V.ref p3), some (V.int n), some (V.int (W rs bs)), some (V.int (W rs os)), some (.ref p6), some (.ref p7), v1, v2, v3, none] ∧ Same H8 H')
      ⟨none, none, none, rfl, Same.refl _⟩ (fun i σ H' _ ⟨_, _, _, _, sm⟩ => SqL.of (sm _ _ b3)) ?_ ?_⟩
    · rintro i x σ H9 hx ⟨v1, v2, v3, rfl, sm⟩
      obtain ⟨y, u, v, rfl, hy, huv⟩ := pr i x hx
      obtain ⟨xu, us, au, hu, gu, su, wu, wu0, ewu⟩ := bd u (by omega)
      obtain ⟨xv, vs, av, hv, gv, sv, wv, wv0, ewv⟩ := bd v (by omega)
      have esum : W rs us + W rs vs = W rs bs + W rs os := by
        rcases huv with ⟨rfl, rfl⟩ | ⟨rfl, rfl⟩
        · rw [ewu, ewv]
          rfl
        · rw [ewu, ewv]
          exact Int.add_comm _ _
      refine ⟨y, _, rfl, SqT.of (sm _ _ hy), rfl, _, _, rfl, _, _, rfl, rfl, ?_⟩
      refine ⟨_, rfl, p6, _, 0, _, rfl, rfl, SqL.of (sm _ _ j6), rfl, _, rfl, _, rfl, p6, _, _, _, rfl, rfl, SqL.of (sm _ _ j6), au, _, rfl, _, rfl, p6, _, _, _, rfl, rfl, SqL.of (sm _ _ j6), av, ?_⟩
      refine ⟨z1, xu, xv, rs, us, vs, rfl, SqL.of (sm _ _ j1), SqL.of (sm _ _ hu), SqL.of (sm _ _ hv), Two.good g gu gv su sv (fun H10 p10 s10 n10 e10 => ?_)⟩
      rw [esum] at e10
      have k7 := s10 _ _ (sm _ _ e7)
      have hDl := D_len rs (W rs bs + W rs os)
      refine ⟨_, rfl, _, rfl, p10, p7, _, rfl, e10, SqL.of k7, by omega, _, rfl, ite_f rfl ?_⟩
      obtain ⟨y0, ys, hy0⟩ := D_cons rs (W rs bs + W rs os)
      refine ⟨_, rfl, p10, _, 0, .int y0, rfl, rfl, SqL.of e10, at_of (j := 0) rfl (by rw [hy0]; rfl), _, _, rfl, rfl, _, rfl, p10, _, 0, 0, rfl, rfl, e10, ix_of rfl (by rw [List.length_map]; omega), ?_⟩
      refine ⟨_, _, _, rfl, fun c z hz => ?_⟩
      rw [upd_ne (ne_of_none hz (sm.free n10))]
      exact s10 _ _ (sm _ _ hz)
    · rintro σ H9 ⟨v1, v2, v3, rfl, sm⟩
      have i1 := sm _ _ i1
      have i2 := sm _ _ i2
      have i3 := sm _ _ i3
      have j1 := sm _ _ j1
      have j2 := sm _ _ j2
      have j3 := sm _ _ j3
      have j6 := sm _ _ j6
      have b1 := sm _ _ b1
      have b2 := sm _ _ b2
      have bd2 : ∀ z : Int, z = 1 ∨ z = 2 → ∃ (x : Addr) (xs : List Int), atI [V.ref z1, V.ref z2, V.ref z3] z = some (.ref x) ∧ H9 x = some (.lst (xs.map V.int)) ∧ GB rs xs ∧ BS xs ∧ atI [V.int 0, V.int (W rs bs), V.int (W rs os)] z = some (.int (W rs xs)) ∧ 0 ≤ W rs xs := fun z hz => by
        obtain ⟨x, xs, q1, q2, q3, q4, q5, q6, _⟩ := bd z hz
        exact ⟨x, xs, q1, sm _ _ q2, q3, q4, q5, q6⟩
      -- found = times
      refine ⟨_, rfl, p6, _, 0, _, rfl, rfl, SqL.of j6, rfl, _, rfl, p6, _, 1, _, rfl, rfl, SqL.of j6, rfl, _, rfl, ?_⟩
      refine ⟨z1, z2, rs, bs, n, rfl, SqL.of j1, SqL.of j2, fun _ _ => ⟨fun _ => ⟨hbs, hn2, fun H10 p10 s10 n10 e10 => ?_⟩, fun z => absurd hn1 z⟩, fun z => absurd g z, fun _ z => absurd gb z⟩
      refine ⟨_, rfl, _, rfl, _, rfl, _, rfl, _, _, rfl, rfl, wide_mul (a := 200) (b := 200) (abs_lt_pow hw0 (by have h2 : (2 : Int) ^ 150 < 2 ^ 200 := (by decide); omega)) (abs_lt_pow hn1 hn2) (by decide) (by decide) (by decide), ?_⟩
      refine ⟨p1, W rs bs * n, rs, rfl, SqL.of (s10 _ _ i1), g, fun H11 p11 s11 n11 e11 => ?_⟩
      have hDl := D_len rs (W rs bs * n)
      have e10 := s11 _ _ e10
      refine ⟨p10, p11, _, rfl, e10, SqL.of e11, by omega, _, rfl, ite_f rfl ?_⟩
      obtain ⟨y0, ys, hy0⟩ := D_cons rs (W rs bs * n)
      refine ⟨_, rfl, p10, _, 0, .int y0, rfl, rfl, SqL.of e10, at_of (j := 0) rfl (by rw [hy0]; rfl), _, _, rfl, rfl, _, rfl, p10, _, 0, 0, rfl, rfl, e10, ix_of rfl (by rw [List.length_map]; omega), ?_⟩
      have sX : Same H9 (upd H11 p10 (.lst (((D rs (W rs bs * n)).map V.int).set 0 (V.int (y0 + 1))))) := fun c z hz => by
        rw [upd_ne (ne_of_none hz n10)]
        exact s11 _ _ (s10 _ _ hz)
      generalize upd H11 p10 (.lst (((D rs (W rs bs * n)).map V.int).set 0 (V.int (y0 + 1)))) = H12 at sX
      -- the last loop
      refine ⟨by show 2 ≤ sizeLine; decide, fun c1 m1 => ⟨by show 2 ≤ sizeLine; decide, fun c2 m2 => ⟨by show 2 ≤ sizeLine; decide, fun c3 m3 => ⟨by show 3 ≤ sizeLine; decide, fun c4 m4 => ?_⟩⟩⟩⟩
      have o1 := same_upd (o := .tup [V.int 1, V.int 2]) m1
      have o2 := same_upd (o := .tup [V.int 2, V.int 1]) m2
      have o3 := same_upd (o := .tup [V.int 1, V.int 1]) m3
      have o4 := same_upd (o := .lst [V.ref c1, V.ref c2, V.ref c3]) m4
      have oo := ((o1.trans o2).trans o3).trans o4
      have d1 := o4 _ _ (o3 _ _ (o2 _ _ (upd_same (H := H12) (a := c1) (o := .tup [V.int 1, V.int 2]))))
      have d2 := o4 _ _ (o3 _ _ (upd_same (H := upd H12 c1 (.tup [V.int 1, V.int 2])) (a := c2) (o := .tup [V.int 2, V.int 1])))
      have d3 := o4 _ _ (upd_same (H := upd (upd H12 c1 (.tup [V.int 1, V.int 2])) c2 (.tup [V.int 2, V.int 1])) (a := c3) (o := .tup [V.int 1, V.int 1]))
      have d4 := upd_same (H := upd (upd (upd H12 c1 (.tup [V.int 1, V.int 2])) c2 (.tup [V.int 2, V.int 1])) c3 (.tup [V.int 1, V.int 1])) (a := c4) (o := .lst [V.ref c1, V.ref c2, V.ref c3])
      have sY := sX.trans oo
      generalize upd (upd (upd (upd H12 c1 (.tup [V.int 1, V.int 2])) c2 (.tup [V.int 2, V.int 1])) c3 (.tup [V.int 1, V.int 1])) c4 (.lst [V.ref c1, V.ref c2, V.ref c3]) = H13 at d1 d2 d3 d4 sY
      have pr3 : ∀ (i : Nat) (x : V), [V.ref c1, V.ref c2, V.ref c3][i]? = some x → ∃ (y : Addr) (u v : Int), x = .ref y ∧ H13 y = some (.tup [V.int u, V.int v]) ∧ (u = 1 ∨ u = 2) ∧ (v = 1 ∨ v = 2) := by
        intro i x h
        rcases pairs3 h with rfl | rfl | rfl
        · exact ⟨c1, 1, 2, rfl, d1, .inl rfl, .inr rfl⟩
        · exact ⟨c2, 2, 1, rfl, d2, .inr rfl, .inl rfl⟩
        · exact ⟨c3, 1, 1, rfl, d3, .inl rfl, .inl rfl⟩
      refine ⟨c4, rfl, ⟨_, SqL.of d4⟩, for_list (K := K) (a := c4) (xs := [V.ref c1, V.ref c2, V.ref c3]) (fun i σ H' => ∃ v1 v2 v3 v4, σ = [some (V.ref a), some (V.ref p1), some (V.ref p2), some (V.ref p3), some (V.int n), some (V.int (W rs bs)), some (V.int (W rs os)), some (.ref p6), some (.ref p7), v1, v2, v3, v4] ∧ Same H13 H')
        ⟨_, _, _, none, rfl, Same.refl _⟩ (fun i σ H' _ ⟨_, _, _, _, _, sm⟩ => SqL.of (sm _ _ d4)) ?_ ?_⟩
      · rintro i x σ H' hx ⟨v1, v2, v3, v4, rfl, sm⟩
        obtain ⟨y, u, v, rfl, hy, hu1, hv1⟩ := pr3 i x hx
        obtain ⟨xu, us, au, hu, gu, su, wu, wu0⟩ := bd2 u hu1
        obtain ⟨xv, vs, av, hv, gv, sv, wv, wv0⟩ := bd2 v hv1
        have sZ := sY.trans sm
        refine ⟨y, _, rfl, SqT.of (sm _ _ hy), rfl, _, _, rfl, _, _, rfl, rfl, ?_⟩
        -- left
        refine ⟨_, rfl, _, rfl, by show 3 ≤ sizeLine; decide, fun r1 m1 => ?_⟩
        have r1s := same_upd (o := .lst [V.int 0, V.int (W rs bs), V.int (W rs os)]) m1
        refine ⟨_, rfl, r1, _, _, _, rfl, rfl, SqL.of (upd_same (o := .lst [V.int 0, V.int (W rs bs), V.int (W rs os)])), wu, ?_⟩
        refine ⟨_, rfl, _, rfl, by show 3 ≤ sizeLine; decide, fun r2 m2 => ?_⟩
        have r2s := same_upd (o := .lst [V.int 0, V.int (W rs bs), V.int (W rs os)]) m2
        refine ⟨_, rfl, r2, _, _, _, rfl, rfl, SqL.of (upd_same (o := .lst [V.int 0, V.int (W rs bs), V.int (W rs os)])), wv, _, _, rfl, rfl, ?_⟩
        have sZ := (sZ.trans r1s).trans r2s
        have sm := (sm.trans r1s).trans r2s
        generalize upd (upd H' r1 (.lst [V.int 0, V.int (W rs bs), V.int (W rs os)])) r2 (.lst [V.int 0, V.int (W rs bs), V.int (W rs os)]) = H14 at sZ sm
        -- found
        refine ⟨_, rfl, p6, _, 0, _, rfl, rfl, SqL.of (sZ _ _ j6), rfl, _, rfl, _, rfl, p6, _, _, _, rfl, rfl, SqL.of (sZ _ _ j6), au, _, rfl, _, rfl, p6, _, _, _, rfl, rfl, SqL.of (sZ _ _ j6), av, xv, _, rfl, .inl (SqL.of (sZ _ _ hv)), fun x5 y5 => ?_⟩
        have s5 := same_upd (o := .lst (vs.map V.int)) y5
        refine ⟨z1, xu, x5, rs, us, vs, rfl, SqL.of (s5 _ _ (sZ _ _ j1)), SqL.of (s5 _ _ (sZ _ _ hu)), SqL.of upd_same, g, gu, gv, su, sv, fun hw => ?_, fun hw => ?_⟩
        · intro H15 p15 s15 n15 e15
          refine ⟨_, rfl, _, _, rfl, rfl, _, rfl, ite_f (decide_eq_false (by omega)) ?_⟩
          refine ⟨_, rfl, _, _, rfl, rfl, _, rfl, ite_t (decide_eq_true (by omega)) ?_⟩
          have sF := s5.trans s15
          refine ⟨_, rfl, _, rfl, _, rfl, p1, W rs us - W rs vs, rs, rfl, SqL.of (sF _ _ (sZ _ _ i1)), g, fun H16 p16 s16 n16 e16 => ?_⟩
          have hDl := D_len rs (W rs us - W rs vs)
          have e15 := s16 _ _ e15
          refine ⟨p15, p16, _, rfl, e15, SqL.of e16, by omega, _, rfl, ite_f rfl ?_⟩
          obtain ⟨y0, ys, hy0⟩ := D_cons rs (W rs us - W rs vs)
          refine ⟨_, rfl, p15, _, 0, .int y0, rfl, rfl, SqL.of e15, at_of (j := 0) rfl (by rw [hy0]; rfl), _, _, rfl, rfl, _, rfl, p15, _, 0, 0, rfl, rfl, e15, ix_of rfl (by rw [List.length_map]; omega), ?_⟩
          refine ⟨_, _, _, _, rfl, fun c z hz => ?_⟩
          rw [upd_ne (ne_of_none (s5 _ _ (sm _ _ hz)) n15)]
          exact s16 _ _ (sF _ _ (sm _ _ hz))
        · intro H15 s15
          refine ⟨_, rfl, _, _, rfl, rfl, _, rfl, ite_t (decide_eq_true (by omega)) ?_⟩
          refine ⟨_, rfl, rfl, _, rfl, ite_f rfl ?_⟩
          refine ⟨_, rfl, _, _, rfl, rfl, _, rfl, ite_f (decide_eq_false (by omega)) ?_⟩
          exact ⟨_, _, _, _, rfl, (sm.trans s5).trans s15⟩
      · rintro σ H14 ⟨v1, v2, v3, v4, rfl, sm⟩
        have sZ := sY.trans sm
        have t6 := sZ _ _ j6
        have t1 := sZ _ _ j1
        have t2 := sZ _ _ j2
        have t3 := sZ _ _ j3
        have w1 := sZ _ _ i1
        have w2 := sZ _ _ i2
        have w3 := sZ _ _ i3
        refine ⟨_, rfl, _, rfl, _, rfl, _, rfl, by show 3 ≤ sizeLine; decide, fun x7 y7 => ?_⟩
        have t7 := same_upd (o := .lst [V.ref p1, V.ref p2, V.ref p3]) y7
        refine ⟨_, _, dp_L3 (SqL.of (t7 _ _ t6)) (SqL.of (t7 _ _ t1)) (SqL.of (t7 _ _ t2)) (SqL.of (t7 _ _ t3)), dp_L3 (SqL.of upd_same) (SqL.of (t7 _ _ w1)) (SqL.of (t7 _ _ w2)) (SqL.of (t7 _ _ w3)), shaped_dLL _, shaped_dLL _, ?_⟩
        rw [eqv_dLL, decide_eq_true rfl]
        exact q _
end
end CB
namespace CB
open PySem PySem.Spec PyProof.Rows L2
theorem all_mk {l : PySem.W.OpenLaw} {w : World} {K : PySem.W.Frag} {h : Heap} {mg : Str → Option Value} {fa : Addr} (X : K.In h) (G : h.Ns mainGlobals mg) (hfa : mg "law" = some (.ref fa))
    {t_MOST : Tok}
    {C_NoFrame : Addr}
    {C_NoBoard : Addr}
    {C_NoNumber : Addr}
    {C_NoStep : Addr}
    {C_NoWay : Addr}
    {C_TooLong : Addr}
    {C_NoLess : Addr}
    {C_NoNote : Addr}
    {C_BoardError : Addr}
    {f_asked_frame : Addr} {od_asked_frame an_asked_frame : Option Addr} {sl_asked_frame : Array (Option Value)} {oc_asked_frame kV_asked_frame dc_asked_frame pm_asked_frame cd_asked_frame ct_asked_frame : Value}
    {f_asked_board : Addr} {od_asked_board an_asked_board : Option Addr} {sl_asked_board : Array (Option Value)} {oc_asked_board kV_asked_board dc_asked_board pm_asked_board cd_asked_board ct_asked_board : Value}
    {f_worths : Addr} {od_worths an_worths : Option Addr} {sl_worths : Array (Option Value)} {oc_worths kV_worths dc_worths pm_worths cd_worths ct_worths : Value}
    {f_worth : Addr} {od_worth an_worth : Option Addr} {sl_worth : Array (Option Value)} {oc_worth kV_worth dc_worth pm_worth cd_worth ct_worth : Value}
    {f_board_of : Addr} {od_board_of an_board_of : Option Addr} {sl_board_of : Array (Option Value)} {oc_board_of kV_board_of dc_board_of pm_board_of cd_board_of ct_board_of : Value}
    {f_added : Addr} {od_added an_added : Option Addr} {sl_added : Array (Option Value)} {oc_added kV_added dc_added pm_added cd_added ct_added : Value}
    {f_less : Addr} {od_less an_less : Option Addr} {sl_less : Array (Option Value)} {oc_less kV_less dc_less pm_less cd_less ct_less : Value}
    {f_times : Addr} {od_times an_times : Option Addr} {sl_times : Array (Option Value)} {oc_times kV_times dc_times pm_times cd_times ct_times : Value}
    {f_law_cell_at : Addr} {od_law_cell_at an_law_cell_at : Option Addr} {sl_law_cell_at : Array (Option Value)} {oc_law_cell_at kV_law_cell_at dc_law_cell_at pm_law_cell_at cd_law_cell_at ct_law_cell_at : Value}
    {f_law_whole : Addr} {od_law_whole an_law_whole : Option Addr} {sl_law_whole : Array (Option Value)} {oc_law_whole kV_law_whole dc_law_whole pm_law_whole cd_law_whole ct_law_whole : Value}
    {f_law_frame_by : Addr} {od_law_frame_by an_law_frame_by : Option Addr} {sl_law_frame_by : Array (Option Value)} {oc_law_frame_by kV_law_frame_by dc_law_frame_by pm_law_frame_by cd_law_frame_by ct_law_frame_by : Value}
    {f_law_board_by : Addr} {od_law_board_by an_law_board_by : Option Addr} {sl_law_board_by : Array (Option Value)} {oc_law_board_by kV_law_board_by dc_law_board_by pm_law_board_by cd_law_board_by ct_law_board_by : Value}
    {f_law_worth : Addr} {od_law_worth an_law_worth : Option Addr} {sl_law_worth : Array (Option Value)} {oc_law_worth kV_law_worth dc_law_worth pm_law_worth cd_law_worth ct_law_worth : Value}
    {f_law_digits : Addr} {od_law_digits an_law_digits : Option Addr} {sl_law_digits : Array (Option Value)} {oc_law_digits kV_law_digits dc_law_digits pm_law_digits cd_law_digits ct_law_digits : Value}
    {f_law_is_list : Addr} {od_law_is_list an_law_is_list : Option Addr} {sl_law_is_list : Array (Option Value)} {oc_law_is_list kV_law_is_list dc_law_is_list pm_law_is_list cd_law_is_list ct_law_is_list : Value}
    {f_law_word_of : Addr} {od_law_word_of an_law_word_of : Option Addr} {sl_law_word_of : Array (Option Value)} {oc_law_word_of kV_law_word_of dc_law_word_of pm_law_word_of cd_law_word_of ct_law_word_of : Value}
    {f_law_less : Addr} {od_law_less an_law_less : Option Addr} {sl_law_less : Array (Option Value)} {oc_law_less kV_law_less dc_law_less pm_law_less cd_law_less ct_law_less : Value}
    {f_law : Addr} {od_law an_law : Option Addr} {sl_law : Array (Option Value)} {oc_law kV_law dc_law pm_law cd_law ct_law : Value}
    (z_len : PySem.W.nsIn K mainGlobals "len" = some none)
    (z_list : PySem.W.nsIn K mainGlobals "list" = some none)
    (z_range : PySem.W.nsIn K mainGlobals "range" = some none)
    (z_isinstance : PySem.W.nsIn K mainGlobals "isinstance" = some none)
    (z_zip : PySem.W.nsIn K mainGlobals "zip" = some none)
    (z_reversed : PySem.W.nsIn K mainGlobals "reversed" = some none)
    (z_sum : PySem.W.nsIn K mainGlobals "sum" = some none)
    (z_all : PySem.W.nsIn K mainGlobals "all" = some none)
    (z_abs : PySem.W.nsIn K mainGlobals "abs" = some none)
    (z_max : PySem.W.nsIn K mainGlobals "max" = some none)
    (z_min : PySem.W.nsIn K mainGlobals "min" = some none)
    (z_str : PySem.W.nsIn K mainGlobals "str" = some none)
    (z_int : PySem.W.nsIn K mainGlobals "int" = some none)
    (z_bool : PySem.W.nsIn K mainGlobals "bool" = some none)
    (z_tuple : PySem.W.nsIn K mainGlobals "tuple" = some none)
    (z_ValueError : PySem.W.nsIn K mainGlobals "ValueError" = some none)
    (g_MOST : PySem.W.nsIn K mainGlobals "MOST" = some (some (.int 11 t_MOST)))
    (g_NoFrame : PySem.W.nsIn K mainGlobals "NoFrame" = some (some (.ref C_NoFrame)))
    (x_NoFrame : PySem.W.excIn K C_NoFrame [.type "ValueError", .type "Exception", .type "BaseException", .type "object"] "ValueError.__new__" = true)
    (k_NoFrame : PySem.W.keepIn K (.ref C_NoFrame) = true)
    (b_NoFrame : PySem.W.subIn K (.ref C_NoFrame) (.type "BaseException") = some true)
    (t_NoFrame : PySem.W.typeIn K (.ref C_NoFrame) = some (.type "type"))
    (g_NoBoard : PySem.W.nsIn K mainGlobals "NoBoard" = some (some (.ref C_NoBoard)))
    (x_NoBoard : PySem.W.excIn K C_NoBoard [.type "ValueError", .type "Exception", .type "BaseException", .type "object"] "ValueError.__new__" = true)
    (k_NoBoard : PySem.W.keepIn K (.ref C_NoBoard) = true)
    (b_NoBoard : PySem.W.subIn K (.ref C_NoBoard) (.type "BaseException") = some true)
    (t_NoBoard : PySem.W.typeIn K (.ref C_NoBoard) = some (.type "type"))
    (g_NoNumber : PySem.W.nsIn K mainGlobals "NoNumber" = some (some (.ref C_NoNumber)))
    (x_NoNumber : PySem.W.excIn K C_NoNumber [.type "ValueError", .type "Exception", .type "BaseException", .type "object"] "ValueError.__new__" = true)
    (k_NoNumber : PySem.W.keepIn K (.ref C_NoNumber) = true)
    (b_NoNumber : PySem.W.subIn K (.ref C_NoNumber) (.type "BaseException") = some true)
    (t_NoNumber : PySem.W.typeIn K (.ref C_NoNumber) = some (.type "type"))
    (g_NoStep : PySem.W.nsIn K mainGlobals "NoStep" = some (some (.ref C_NoStep)))
    (x_NoStep : PySem.W.excIn K C_NoStep [.type "ValueError", .type "Exception", .type "BaseException", .type "object"] "ValueError.__new__" = true)
    (k_NoStep : PySem.W.keepIn K (.ref C_NoStep) = true)
    (b_NoStep : PySem.W.subIn K (.ref C_NoStep) (.type "BaseException") = some true)
    (t_NoStep : PySem.W.typeIn K (.ref C_NoStep) = some (.type "type"))
    (g_NoWay : PySem.W.nsIn K mainGlobals "NoWay" = some (some (.ref C_NoWay)))
    (x_NoWay : PySem.W.excIn K C_NoWay [.type "ValueError", .type "Exception", .type "BaseException", .type "object"] "ValueError.__new__" = true)
    (k_NoWay : PySem.W.keepIn K (.ref C_NoWay) = true)
    (b_NoWay : PySem.W.subIn K (.ref C_NoWay) (.type "BaseException") = some true)
    (t_NoWay : PySem.W.typeIn K (.ref C_NoWay) = some (.type "type"))
    (g_TooLong : PySem.W.nsIn K mainGlobals "TooLong" = some (some (.ref C_TooLong)))
    (x_TooLong : PySem.W.excIn K C_TooLong [.type "ValueError", .type "Exception", .type "BaseException", .type "object"] "ValueError.__new__" = true)
    (k_TooLong : PySem.W.keepIn K (.ref C_TooLong) = true)
    (b_TooLong : PySem.W.subIn K (.ref C_TooLong) (.type "BaseException") = some true)
    (t_TooLong : PySem.W.typeIn K (.ref C_TooLong) = some (.type "type"))
    (g_NoLess : PySem.W.nsIn K mainGlobals "NoLess" = some (some (.ref C_NoLess)))
    (x_NoLess : PySem.W.excIn K C_NoLess [.type "ValueError", .type "Exception", .type "BaseException", .type "object"] "ValueError.__new__" = true)
    (k_NoLess : PySem.W.keepIn K (.ref C_NoLess) = true)
    (b_NoLess : PySem.W.subIn K (.ref C_NoLess) (.type "BaseException") = some true)
    (t_NoLess : PySem.W.typeIn K (.ref C_NoLess) = some (.type "type"))
    (g_NoNote : PySem.W.nsIn K mainGlobals "NoNote" = some (some (.ref C_NoNote)))
    (x_NoNote : PySem.W.excIn K C_NoNote [.type "ValueError", .type "Exception", .type "BaseException", .type "object"] "ValueError.__new__" = true)
    (k_NoNote : PySem.W.keepIn K (.ref C_NoNote) = true)
    (b_NoNote : PySem.W.subIn K (.ref C_NoNote) (.type "BaseException") = some true)
    (t_NoNote : PySem.W.typeIn K (.ref C_NoNote) = some (.type "type"))
    (g_BoardError : PySem.W.nsIn K mainGlobals "BoardError" = some (some (.ref C_BoardError)))
    (xn_all : PySem.W.specialIn K (.builtin "object.__class__") "__get__" = some (some (.builtin "getset_descriptor.__get__")))
    (xt_all : PySem.W.takesIn K (.builtin "object.__class__") = some true)
    (xg_NoLess : PySem.W.findIn K (.ref C_NoLess) "__getattribute__" = some (some (.builtin "BaseException.__getattribute__")))
    (xk_NoLess : PySem.W.findIn K (.ref C_NoLess) "__getattr__" = some none)
    (xd_NoLess : PySem.W.hasDictIn K C_NoLess = true)
    (xa_NoLess : PySem.W.findIn K (.ref C_NoLess) "__class__" = some (some (.builtin "object.__class__")))
    (xm_NoLess : PySem.W.mroIn K C_NoLess (.type "object") = some true)
    (q0_NoLess : PySem.W.kitOne K (.ref C_NoLess) (.ref C_NoFrame) = some false)
    (q1_NoLess : PySem.W.kitOne K (.ref C_NoLess) (.ref C_NoBoard) = some false)
    (q2_NoLess : PySem.W.kitOne K (.ref C_NoLess) (.ref C_NoNumber) = some false)
    (q3_NoLess : PySem.W.kitOne K (.ref C_NoLess) (.ref C_NoStep) = some false)
    (q4_NoLess : PySem.W.kitOne K (.ref C_NoLess) (.ref C_NoWay) = some false)
    (q5_NoLess : PySem.W.kitOne K (.ref C_NoLess) (.ref C_TooLong) = some false)
    (q6_NoLess : PySem.W.kitOne K (.ref C_NoLess) (.ref C_NoLess) = some true)
    (q7_NoLess : PySem.W.kitOne K (.ref C_NoLess) (.ref C_NoNote) = some false)
    (qv_NoLess : PySem.W.kitOne K (.ref C_NoLess) (.type "ValueError") = some true)
    (qb_NoLess : PySem.W.exmOne K (.ref C_NoLess) (.ref C_BoardError) = some true)
    (a_asked_frame : PySem.W.nsIn K mainGlobals "asked_frame" = some (some (.ref f_asked_frame)))
    (l_asked_frame : K.lookup f_asked_frame = some ⟨oc_asked_frame, od_asked_frame, .func (PySem.W.fnOf "asked_frame" "asked_frame" (defArgs s_asked_frame) (defBody s_asked_frame) (defScope s_asked_frame) .none kV_asked_frame dc_asked_frame pm_asked_frame an_asked_frame cd_asked_frame ct_asked_frame), sl_asked_frame⟩)
    (c_asked_frame : PySem.W.codeIn K cd_asked_frame "asked_frame" = true)
    (p_asked_frame : PySem.W.keepIn K (.ref f_asked_frame) = true)
    (a_asked_board : PySem.W.nsIn K mainGlobals "asked_board" = some (some (.ref f_asked_board)))
    (l_asked_board : K.lookup f_asked_board = some ⟨oc_asked_board, od_asked_board, .func (PySem.W.fnOf "asked_board" "asked_board" (defArgs s_asked_board) (defBody s_asked_board) (defScope s_asked_board) .none kV_asked_board dc_asked_board pm_asked_board an_asked_board cd_asked_board ct_asked_board), sl_asked_board⟩)
    (c_asked_board : PySem.W.codeIn K cd_asked_board "asked_board" = true)
    (p_asked_board : PySem.W.keepIn K (.ref f_asked_board) = true)
    (a_worths : PySem.W.nsIn K mainGlobals "worths" = some (some (.ref f_worths)))
    (l_worths : K.lookup f_worths = some ⟨oc_worths, od_worths, .func (PySem.W.fnOf "worths" "worths" (defArgs s_worths) (defBody s_worths) (defScope s_worths) .none kV_worths dc_worths pm_worths an_worths cd_worths ct_worths), sl_worths⟩)
    (c_worths : PySem.W.codeIn K cd_worths "worths" = true)
    (p_worths : PySem.W.keepIn K (.ref f_worths) = true)
    (a_worth : PySem.W.nsIn K mainGlobals "worth" = some (some (.ref f_worth)))
    (l_worth : K.lookup f_worth = some ⟨oc_worth, od_worth, .func (PySem.W.fnOf "worth" "worth" (defArgs s_worth) (defBody s_worth) (defScope s_worth) .none kV_worth dc_worth pm_worth an_worth cd_worth ct_worth), sl_worth⟩)
    (c_worth : PySem.W.codeIn K cd_worth "worth" = true)
    (p_worth : PySem.W.keepIn K (.ref f_worth) = true)
    (a_board_of : PySem.W.nsIn K mainGlobals "board_of" = some (some (.ref f_board_of)))
    (l_board_of : K.lookup f_board_of = some ⟨oc_board_of, od_board_of, .func (PySem.W.fnOf "board_of" "board_of" (defArgs s_board_of) (defBody s_board_of) (defScope s_board_of) .none kV_board_of dc_board_of pm_board_of an_board_of cd_board_of ct_board_of), sl_board_of⟩)
    (c_board_of : PySem.W.codeIn K cd_board_of "board_of" = true)
    (p_board_of : PySem.W.keepIn K (.ref f_board_of) = true)
    (a_added : PySem.W.nsIn K mainGlobals "added" = some (some (.ref f_added)))
    (l_added : K.lookup f_added = some ⟨oc_added, od_added, .func (PySem.W.fnOf "added" "added" (defArgs s_added) (defBody s_added) (defScope s_added) .none kV_added dc_added pm_added an_added cd_added ct_added), sl_added⟩)
    (c_added : PySem.W.codeIn K cd_added "added" = true)
    (p_added : PySem.W.keepIn K (.ref f_added) = true)
    (a_less : PySem.W.nsIn K mainGlobals "less" = some (some (.ref f_less)))
    (l_less : K.lookup f_less = some ⟨oc_less, od_less, .func (PySem.W.fnOf "less" "less" (defArgs s_less) (defBody s_less) (defScope s_less) .none kV_less dc_less pm_less an_less cd_less ct_less), sl_less⟩)
    (c_less : PySem.W.codeIn K cd_less "less" = true)
    (p_less : PySem.W.keepIn K (.ref f_less) = true)
    (a_times : PySem.W.nsIn K mainGlobals "times" = some (some (.ref f_times)))
    (l_times : K.lookup f_times = some ⟨oc_times, od_times, .func (PySem.W.fnOf "times" "times" (defArgs s_times) (defBody s_times) (defScope s_times) .none kV_times dc_times pm_times an_times cd_times ct_times), sl_times⟩)
    (c_times : PySem.W.codeIn K cd_times "times" = true)
    (p_times : PySem.W.keepIn K (.ref f_times) = true)
    (a_law_cell_at : PySem.W.nsIn K mainGlobals "_law_cell_at" = some (some (.ref f_law_cell_at)))
    (l_law_cell_at : K.lookup f_law_cell_at = some ⟨oc_law_cell_at, od_law_cell_at, .func (PySem.W.fnOf "_law_cell_at" "_law_cell_at" (defArgs s_law_cell_at) (defBody s_law_cell_at) (defScope s_law_cell_at) .none kV_law_cell_at dc_law_cell_at pm_law_cell_at an_law_cell_at cd_law_cell_at ct_law_cell_at), sl_law_cell_at⟩)
    (c_law_cell_at : PySem.W.codeIn K cd_law_cell_at "_law_cell_at" = true)
    (p_law_cell_at : PySem.W.keepIn K (.ref f_law_cell_at) = true)
    (a_law_whole : PySem.W.nsIn K mainGlobals "_law_whole" = some (some (.ref f_law_whole)))
    (l_law_whole : K.lookup f_law_whole = some ⟨oc_law_whole, od_law_whole, .func (PySem.W.fnOf "_law_whole" "_law_whole" (defArgs s_law_whole) (defBody s_law_whole) (defScope s_law_whole) .none kV_law_whole dc_law_whole pm_law_whole an_law_whole cd_law_whole ct_law_whole), sl_law_whole⟩)
    (c_law_whole : PySem.W.codeIn K cd_law_whole "_law_whole" = true)
    (p_law_whole : PySem.W.keepIn K (.ref f_law_whole) = true)
    (a_law_frame_by : PySem.W.nsIn K mainGlobals "_law_frame_by" = some (some (.ref f_law_frame_by)))
    (l_law_frame_by : K.lookup f_law_frame_by = some ⟨oc_law_frame_by, od_law_frame_by, .func (PySem.W.fnOf "_law_frame_by" "_law_frame_by" (defArgs s_law_frame_by) (defBody s_law_frame_by) (defScope s_law_frame_by) .none kV_law_frame_by dc_law_frame_by pm_law_frame_by an_law_frame_by cd_law_frame_by ct_law_frame_by), sl_law_frame_by⟩)
    (c_law_frame_by : PySem.W.codeIn K cd_law_frame_by "_law_frame_by" = true)
    (p_law_frame_by : PySem.W.keepIn K (.ref f_law_frame_by) = true)
    (a_law_board_by : PySem.W.nsIn K mainGlobals "_law_board_by" = some (some (.ref f_law_board_by)))
    (l_law_board_by : K.lookup f_law_board_by = some ⟨oc_law_board_by, od_law_board_by, .func (PySem.W.fnOf "_law_board_by" "_law_board_by" (defArgs s_law_board_by) (defBody s_law_board_by) (defScope s_law_board_by) .none kV_law_board_by dc_law_board_by pm_law_board_by an_law_board_by cd_law_board_by ct_law_board_by), sl_law_board_by⟩)
    (c_law_board_by : PySem.W.codeIn K cd_law_board_by "_law_board_by" = true)
    (p_law_board_by : PySem.W.keepIn K (.ref f_law_board_by) = true)
    (a_law_worth : PySem.W.nsIn K mainGlobals "_law_worth" = some (some (.ref f_law_worth)))
    (l_law_worth : K.lookup f_law_worth = some ⟨oc_law_worth, od_law_worth, .func (PySem.W.fnOf "_law_worth" "_law_worth" (defArgs s_law_worth) (defBody s_law_worth) (defScope s_law_worth) .none kV_law_worth dc_law_worth pm_law_worth an_law_worth cd_law_worth ct_law_worth), sl_law_worth⟩)
    (c_law_worth : PySem.W.codeIn K cd_law_worth "_law_worth" = true)
    (p_law_worth : PySem.W.keepIn K (.ref f_law_worth) = true)
    (a_law_digits : PySem.W.nsIn K mainGlobals "_law_digits" = some (some (.ref f_law_digits)))
    (l_law_digits : K.lookup f_law_digits = some ⟨oc_law_digits, od_law_digits, .func (PySem.W.fnOf "_law_digits" "_law_digits" (defArgs s_law_digits) (defBody s_law_digits) (defScope s_law_digits) .none kV_law_digits dc_law_digits pm_law_digits an_law_digits cd_law_digits ct_law_digits), sl_law_digits⟩)
    (c_law_digits : PySem.W.codeIn K cd_law_digits "_law_digits" = true)
    (p_law_digits : PySem.W.keepIn K (.ref f_law_digits) = true)
    (a_law_is_list : PySem.W.nsIn K mainGlobals "_law_is_list" = some (some (.ref f_law_is_list)))
    (l_law_is_list : K.lookup f_law_is_list = some ⟨oc_law_is_list, od_law_is_list, .func (PySem.W.fnOf "_law_is_list" "_law_is_list" (defArgs s_law_is_list) (defBody s_law_is_list) (defScope s_law_is_list) .none kV_law_is_list dc_law_is_list pm_law_is_list an_law_is_list cd_law_is_list ct_law_is_list), sl_law_is_list⟩)
    (c_law_is_list : PySem.W.codeIn K cd_law_is_list "_law_is_list" = true)
    (p_law_is_list : PySem.W.keepIn K (.ref f_law_is_list) = true)
    (a_law_word_of : PySem.W.nsIn K mainGlobals "_law_word_of" = some (some (.ref f_law_word_of)))
    (l_law_word_of : K.lookup f_law_word_of = some ⟨oc_law_word_of, od_law_word_of, .func (PySem.W.fnOf "_law_word_of" "_law_word_of" (defArgs s_law_word_of) (defBody s_law_word_of) (defScope s_law_word_of) .none kV_law_word_of dc_law_word_of pm_law_word_of an_law_word_of cd_law_word_of ct_law_word_of), sl_law_word_of⟩)
    (c_law_word_of : PySem.W.codeIn K cd_law_word_of "_law_word_of" = true)
    (p_law_word_of : PySem.W.keepIn K (.ref f_law_word_of) = true)
    (a_law_less : PySem.W.nsIn K mainGlobals "_law_less" = some (some (.ref f_law_less)))
    (l_law_less : K.lookup f_law_less = some ⟨oc_law_less, od_law_less, .func (PySem.W.fnOf "_law_less" "_law_less" (defArgs s_law_less) (defBody s_law_less) (defScope s_law_less) .none kV_law_less dc_law_less pm_law_less an_law_less cd_law_less ct_law_less), sl_law_less⟩)
    (c_law_less : PySem.W.codeIn K cd_law_less "_law_less" = true)
    (p_law_less : PySem.W.keepIn K (.ref f_law_less) = true)
    (a_law : PySem.W.nsIn K mainGlobals "law" = some (some (.ref f_law)))
    (l_law : K.lookup f_law = some ⟨oc_law, od_law, .func (PySem.W.fnOf "law" "law" (defArgs s_law) (defBody s_law) (defScope s_law) .none kV_law dc_law pm_law an_law cd_law ct_law), sl_law⟩)
    (c_law : PySem.W.codeIn K cd_law "law" = true)
    (p_law : PySem.W.keepIn K (.ref f_law) = true) :
    ∃ fd : FuncData, (∀ (s : Shared) (v : Value), BindsTo s fd ⟨[v], []⟩ [("script", v)]) ∧ ∀ base : Heap, K.In base → base.Ns mainGlobals mg → FnOk l.prog w K mg base (L2.CX l.prog w) 6 fa fd ["script"] (sp_law K) := by
  have e := hfa.symm.trans (PySem.W.mg_of X G a_law)
  cases e
  have B : Bi mg := ⟨PySem.W.mg_none_of X G z_len, PySem.W.mg_none_of X G z_list, PySem.W.mg_none_of X G z_range, PySem.W.mg_none_of X G z_isinstance, PySem.W.mg_none_of X G z_zip, PySem.W.mg_none_of X G z_reversed, PySem.W.mg_none_of X G z_sum, PySem.W.mg_none_of X G z_all, PySem.W.mg_none_of X G z_abs, PySem.W.mg_none_of X G z_max, PySem.W.mg_none_of X G z_min, PySem.W.mg_none_of X G z_str, PySem.W.mg_none_of X G z_int, PySem.W.mg_none_of X G z_bool, PySem.W.mg_none_of X G z_tuple, PySem.W.mg_none_of X G z_ValueError⟩
  have m_MOST : ∃ t, mg "MOST" = some (.int 11 t) := ⟨_, PySem.W.mg_of X G g_MOST⟩
  have e_NoFrame : Er K mg "NoFrame" := er_mk (PySem.W.mg_of X G g_NoFrame) x_NoFrame k_NoFrame b_NoFrame t_NoFrame
  have e_NoBoard : Er K mg "NoBoard" := er_mk (PySem.W.mg_of X G g_NoBoard) x_NoBoard k_NoBoard b_NoBoard t_NoBoard
  have e_NoNumber : Er K mg "NoNumber" := er_mk (PySem.W.mg_of X G g_NoNumber) x_NoNumber k_NoNumber b_NoNumber t_NoNumber
  have e_NoStep : Er K mg "NoStep" := er_mk (PySem.W.mg_of X G g_NoStep) x_NoStep k_NoStep b_NoStep t_NoStep
  have e_NoWay : Er K mg "NoWay" := er_mk (PySem.W.mg_of X G g_NoWay) x_NoWay k_NoWay b_NoWay t_NoWay
  have e_TooLong : Er K mg "TooLong" := er_mk (PySem.W.mg_of X G g_TooLong) x_TooLong k_TooLong b_TooLong t_TooLong
  have e_NoLess : Er K mg "NoLess" := er_mk (PySem.W.mg_of X G g_NoLess) x_NoLess k_NoLess b_NoLess t_NoLess
  have e_NoNote : Er K mg "NoNote" := er_mk (PySem.W.mg_of X G g_NoNote) x_NoNote k_NoNote b_NoNote t_NoNote
  have e_BoardError : mg "BoardError" = some (.ref (ErA mg "BoardError")) := er_g (PySem.W.mg_of X G g_BoardError)
  have w_NoLess : Wd K mg (ErA mg "NoLess") 6 := wd_mk (PySem.W.mg_of X G g_NoLess) ⟨xg_NoLess, xk_NoLess, b_NoLess, xd_NoLess, xa_NoLess, xn_all, xt_all, xm_NoLess⟩ (PySem.W.mg_of X G g_NoFrame) (PySem.W.mg_of X G g_NoBoard) (PySem.W.mg_of X G g_NoNumber) (PySem.W.mg_of X G g_NoStep) (PySem.W.mg_of X G g_NoWay) (PySem.W.mg_of X G g_TooLong) (PySem.W.mg_of X G g_NoLess) (PySem.W.mg_of X G g_NoNote) (PySem.W.mg_of X G g_BoardError) q0_NoLess q1_NoLess q2_NoLess q3_NoLess q4_NoLess q5_NoLess q6_NoLess q7_NoLess qv_NoLess qb_NoLess
  have F_asked_frame := fun_mk (st := s_asked_frame) l_asked_frame c_asked_frame p_asked_frame
  have b_asked_frame := F_asked_frame.binds (ps := ["ratios"]) fun _ _ _ _ _ _ us hl => match us, hl with | [_], _ => rfl
  have F_asked_board := fun_mk (st := s_asked_board) l_asked_board c_asked_board p_asked_board
  have b_asked_board := F_asked_board.binds (ps := ["ratios", "board"]) fun _ _ _ _ _ _ us hl => match us, hl with | [_, _], _ => rfl
  have F_worths := fun_mk (st := s_worths) l_worths c_worths p_worths
  have b_worths := F_worths.binds (ps := ["ratios"]) fun _ _ _ _ _ _ us hl => match us, hl with | [_], _ => rfl
  have F_worth := fun_mk (st := s_worth) l_worth c_worth p_worth
  have b_worth := F_worth.binds (ps := ["ratios", "board"]) fun _ _ _ _ _ _ us hl => match us, hl with | [_, _], _ => rfl
  have F_board_of := fun_mk (st := s_board_of) l_board_of c_board_of p_board_of
  have b_board_of := F_board_of.binds (ps := ["ratios", "number"]) fun _ _ _ _ _ _ us hl => match us, hl with | [_, _], _ => rfl
  have F_added := fun_mk (st := s_added) l_added c_added p_added
  have b_added := F_added.binds (ps := ["ratios", "one", "other"]) fun _ _ _ _ _ _ us hl => match us, hl with | [_, _, _], _ => rfl
  have F_less := fun_mk (st := s_less) l_less c_less p_less
  have b_less := F_less.binds (ps := ["ratios", "one", "other"]) fun _ _ _ _ _ _ us hl => match us, hl with | [_, _, _], _ => rfl
  have F_times := fun_mk (st := s_times) l_times c_times p_times
  have b_times := F_times.binds (ps := ["ratios", "board", "number"]) fun _ _ _ _ _ _ us hl => match us, hl with | [_, _, _], _ => rfl
  have F_law_cell_at := fun_mk (st := s_law_cell_at) l_law_cell_at c_law_cell_at p_law_cell_at
  have b_law_cell_at := F_law_cell_at.binds (ps := ["script", "k"]) fun _ _ _ _ _ _ us hl => match us, hl with | [_, _], _ => rfl
  have F_law_whole := fun_mk (st := s_law_whole) l_law_whole c_law_whole p_law_whole
  have b_law_whole := F_law_whole.binds (ps := ["found"]) fun _ _ _ _ _ _ us hl => match us, hl with | [_], _ => rfl
  have F_law_frame_by := fun_mk (st := s_law_frame_by) l_law_frame_by c_law_frame_by p_law_frame_by
  have b_law_frame_by := F_law_frame_by.binds (ps := ["script"]) fun _ _ _ _ _ _ us hl => match us, hl with | [_], _ => rfl
  have F_law_board_by := fun_mk (st := s_law_board_by) l_law_board_by c_law_board_by p_law_board_by
  have b_law_board_by := F_law_board_by.binds (ps := ["script", "first", "ratios", "kind"]) fun _ _ _ _ _ _ us hl => match us, hl with | [_, _, _, _], _ => rfl
  have F_law_worth := fun_mk (st := s_law_worth) l_law_worth c_law_worth p_law_worth
  have b_law_worth := F_law_worth.binds (ps := ["ratios", "board"]) fun _ _ _ _ _ _ us hl => match us, hl with | [_, _], _ => rfl
  have F_law_digits := fun_mk (st := s_law_digits) l_law_digits c_law_digits p_law_digits
  have b_law_digits := F_law_digits.binds (ps := ["ratios", "number"]) fun _ _ _ _ _ _ us hl => match us, hl with | [_, _], _ => rfl
  have F_law_is_list := fun_mk (st := s_law_is_list) l_law_is_list c_law_is_list p_law_is_list
  have b_law_is_list := F_law_is_list.binds (ps := ["found", "due"]) fun _ _ _ _ _ _ us hl => match us, hl with | [_, _], _ => rfl
  have F_law_word_of := fun_mk (st := s_law_word_of) l_law_word_of c_law_word_of p_law_word_of
  have b_law_word_of := F_law_word_of.binds (ps := ["e"]) fun _ _ _ _ _ _ us hl => match us, hl with | [_], _ => rfl
  have F_law_less := fun_mk (st := s_law_less) l_law_less c_law_less p_law_less
  have b_law_less := F_law_less.binds (ps := ["ratios", "one", "other"]) fun _ _ _ _ _ _ us hl => match us, hl with | [_, _, _], _ => rfl
  have F_law := fun_mk (st := s_law) l_law c_law p_law
  refine ⟨PySem.W.fnOf "law" "law" (defArgs s_law) (defBody s_law) (defScope s_law) .none kV_law dc_law pm_law an_law cd_law ct_law, fun s v => .of_eq rfl, fun base _ _ => ?_⟩
  have c_asked_frame : Callee l.prog w K mg base 1 "asked_frame" ["ratios"] (sp_asked_frame K mg) := Callee.mk' (ok_asked_frame F_asked_frame B (m_MOST := m_MOST) (e_NoFrame := e_NoFrame)) (PySem.W.mg_of X G a_asked_frame) p_asked_frame b_asked_frame
  have c_asked_board : Callee l.prog w K mg base 2 "asked_board" ["ratios", "board"] (sp_asked_board K mg) := Callee.mk' (ok_asked_board F_asked_board B (e_NoBoard := e_NoBoard) (c_asked_frame := c_asked_frame)) (PySem.W.mg_of X G a_asked_board) p_asked_board b_asked_board
  have c_worths : Callee l.prog w K mg base 2 "worths" ["ratios"] (sp_worths K mg) := Callee.mk' (ok_worths F_worths B (c_asked_frame := c_asked_frame)) (PySem.W.mg_of X G a_worths) p_worths b_worths
  have c_worth : Callee l.prog w K mg base 3 "worth" ["ratios", "board"] (sp_worth K mg) := Callee.mk' (ok_worth F_worth B (c_asked_board := c_asked_board) (c_worths := c_worths)) (PySem.W.mg_of X G a_worth) p_worth b_worth
  have c_board_of : Callee l.prog w K mg base 2 "board_of" ["ratios", "number"] (sp_board_of K mg) := Callee.mk' (ok_board_of F_board_of B (e_NoNumber := e_NoNumber) (c_asked_frame := c_asked_frame)) (PySem.W.mg_of X G a_board_of) p_board_of b_board_of
  have c_added : Callee l.prog w K mg base 4 "added" ["ratios", "one", "other"] (sp_added K mg) := Callee.mk' (ok_added F_added B (c_worth := c_worth) (c_board_of := c_board_of)) (PySem.W.mg_of X G a_added) p_added b_added
  have c_less : Callee l.prog w K mg base 4 "less" ["ratios", "one", "other"] (sp_less K mg) := Callee.mk' (ok_less F_less B (e_NoLess := e_NoLess) (c_board_of := c_board_of) (c_worth := c_worth)) (PySem.W.mg_of X G a_less) p_less b_less
  have c_times : Callee l.prog w K mg base 4 "times" ["ratios", "board", "number"] (sp_times K mg) := Callee.mk' (ok_times F_times B (e_NoNumber := e_NoNumber) (c_asked_board := c_asked_board) (c_board_of := c_board_of) (c_worth := c_worth)) (PySem.W.mg_of X G a_times) p_times b_times
  have c_law_cell_at : Callee l.prog w K mg base 1 "_law_cell_at" ["script", "k"] (sp_law_cell_at K mg) := Callee.mk' (ok_law_cell_at F_law_cell_at B) (PySem.W.mg_of X G a_law_cell_at) p_law_cell_at b_law_cell_at
  have c_law_whole : Callee l.prog w K mg base 1 "_law_whole" ["found"] (sp_law_whole K mg) := Callee.mk' (ok_law_whole F_law_whole B) (PySem.W.mg_of X G a_law_whole) p_law_whole b_law_whole
  have c_law_frame_by : Callee l.prog w K mg base 2 "_law_frame_by" ["script"] (sp_law_frame_by K mg) := Callee.mk' (ok_law_frame_by F_law_frame_by B (c_law_cell_at := c_law_cell_at)) (PySem.W.mg_of X G a_law_frame_by) p_law_frame_by b_law_frame_by
  have c_law_board_by : Callee l.prog w K mg base 2 "_law_board_by" ["script", "first", "ratios", "kind"] (sp_law_board_by K mg) := Callee.mk' (ok_law_board_by F_law_board_by B (c_law_cell_at := c_law_cell_at)) (PySem.W.mg_of X G a_law_board_by) p_law_board_by b_law_board_by
  have c_law_worth : Callee l.prog w K mg base 1 "_law_worth" ["ratios", "board"] (sp_law_worth K mg) := Callee.mk' (ok_law_worth F_law_worth B) (PySem.W.mg_of X G a_law_worth) p_law_worth b_law_worth
  have c_law_digits : Callee l.prog w K mg base 1 "_law_digits" ["ratios", "number"] (sp_law_digits K mg) := Callee.mk' (ok_law_digits F_law_digits B) (PySem.W.mg_of X G a_law_digits) p_law_digits b_law_digits
  have c_law_is_list : Callee l.prog w K mg base 2 "_law_is_list" ["found", "due"] (sp_law_is_list K mg) := Callee.mk' (ok_law_is_list F_law_is_list B (c_law_whole := c_law_whole)) (PySem.W.mg_of X G a_law_is_list) p_law_is_list b_law_is_list
  have c_law_word_of : CalleeE l.prog w K mg base 1 "_law_word_of" ["e"] (sp_law_word_of K mg) := CalleeE.mk' (ok_law_word_of F_law_word_of B (e_NoFrame := e_NoFrame) (e_NoBoard := e_NoBoard) (e_NoNumber := e_NoNumber) (e_NoStep := e_NoStep) (e_NoWay := e_NoWay) (e_TooLong := e_TooLong) (e_NoLess := e_NoLess) (e_NoNote := e_NoNote)) (PySem.W.mg_of X G a_law_word_of) p_law_word_of b_law_word_of
  have c_law_less : Callee l.prog w K mg base 5 "_law_less" ["ratios", "one", "other"] (sp_law_less K mg) := Callee.mk' (ok_law_less F_law_less B (e_BoardError := e_BoardError) (w_NoLess := w_NoLess) (c_less := c_less) (c_law_word_of := c_law_word_of)) (PySem.W.mg_of X G a_law_less) p_law_less b_law_less
  exact ok_law F_law B (c_law_frame_by := c_law_frame_by) (c_law_board_by := c_law_board_by) (c_law_worth := c_law_worth) (c_law_digits := c_law_digits) (c_times := c_times) (c_law_cell_at := c_law_cell_at) (c_added := c_added) (c_law_is_list := c_law_is_list) (c_law_less := c_law_less)
end CB
open PySem PySem.W PyProof.Rows
set_option maxRecDepth 100000 in
set_option maxHeartbeats 0 in
theorem PySem.Challenge.cw_countboard_k12_whole_sums_holds : PySem.Challenge.rw_countboard_k12_whole_sums.Holds := by
  w_on; o_law; k_head; (case hw => w_witness2)
  k_fill
  refine L2.walk_of (l := PySem.Challenge.rw_countboard_k12_whole_sums) (n := 63) (k := 6) (x := "script") (CX := fun w => L2.CX PySem.Challenge.rw_countboard_k12_whole_sums.prog w) (sp := fun w => CB.sp_law _) rfl (by decide) rfl ⟨rfl, by decide, by decide⟩ (fun w h Y => PySem.W.kIn_of Y) ?F (fun _ _ a ns hl _ hS => ⟨a, ns, rfl, hS, hl, fun _ => rfl⟩) (CB.no_err _)
  case F =>
    intro w mg fa h KX G hmg
    refine' CB.all_mk KX G hmg ?z_len ?z_list ?z_range ?z_isinstance ?z_zip ?z_reversed ?z_sum ?z_all ?z_abs ?z_max ?z_min ?z_str ?z_int ?z_bool ?z_tuple ?z_ValueError ?g_MOST ?g_NoFrame ?x_NoFrame ?k_NoFrame ?b_NoFrame ?t_NoFrame ?g_NoBoard ?x_NoBoard ?k_NoBoard ?b_NoBoard ?t_NoBoard ?g_NoNumber ?x_NoNumber ?k_NoNumber ?b_NoNumber ?t_NoNumber ?g_NoStep ?x_NoStep ?k_NoStep ?b_NoStep ?t_NoStep ?g_NoWay ?x_NoWay ?k_NoWay ?b_NoWay ?t_NoWay ?g_TooLong ?x_TooLong ?k_TooLong ?b_TooLong ?t_TooLong ?g_NoLess ?x_NoLess ?k_NoLess ?b_NoLess ?t_NoLess ?g_NoNote ?x_NoNote ?k_NoNote ?b_NoNote ?t_NoNote ?g_BoardError ?xn_all ?xt_all ?xg_NoLess ?xk_NoLess ?xd_NoLess ?xa_NoLess ?xm_NoLess ?q0_NoLess ?q1_NoLess ?q2_NoLess ?q3_NoLess ?q4_NoLess ?q5_NoLess ?q6_NoLess ?q7_NoLess ?qv_NoLess ?qb_NoLess ?a_asked_frame ?l_asked_frame ?c_asked_frame ?p_asked_frame ?a_asked_board ?l_asked_board ?c_asked_board ?p_asked_board ?a_worths ?l_worths ?c_worths ?p_worths ?a_worth ?l_worth ?c_worth ?p_worth ?a_board_of ?l_board_of ?c_board_of ?p_board_of ?a_added ?l_added ?c_added ?p_added ?a_less ?l_less ?c_less ?p_less ?a_times ?l_times ?c_times ?p_times ?a_law_cell_at ?l_law_cell_at ?c_law_cell_at ?p_law_cell_at ?a_law_whole ?l_law_whole ?c_law_whole ?p_law_whole ?a_law_frame_by ?l_law_frame_by ?c_law_frame_by ?p_law_frame_by ?a_law_board_by ?l_law_board_by ?c_law_board_by ?p_law_board_by ?a_law_worth ?l_law_worth ?c_law_worth ?p_law_worth ?a_law_digits ?l_law_digits ?c_law_digits ?p_law_digits ?a_law_is_list ?l_law_is_list ?c_law_is_list ?p_law_is_list ?a_law_word_of ?l_law_word_of ?c_law_word_of ?p_law_word_of ?a_law_less ?l_law_less ?c_law_less ?p_law_less ?a_law ?l_law ?c_law ?p_law
    (case z_len => k_is)
    (case z_list => k_is)
    (case z_range => k_is)
    (case z_isinstance => k_is)
    (case z_zip => k_is)
    (case z_reversed => k_is)
    (case z_sum => k_is)
    (case z_all => k_is)
    (case z_abs => k_is)
    (case z_max => k_is)
    (case z_min => k_is)
    (case z_str => k_is)
    (case z_int => k_is)
    (case z_bool => k_is)
    (case z_tuple => k_is)
    (case z_ValueError => k_is)
    (case g_MOST => k_is)
    (case g_NoFrame => k_is)
    (case x_NoFrame => k_exc)
    (case k_NoFrame => k_is)
    (case b_NoFrame => k_is)
    (case t_NoFrame => k_is)
    (case g_NoBoard => k_is)
    (case x_NoBoard => k_exc)
    (case k_NoBoard => k_is)
    (case b_NoBoard => k_is)
    (case t_NoBoard => k_is)
    (case g_NoNumber => k_is)
    (case x_NoNumber => k_exc)
    (case k_NoNumber => k_is)
    (case b_NoNumber => k_is)
    (case t_NoNumber => k_is)
    (case g_NoStep => k_is)
    (case x_NoStep => k_exc)
    (case k_NoStep => k_is)
    (case b_NoStep => k_is)
    (case t_NoStep => k_is)
    (case g_NoWay => k_is)
    (case x_NoWay => k_exc)
    (case k_NoWay => k_is)
    (case b_NoWay => k_is)
    (case t_NoWay => k_is)
    (case g_TooLong => k_is)
    (case x_TooLong => k_exc)
    (case k_TooLong => k_is)
    (case b_TooLong => k_is)
    (case t_TooLong => k_is)
    (case g_NoLess => k_is)
    (case x_NoLess => k_exc)
    (case k_NoLess => k_is)
    (case b_NoLess => k_is)
    (case t_NoLess => k_is)
    (case g_NoNote => k_is)
    (case x_NoNote => k_exc)
    (case k_NoNote => k_is)
    (case b_NoNote => k_is)
    (case t_NoNote => k_is)
    (case g_BoardError => k_is)
    (case xn_all => k_is)
    (case xt_all => k_is)
    (case xg_NoLess => k_is)
    (case xk_NoLess => k_is)
    (case xd_NoLess => k_is)
    (case xa_NoLess => k_is)
    (case xm_NoLess => k_is)
    (case q0_NoLess => kit_is)
    (case q1_NoLess => kit_is)
    (case q2_NoLess => kit_is)
    (case q3_NoLess => kit_is)
    (case q4_NoLess => kit_is)
    (case q5_NoLess => kit_is)
    (case q6_NoLess => kit_is)
    (case q7_NoLess => kit_is)
    (case qv_NoLess => kit_is)
    (case qb_NoLess => kts_exm)
    (case a_asked_frame => k_is)
    (case l_asked_frame => k_is)
    (case c_asked_frame => k_is)
    (case p_asked_frame => k_is)
    (case a_asked_board => k_is)
    (case l_asked_board => k_is)
    (case c_asked_board => k_is)
    (case p_asked_board => k_is)
    (case a_worths => k_is)
    (case l_worths => k_is)
    (case c_worths => k_is)
    (case p_worths => k_is)
    (case a_worth => k_is)
    (case l_worth => k_is)
    (case c_worth => k_is)
    (case p_worth => k_is)
    (case a_board_of => k_is)
    (case l_board_of => k_is)
    (case c_board_of => k_is)
    (case p_board_of => k_is)
    (case a_added => k_is)
    (case l_added => k_is)
    (case c_added => k_is)
    (case p_added => k_is)
    (case a_less => k_is)
    (case l_less => k_is)
    (case c_less => k_is)
    (case p_less => k_is)
    (case a_times => k_is)
    (case l_times => k_is)
    (case c_times => k_is)
    (case p_times => k_is)
    (case a_law_cell_at => k_is)
    (case l_law_cell_at => k_is)
    (case c_law_cell_at => k_is)
    (case p_law_cell_at => k_is)
    (case a_law_whole => k_is)
    (case l_law_whole => k_is)
    (case c_law_whole => k_is)
    (case p_law_whole => k_is)
    (case a_law_frame_by => k_is)
    (case l_law_frame_by => k_is)
    (case c_law_frame_by => k_is)
    (case p_law_frame_by => k_is)
    (case a_law_board_by => k_is)
    (case l_law_board_by => k_is)
    (case c_law_board_by => k_is)
    (case p_law_board_by => k_is)
    (case a_law_worth => k_is)
    (case l_law_worth => k_is)
    (case c_law_worth => k_is)
    (case p_law_worth => k_is)
    (case a_law_digits => k_is)
    (case l_law_digits => k_is)
    (case c_law_digits => k_is)
    (case p_law_digits => k_is)
    (case a_law_is_list => k_is)
    (case l_law_is_list => k_is)
    (case c_law_is_list => k_is)
    (case p_law_is_list => k_is)
    (case a_law_word_of => k_is)
    (case l_law_word_of => k_is)
    (case c_law_word_of => k_is)
    (case p_law_word_of => k_is)
    (case a_law_less => k_is)
    (case l_law_less => k_is)
    (case c_law_less => k_is)
    (case p_law_less => k_is)
    (case a_law => k_is)
    (case l_law => k_is)
    (case c_law => k_is)
    (case p_law => k_is)
