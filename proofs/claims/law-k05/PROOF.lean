import PyProof.Rows.All
import Wide.All
import OpenK.AllK
import Wide.FinOn
import HandS.ForMost
import HandS.ForExc
import HandS.Wide
import HandS.IsInst
import HandS.RevRange
import HandS.Zip
import HandS.Deep
import HandS.Conv
import HandS.Rev
import HandS.HotCalls
import HandS.ExcIs
import KE.RegKIsAll
import KE.RegKTryMore
import PySem.Challenge.RW_countboard_k05_steps
set_option Elab.async false
set_option linter.all false
set_option maxRecDepth 100000
set_option maxHeartbeats 4000000
namespace CB
open PySem
def top (i : Nat) : Stmt := PySem.Challenge.pw_countboard_k05_steps.main.body.getD i (.Pass ⟨0, 0, 0, 0⟩)
end CB
namespace CB
open PySem PySem.Spec PyProof.Rows L2
/-! ### a def that stands at its name and keeps its promise; the built-in names; the classes of errors -/
structure Callee (P : Program) (w : World) (K : PySem.W.Frag) (mg : Str → Option Value) (base : Heap) (k : Nat) (x : Str) (ps : List Str) (sp : Sp) : Prop where
  ex : ∃ (f : Addr) (fd : FuncData), FnOk P w K mg base (L2.CX P w) k f fd ps sp ∧ mg x = some (.ref f) ∧ PySem.W.keepIn K (.ref f) = true ∧ Binds K fd ps []
def ErA (mg : Str → Option Value) (x : Str) : Addr := match mg x with
  | some (.ref a) => a
  | _ => 0
structure Er (K : PySem.W.Frag) (mg : Str → Option Value) (x : Str) : Prop where
  gC : mg x = some (.ref (ErA mg x))
  xP : PySem.W.excIn K (ErA mg x) [.type "ValueError", .type "Exception", .type "BaseException", .type "object"] "ValueError.__new__" = true
  kP : PySem.W.keepIn K (.ref (ErA mg x)) = true
  bP : PySem.W.subIn K (.ref (ErA mg x)) (.type "BaseException") = some true
  tP : PySem.W.typeIn K (.ref (ErA mg x)) = some (.type "type")
theorem er_mk {K : PySem.W.Frag} {mg : Str → Option Value} {x : Str} {C : Addr} (g : mg x = some (.ref C)) (x1 : PySem.W.excIn K C [.type "ValueError", .type "Exception", .type "BaseException", .type "object"] "ValueError.__new__" = true)
    (k : PySem.W.keepIn K (.ref C) = true) (b : PySem.W.subIn K (.ref C) (.type "BaseException") = some true) (t : PySem.W.typeIn K (.ref C) = some (.type "type")) : Er K mg x := by
  have e : ErA mg x = C := by unfold ErA; rw [g]
  exact ⟨by rw [e]; exact g, by rw [e]; exact x1, by rw [e]; exact k, by rw [e]; exact b, by rw [e]; exact t⟩
structure Bi (mg : Str → Option Value) : Prop where
  len : mg "len" = none
  list : mg "list" = none
  range : mg "range" = none
  isinstance : mg "isinstance" = none
  zip : mg "zip" = none
  reversed : mg "reversed" = none
  sum : mg "sum" = none
  all : mg "all" = none
  abs : mg "abs" = none
  max : mg "max" = none
  min : mg "min" = none
  str : mg "str" = none
  int : mg "int" = none
  bool : mg "bool" = none
  tuple : mg "tuple" = none
  ValueError : mg "ValueError" = none
section
variable {X : Cx}
theorem pe_f {W : WX} {j k : Nat} {x : Str} {ps : List Str} {sp : Sp} {e : Expr} {es : List Expr} {t : TA} {p pos : Pos} (c : Callee X.prog X.w X.K X.mg X.base k x ps sp) (hr : Room j X.A) (hk : k ≤ j) (tk : Takes X W)
    (ha : PA X (e :: es) t) (hg : Gl X x := by rfl) (hdb : (x == ("__debug__" : Str)) = false := by decide) (he : starEach (e :: es) X.env = (false, eval e X.env) :: starEach es X.env := by rfl) (hpl : (backTo pos (starEach es X.env)).any (·.1) = false := by rfl) :
    PE X (.Call (.Name x p) (e :: es) [] pos) (tCallS sp (WE W) t) := by
  obtain ⟨f, fd, F, hm, hkp, hb⟩ := c
  exact pe_callS F (hr.mono hk) hg hm hkp hb (fun σ => passAt tk σ) ha hdb he hpl
end
theorem ix_listK {X : Cx} (K : PySem.W.Frag) (h : X.K = K) : IxR X (rIxL K) := h ▸ ix_list
theorem ix_tupK {X : Cx} (K : PySem.W.Frag) (h : X.K = K) : IxR X (rIxT K) := h ▸ ix_tup
theorem Callee.mk' {P : Program} {w : World} {K : PySem.W.Frag} {mg : Str → Option Value} {base : Heap} {k : Nat} {x : Str} {ps : List Str} {sp : Sp} {f : Addr} {fd : FuncData} (F : FnOk P w K mg base (L2.CX P w) k f fd ps sp) (hm : mg x = some (.ref f)) (hk : PySem.W.keepIn K (.ref f) = true) (hb : Binds K fd ps []) :
    Callee P w K mg base k x ps sp := ⟨f, fd, F, hm, hk, hb⟩
/-! ### what a def tells: a number, a truth, a text, a new list -/
def TellV (H : Hp) (Q : VK) (v : V) : Prop := ∀ H', Same H H' → Q v H'
def TellL (H : Hp) (Q : VK) (xs : List V) : Prop := ∀ (H' : Hp) (p : Addr), Same H H' → H p = none → H' p = some (.lst xs) → Q (.ref p) H'
def Raise (mg : Str → Option Value) (x : Str) (H : Hp) (E : XK) : Prop := ∀ H', Same H H' → E (.ref (ErA mg x)) none H'
theorem same_upd {H : Hp} {p : Addr} {o : HO} (h : H p = none) : Same H (upd H p o) := fun b u e => by
  rw [upd_ne (ne_of_none e h)]
  exact e
theorem get_map {xs : List Int} {i : Nat} {x : V} (h : (xs.map V.int)[i]? = some x) : ∃ z, xs[i]? = some z ∧ x = .int z := by
  rw [List.getElem?_map] at h
  cases e : xs[i]? with
  | none => rw [e] at h; cases h
  | some z => rw [e] at h; exact ⟨z, rfl, (Option.some.inj h).symm⟩
theorem map_get {xs : List Int} {i : Nat} {z : Int} (h : xs[i]? = some z) : (xs.map V.int)[i]? = some (.int z) := by
  rw [List.getElem?_map, h]
  all_goals rfl
theorem ix_of {n : Nat} {z : Int} {j : Nat} (e : z = (j : Int)) (h : j < n) : ixN n z = some j := by
  subst e
  unfold ixN
  rw [if_pos (by omega), if_pos (by omega), Int.toNat_natCast]
theorem take_more {α : Type} {l : List α} {i : Nat} {x : α} (h : l[i]? = some x) : l.take (i + 1) = l.take i ++ [x] := by
  rw [List.take_add_one, h]
  all_goals rfl
theorem small64 {n : Nat} (h : n ≤ 100000) : n < sizeLine := Nat.lt_of_le_of_lt h (by decide)
theorem small64' {n : Nat} (h : n ≤ 100000) : n ≤ sizeLine := Nat.le_of_lt (small64 h)
theorem ite_t {A B : Prop} {c : Bool} (hc : c = true) (h : A) : if c = true then A else B := by
  rw [if_pos hc]
  exact h
theorem ite_f {A B : Prop} {c : Bool} (hc : c = false) (h : B) : if c = true then A else B := by
  rw [hc, if_neg Bool.false_ne_true]
  exact h
end CB
namespace CB
open PySem PySem.Spec PyProof.Rows L2
/-- what a frame is -/
def GF (rs : List Int) : Prop := rs.length ≤ 11 ∧ ∀ r ∈ rs, 2 ≤ r ∧ r ≤ 12
/-! ### the mathematics: worths -/
def prodL (l : List Int) : Int := l.foldl (· * ·) 1
def worthsL (rs : List Int) : List Int := (List.range (rs.length + 1)).map fun k => prodL (rs.take k)
theorem prodL_snoc (l : List Int) (r : Int) : prodL (l ++ [r]) = prodL l * r := by
  unfold prodL
  rw [List.foldl_append]
  rfl
theorem foldl_mul (l : List Int) (x : Int) : l.foldl (· * ·) x = x * l.foldl (· * ·) 1 := by
  induction l generalizing x with
  | nil => simp
  | cons a l ih =>
    rw [List.foldl_cons, List.foldl_cons, ih (x * a), ih (1 * a), Int.one_mul, Int.mul_assoc]
theorem prodL_cons (r : Int) (l : List Int) : prodL (r :: l) = r * prodL l := by
  unfold prodL
  rw [List.foldl_cons, Int.one_mul, foldl_mul]
theorem prodL_bound {l : List Int} (h : ∀ r ∈ l, 2 ≤ r ∧ r ≤ 12) : 1 ≤ prodL l ∧ prodL l ≤ ((12 ^ l.length : Nat) : Int) := by
  induction l with
  | nil => exact ⟨by decide, by decide⟩
  | cons a l ih =>
    obtain ⟨h1, h2⟩ := ih fun r hr => h r (List.mem_cons_of_mem _ hr)
    obtain ⟨h3, h4⟩ := h a List.mem_cons_self
    rw [prodL_cons, List.length_cons, Nat.pow_succ, Nat.mul_comm, Int.natCast_mul]
    refine ⟨?_, ?_⟩
    · have := Int.mul_le_mul (show (1 : Int) ≤ a by omega) h1 (by decide) (by omega)
      omega
    · exact Int.mul_le_mul h4 h2 (by omega) (by decide)
theorem prodL_lt {l : List Int} (h : ∀ r ∈ l, 2 ≤ r ∧ r ≤ 12) (hl : l.length ≤ 11) : 1 ≤ prodL l ∧ prodL l < 2 ^ 40 := by
  obtain ⟨h1, h2⟩ := prodL_bound h
  refine ⟨h1, ?_⟩
  have h3 : 12 ^ l.length ≤ 12 ^ 11 := Nat.pow_le_pow_right (by decide) hl
  have h4 : 12 ^ 11 < 2 ^ 40 := by decide
  omega
theorem abs_lt_pow {z : Int} {n : Nat} (h0 : 0 ≤ z) (h : z < 2 ^ n) : z.natAbs < 2 ^ n := by
  have e : (z.natAbs : Int) = z := Int.natAbs_of_nonneg h0
  have : (z.natAbs : Int) < ((2 ^ n : Nat) : Int) := by
    rw [e]
    simpa using h
  omega
theorem frame_gf (g : Nat → Int) (n : Nat) (hn : n ≤ 11) : GF ((List.range n).map fun i => 2 + g i % 11) := by
  refine ⟨by rw [List.length_map, List.length_range]; exact hn, fun r hr => ?_⟩
  obtain ⟨i, _, rfl⟩ := List.mem_map.mp hr
  omega
end CB
namespace CB
open PySem PySem.Spec PyProof.Rows L2
/-! ### the mathematics: boards -/
def W : List Int → List Int → Int
  | r :: rs, b :: bs => b + r * W rs bs
  | [], b :: _ => b
  | _, [] => 0
/-- a board's lines -/
def GB (rs bs : List Int) : Prop := bs.length = rs.length + 1 ∧ ∀ b ∈ bs, 0 ≤ b
theorem GB.tail {r b : Int} {rs bs : List Int} (h : GB (r :: rs) (b :: bs)) : GB rs bs := ⟨by have := h.1; simpa using this, fun x hx => h.2 x (List.mem_cons_of_mem _ hx)⟩
def BS (bs : List Int) : Prop := ∀ b ∈ bs, b < 2 ^ 200
def Rat (rs : List Int) : Prop := ∀ r ∈ rs, 2 ≤ r ∧ r ≤ 12
theorem Rat.tail {r : Int} {rs : List Int} (h : Rat (r :: rs)) : Rat rs := fun x hx => h x (List.mem_cons_of_mem _ hx)
theorem Rat.head {r : Int} {rs : List Int} (h : Rat (r :: rs)) : 2 ≤ r ∧ r ≤ 12 := h r List.mem_cons_self
/-- the plain board of n -/
def D : List Int → Int → List Int
  | [], n => [n]
  | r :: rs, n => n % r :: D rs (n / r)
theorem D_len (rs : List Int) (n : Int) : (D rs n).length = rs.length + 1 := by
  induction rs generalizing n with
  | nil => rfl
  | cons r rs ih => simp [D, ih]
/-- how often each line is raised -/
def R : List Int → List Int → Int → List Int
  | r :: rs, b :: bs, c => (b + c) / r :: R rs bs ((b + c) / r)
  | _, _, _ => []
theorem worths_cons (r : Int) (rs : List Int) : worthsL (r :: rs) = 1 :: (worthsL rs).map (r * ·) := by
  unfold worthsL
  rw [List.length_cons, List.range_succ_eq_map, List.map_cons, List.map_map, List.map_map]
  refine congr (congrArg _ rfl) (List.map_congr_left fun k _ => ?_)
  show prodL ((r :: rs).take (k + 1)) = r * prodL (rs.take k)
  rw [List.take_succ_cons, prodL_cons]
theorem zipW_map (r : Int) : ∀ bs os : List Int, (List.zipWith (· * ·) bs (os.map (r * ·))).sum = r * (List.zipWith (· * ·) bs os).sum
  | [], _ => by simp
  | _ :: _, [] => by simp
  | b :: bs, o :: os => by
    rw [List.map_cons, List.zipWith_cons_cons, List.zipWith_cons_cons, List.sum_cons, List.sum_cons, zipW_map r bs os, Int.mul_add, Int.mul_left_comm]
theorem W_sum : ∀ rs bs : List Int, bs.length = rs.length + 1 → (List.zipWith (· * ·) bs (worthsL rs)).sum = W rs bs
  | [], [b], _ => by simp [worthsL, prodL, W]
  | [], [], h => by cases h
  | [], _ :: _ :: _, h => by simp at h
  | _ :: _, [], h => by cases h
  | r :: rs, b :: bs, h => by
    rw [worths_cons, List.zipWith_cons_cons, List.sum_cons, zipW_map, W_sum rs bs (by simpa using h), Int.mul_one]
    rfl
theorem W_nonneg : ∀ (rs bs : List Int), Rat rs → (∀ b ∈ bs, 0 ≤ b) → 0 ≤ W rs bs
  | [], [], _, _ => by simp [W]
  | [], b :: _, _, h => h b List.mem_cons_self
  | _ :: _, [], _, _ => by simp [W]
  | r :: rs, b :: bs, hr, h => by
    have h1 := W_nonneg rs bs hr.tail fun x hx => h x (List.mem_cons_of_mem _ hx)
    have h2 := h b List.mem_cons_self
    have h3 := hr.head
    have h4 := Int.mul_nonneg (show (0 : Int) ≤ r by omega) h1
    show 0 ≤ b + r * W rs bs
    omega
theorem W_lt {B : Nat} : ∀ (rs bs : List Int), Rat rs → (∀ b ∈ bs, 0 ≤ b) → (∀ b ∈ bs, b < ((2 ^ B : Nat) : Int)) → W rs bs < ((13 ^ rs.length * 2 ^ B : Nat) : Int)
  | [], [], _, _, _ => by
    have : 0 < 2 ^ B := Nat.pow_pos (by decide)
    simp only [W, List.length_nil, Nat.pow_zero, Nat.one_mul]
    omega
  | [], b :: _, _, _, h => by
    have := h b List.mem_cons_self
    simp only [W, List.length_nil, Nat.pow_zero, Nat.one_mul]
    exact this
  | r :: rs, [], _, _, _ => by
    have : 0 < 13 ^ (r :: rs).length * 2 ^ B := Nat.mul_pos (Nat.pow_pos (by decide)) (Nat.pow_pos (by decide))
    simp only [W]
    omega
  | r :: rs, b :: bs, hr, h0, h => by
    have h1 := W_nonneg rs bs hr.tail fun x hx => h0 x (List.mem_cons_of_mem _ hx)
    have h2 := W_lt rs bs hr.tail (fun x hx => h0 x (List.mem_cons_of_mem _ hx)) fun x hx => h x (List.mem_cons_of_mem _ hx)
    have h3 := h b List.mem_cons_self
    have h4 := hr.head
    have h5 : r * W rs bs ≤ 12 * W rs bs := Int.mul_le_mul_of_nonneg_right h4.2 h1
    have h6 : 2 ^ B ≤ 13 ^ rs.length * 2 ^ B := Nat.le_mul_of_pos_left _ (Nat.pow_pos (by decide))
    have h7 : 13 ^ (r :: rs).length * 2 ^ B = 13 * (13 ^ rs.length * 2 ^ B) := by rw [List.length_cons, Nat.pow_succ, Nat.mul_comm (13 ^ rs.length) 13, Nat.mul_assoc]
    show b + r * W rs bs < _
    rw [h7]
    omega
theorem W_small {rs bs : List Int} (g : GF rs) (h0 : ∀ b ∈ bs, 0 ≤ b) (h : ∀ b ∈ bs, b < 2 ^ 200) : 0 ≤ W rs bs ∧ W rs bs < 2 ^ 250 := by
  refine ⟨W_nonneg rs bs g.2 h0, ?_⟩
  have h1 := W_lt (B := 200) rs bs g.2 h0 fun b hb => by have := h b hb; rw [Int.natCast_pow]; exact this
  have h2 : 13 ^ rs.length ≤ 13 ^ 11 := Nat.pow_le_pow_right (by decide) g.1
  have h3 : 13 ^ rs.length * 2 ^ 200 ≤ 13 ^ 11 * 2 ^ 200 := Nat.mul_le_mul_right _ h2
  have h4 : 13 ^ 11 * 2 ^ 200 < 2 ^ 250 := by decide
  have h5 : ((13 ^ rs.length * 2 ^ 200 : Nat) : Int) < ((2 ^ 250 : Nat) : Int) := by omega
  have h6 : ((2 ^ 250 : Nat) : Int) = 2 ^ 250 := by rw [Int.natCast_pow]; rfl
  rw [h6] at h5
  omega
theorem D_W : ∀ (rs : List Int) (n : Int), Rat rs → W rs (D rs n) = n
  | [], n, _ => rfl
  | r :: rs, n, h => by
    show n % r + r * W rs (D rs (n / r)) = n
    rw [D_W rs (n / r) h.tail]
    exact Int.emod_add_mul_ediv n r
theorem D_nonneg : ∀ (rs : List Int) (n : Int), Rat rs → 0 ≤ n → ∀ b ∈ D rs n, 0 ≤ b
  | [], n, _, h0, b, hb => by
    have : b = n := by simpa [D] using hb
    omega
  | r :: rs, n, h, h0, b, hb => by
    have h3 := h.head
    rcases List.mem_cons.mp hb with e | hb
    · rw [e]
      exact Int.emod_nonneg n (by omega)
    · exact D_nonneg rs (n / r) h.tail (Int.ediv_nonneg h0 (by omega)) b hb
theorem D_GB (rs : List Int) (n : Int) (h : Rat rs) (h0 : 0 ≤ n) : GB rs (D rs n) := ⟨D_len rs n, D_nonneg rs n h h0⟩
theorem D_le : ∀ (rs : List Int) (n : Int), Rat rs → 0 ≤ n → ∀ b ∈ D rs n, b ≤ n
  | [], n, _, h0, b, hb => by
    have : b = n := by simpa [D] using hb
    omega
  | r :: rs, n, h, h0, b, hb => by
    have h3 := h.head
    have h4 : n / r ≤ n := Int.ediv_le_self _ h0
    rcases List.mem_cons.mp hb with e | hb
    · rw [e]
      have := Int.emod_add_mul_ediv n r
      have h5 := Int.mul_nonneg (show (0 : Int) ≤ r by omega) (Int.ediv_nonneg h0 (show (0 : Int) ≤ r by omega))
      omega
    · have := D_le rs (n / r) h.tail (Int.ediv_nonneg h0 (by omega)) b hb
      omega
/-- fewer counters than its ratio on each line but the last -/
def Pl : List Int → List Int → Prop
  | r :: rs, b :: bs => b < r ∧ Pl rs bs
  | _, _ => True
theorem D_Pl : ∀ (rs : List Int) (n : Int), Rat rs → Pl rs (D rs n)
  | [], _, _ => trivial
  | r :: rs, n, h => by
    have h3 := h.head
    exact ⟨Int.emod_lt_of_pos n (by omega), D_Pl rs (n / r) h.tail⟩
/-- there is just one plain board of a worth -/
theorem D_uniq : ∀ (rs bs : List Int), Rat rs → GB rs bs → Pl rs bs → D rs (W rs bs) = bs
  | [], [b], _, _, _ => rfl
  | [], [], _, h, _ => by cases h.1
  | [], _ :: _ :: _, _, h, _ => by have := h.1; simp at this
  | _ :: _, [], _, h, _ => by cases h.1
  | r :: rs, b :: bs, hr, h, p => by
    have h3 := hr.head
    have h0 := h.2 b List.mem_cons_self
    have e1 : (b + r * W rs bs) % r = b := by
      rw [Int.add_mul_emod_self_left]
      exact Int.emod_eq_of_lt h0 p.1
    have e2 : (b + r * W rs bs) / r = W rs bs := by
      rw [Int.add_mul_ediv_left _ _ (by omega), Int.ediv_eq_zero_of_lt h0 p.1, Int.zero_add]
    show (b + r * W rs bs) % r :: D rs ((b + r * W rs bs) / r) = b :: bs
    rw [e1, e2, D_uniq rs bs hr.tail h.tail p.2]
theorem R_len : ∀ (rs bs : List Int) (c : Int), bs.length = rs.length + 1 → (R rs bs c).length = rs.length
  | [], [], _, _ => rfl
  | [], _ :: _, _, _ => rfl
  | _ :: _, [], _, h => by cases h
  | r :: rs, b :: bs, c, h => by
    show (R rs bs ((b + c) / r)).length + 1 = rs.length + 1
    rw [R_len rs bs _ (by simpa using h)]
end CB
namespace CB
open PySem PySem.Spec PyProof.Rows L2
theorem Pl_iff : ∀ rs bs : List Int, Pl rs bs ↔ ∀ (j : Nat) (r b : Int), rs[j]? = some r → bs[j]? = some b → b < r
  | [], bs => by simp [Pl]
  | r :: rs, [] => by simp [Pl]
  | r :: rs, b :: bs => by
    have ih := Pl_iff rs bs
    constructor
    · rintro ⟨h1, h2⟩ j r' b' hr hb
      cases j with
      | zero =>
        cases hr
        cases hb
        exact h1
      | succ j => exact ih.mp h2 j r' b' hr hb
    · intro h
      exact ⟨h 0 r b rfl rfl, ih.mpr fun j r' b' hr hb => h (j + 1) r' b' hr hb⟩
theorem bs_of20 {bs : List Int} (h : ∀ x ∈ bs, x < 10 ^ 20) : BS bs := fun b hb => by
  have h1 := h b hb
  have h2 : (10 : Int) ^ 20 < 2 ^ 200 := by decide
  omega
theorem and_true {a b : Bool} (h1 : a = true) (h2 : b = true) : (a && b) = true := by rw [h1, h2]; rfl
end CB
namespace CB
open PySem PySem.Spec PyProof.Rows L2
theorem W_step : ∀ (rs fs : List Int) (L : Nat) (r x y m : Int), fs.length = rs.length + 1 → rs[L]? = some r → fs[L]? = some x → fs[L + 1]? = some y → W rs ((fs.set (L + 1) (y - m)).set L (x + m * r)) = W rs fs
  | [], _, _, _, _, _, _, _, h, _, _ => by simp at h
  | r0 :: rs, [], _, _, _, _, _, h, _, _, _ => by cases h
  | r0 :: rs, [_], _, _, _, _, _, h, _, _, _ => by simp at h
  | r0 :: rs, f :: f2 :: fs, 0, r, x, y, m, h, hr, hx, hy => by
    cases hr
    cases hx
    cases hy
    show (f + m * r0) + r0 * W rs ((f2 - m) :: fs) = f + r0 * W rs (f2 :: fs)
    have e : W rs ((f2 - m) :: fs) = W rs (f2 :: fs) - m := by
      cases rs with
      | nil => rfl
      | cons s rs => show f2 - m + s * W rs fs = f2 + s * W rs fs - m; omega
    rw [e, Int.mul_sub, Int.mul_comm m r0]
    omega
  | r0 :: rs, f :: f2 :: fs, L + 1, r, x, y, m, h, hr, hx, hy => by
    have ih := W_step rs (f2 :: fs) L r x y m (by simpa using h) hr hx hy
    show f + r0 * W rs (((f2 :: fs).set (L + 1) (y - m)).set L (x + m * r)) = f + r0 * W rs (f2 :: fs)
    rw [ih]
theorem set_comm' {α : Type} {l : List α} {i j : Nat} {x y : α} (h : i ≠ j) : (l.set i x).set j y = (l.set j y).set i x := by
  refine List.ext_getElem? fun k => ?_
  rw [List.getElem?_set, List.getElem?_set, List.getElem?_set, List.getElem?_set]
  simp only [List.length_set]
  by_cases h1 : j = k <;> by_cases h2 : i = k
  · exact absurd (h2.trans h1.symm) h
  · simp [h1, h2]
  · simp [h1, h2]
  · simp [h1, h2]
theorem W_head (rs : List Int) (b c : Int) (bs : List Int) : W rs ((b + c) :: bs) = W rs (b :: bs) + c := by
  cases rs with
  | nil => rfl
  | cons r rs => show b + c + r * W rs bs = b + r * W rs bs + c; omega
/-- raising once for all on the lowest line -/
theorem D_carry (r : Int) (rs : List Int) (b b2 : Int) (bs : List Int) (h : 0 < r) : D (r :: rs) (W (r :: rs) (b :: b2 :: bs)) = b % r :: D rs (W rs ((b2 + b / r) :: bs)) := by
  show (b + r * W rs (b2 :: bs)) % r :: D rs ((b + r * W rs (b2 :: bs)) / r) = _
  rw [Int.add_mul_emod_self_left, Int.add_mul_ediv_left _ _ (by omega), W_head, Int.add_comm (b / r)]
theorem sumD : ∀ rs bs : List Int, Rat rs → GB rs bs → (D rs (W rs bs)).sum ≤ bs.sum ∧ ((D rs (W rs bs)).sum = bs.sum → D rs (W rs bs) = bs)
  | [], [b], _, _ => ⟨Int.le_refl _, fun _ => rfl⟩
  | [], [], _, h => by cases h.1
  | [], _ :: _ :: _, _, h => by have := h.1; simp at this
  | _ :: _, [], _, h => by cases h.1
  | _ :: _, [_], _, h => by have := h.1; simp at this
  | r :: rs, b :: b2 :: bs, hr, h => by
    have h3 := hr.head
    have hb := h.2 b List.mem_cons_self
    have hb2 := h.2 b2 (List.mem_cons_of_mem _ List.mem_cons_self)
    have hq : 0 ≤ b / r := Int.ediv_nonneg hb (by omega)
    have hg : GB rs ((b2 + b / r) :: bs) := ⟨by have := h.1; simpa using this, fun x hx => by
      rcases List.mem_cons.mp hx with e | hx
      · omega
      · exact h.2 x (List.mem_cons_of_mem _ (List.mem_cons_of_mem _ hx))⟩
    obtain ⟨i1, i2⟩ := sumD rs ((b2 + b / r) :: bs) hr.tail hg
    have e := Int.emod_add_mul_ediv b r
    have e2 : 2 * (b / r) ≤ r * (b / r) := Int.mul_le_mul_of_nonneg_right h3.1 hq
    rw [D_carry r rs b b2 bs (by omega)]
    rw [List.sum_cons] at i1 i2
    rw [List.sum_cons, List.sum_cons, List.sum_cons]
    refine ⟨by omega, fun hs => ?_⟩
    have hz : b / r = 0 := by omega
    rw [hz] at i2 hs e ⊢
    rw [Int.mul_zero, Int.add_zero] at e
    rw [Int.add_zero] at i2
    rw [Int.add_zero] at hs ⊢
    rw [i2 (by omega), e]
end CB
namespace CB
open PySem PySem.Spec PyProof.Rows L2
/-! ### equality of lists of numbers, of lists of such, of lists of steps -/
def dL (xs : List Int) : PyData := .list (xs.map .int)
def dStep (p : Int × Bool) : PyData := .tuple [.int p.1, .bool p.2]
theorem layAll {ds : List PyData} {n : Nat} (h : ∀ d ∈ ds, d.canLay0 = true ∧ d.depth ≤ n) : PyData.canLayAll0 ds = true ∧ PyData.depthAll ds ≤ n := by
  induction ds with
  | nil => exact ⟨rfl, by simp [PyData.depthAll]⟩
  | cons d ds ih =>
    obtain ⟨h1, h2⟩ := ih fun x hx => h x (List.mem_cons_of_mem _ hx)
    obtain ⟨h3, h4⟩ := h d List.mem_cons_self
    refine ⟨by simp [PyData.canLayAll0, h1, h3], ?_⟩
    simp only [PyData.depthAll]
    omega
theorem lay_int (i : Int) : (PyData.int i).canLay0 = true ∧ (PyData.int i).depth ≤ 0 := ⟨by simp [PyData.canLay0], by simp [PyData.depth]⟩
theorem lay_list {ds : List PyData} {n : Nat} (h : ∀ d ∈ ds, d.canLay0 = true ∧ d.depth ≤ n) : (PyData.list ds).canLay0 = true ∧ (PyData.list ds).depth ≤ n + 1 := by
  obtain ⟨h1, h2⟩ := layAll h
  refine ⟨by simpa [PyData.canLay0] using h1, ?_⟩
  simp only [PyData.depth]
  omega
theorem lay_dL (xs : List Int) : (dL xs).canLay0 = true ∧ (dL xs).depth ≤ 1 := lay_list (n := 0) fun d hd => by
  obtain ⟨i, _, rfl⟩ := List.mem_map.mp hd
  exact lay_int i
theorem lay_dStep (p : Int × Bool) : (dStep p).canLay0 = true ∧ (dStep p).depth ≤ 1 := ⟨by simp [dStep, PyData.canLay0, PyData.canLayAll0], by simp [dStep, PyData.depth, PyData.depthAll]⟩
theorem shaped_of {d : PyData} {n : Nat} (h : d.canLay0 = true ∧ d.depth ≤ n) (hn : n ≤ 64) : SeqAt.shaped d = true := by
  unfold SeqAt.shaped
  rw [h.1, Bool.true_and]
  exact decide_eq_true (Nat.le_trans h.2 hn)
theorem shaped_dL (xs : List Int) : SeqAt.shaped (dL xs) = true := shaped_of (lay_dL xs) (by decide)
theorem shaped_dLL (xss : List (List Int)) : SeqAt.shaped (.list (xss.map dL)) = true := shaped_of (lay_list (n := 1) fun d hd => by
  obtain ⟨xs, _, rfl⟩ := List.mem_map.mp hd
  exact lay_dL xs) (by decide)
theorem shaped_dStep (p : Int × Bool) : SeqAt.shaped (dStep p) = true := shaped_of (lay_dStep p) (by decide)
theorem shaped_dLT (ps : List (Int × Bool)) : SeqAt.shaped (.list (ps.map dStep)) = true := shaped_of (lay_list (n := 1) fun d hd => by
  obtain ⟨p, _, rfl⟩ := List.mem_map.mp hd
  exact lay_dStep p) (by decide)
theorem eqvAll_map {α : Type} [DecidableEq α] {f : α → PyData} (h : ∀ a b, PyData.eqv (f a) (f b) = decide (a = b)) : ∀ xs ys : List α, PyData.eqvAll (xs.map f) (ys.map f) = decide (xs = ys)
  | [], [] => by simp [PyData.eqvAll]
  | [], _ :: _ => by simp [PyData.eqvAll]
  | _ :: _, [] => by simp [PyData.eqvAll]
  | x :: xs, y :: ys => by
    simp only [List.map_cons, PyData.eqvAll, h, eqvAll_map h xs ys]
    by_cases e1 : x = y <;> by_cases e2 : xs = ys <;> simp [e1, e2]
theorem eqv_int (a b : Int) : PyData.eqv (.int a) (.int b) = decide (a = b) := by simp only [PyData.eqv]; exact Bool.beq_eq_decide_eq _ _
theorem eqv_dL (xs ys : List Int) : PyData.eqv (dL xs) (dL ys) = decide (xs = ys) := by
  unfold dL
  simp only [PyData.eqv]
  exact eqvAll_map eqv_int xs ys
theorem eqv_dLL (xs ys : List (List Int)) : PyData.eqv (.list (xs.map dL)) (.list (ys.map dL)) = decide (xs = ys) := by
  simp only [PyData.eqv]
  exact eqvAll_map eqv_dL xs ys
theorem eqv_dStep (p q : Int × Bool) : PyData.eqv (dStep p) (dStep q) = decide (p = q) := by
  obtain ⟨a, b⟩ := p
  obtain ⟨c, d⟩ := q
  unfold dStep
  simp only [PyData.eqv, PyData.eqvAll, Bool.and_true]
  by_cases e1 : a = c <;> by_cases e2 : b = d <;> simp [e1, e2]
theorem eqv_dLT (xs ys : List (Int × Bool)) : PyData.eqv (.list (xs.map dStep)) (.list (ys.map dStep)) = decide (xs = ys) := by
  simp only [PyData.eqv]
  exact eqvAll_map eqv_dStep xs ys
section
variable {K : PySem.W.Frag} {H : Hp}
theorem dpAll_int : ∀ xs : List Int, DpAll K H (xs.map V.int) (xs.map PyData.int)
  | [] => .nil
  | x :: xs => .cons (.int x) (dpAll_int xs)
theorem dp_L {a : Addr} {xs : List Int} (h : SqL K H a (xs.map V.int)) : Dp K H (.ref a) (dL xs) := .lst h (dpAll_int xs)
theorem dp_L2 {a p q : Addr} {xs ys : List Int} (h : SqL K H a [.ref p, .ref q]) (hp : SqL K H p (xs.map V.int)) (hq : SqL K H q (ys.map V.int)) : Dp K H (.ref a) (.list ([xs, ys].map dL)) :=
  .lst h (.cons (dp_L hp) (.cons (dp_L hq) .nil))
theorem dp_L3 {a p q r : Addr} {xs ys zs : List Int} (h : SqL K H a [.ref p, .ref q, .ref r]) (hp : SqL K H p (xs.map V.int)) (hq : SqL K H q (ys.map V.int)) (hr : SqL K H r (zs.map V.int)) : Dp K H (.ref a) (.list ([xs, ys, zs].map dL)) :=
  .lst h (.cons (dp_L hp) (.cons (dp_L hq) (.cons (dp_L hr) .nil)))
end
end CB
namespace CB
open PySem PySem.Spec PyProof.Rows L2
/-! ### a list that grows; walks over zip of any two lists -/
def Gr (H : Hp) (D : Addr) (out : List V) (i : Nat) (H' : Hp) : Prop := Same H H' ∧ H' D = some (.lst (out.take i))
theorem Gr.zero {H : Hp} {D : Addr} (out : List V) (h : H D = none) : Gr H D out 0 (upd H D (.lst [])) := ⟨same_upd h, upd_same⟩
theorem Gr.step {H H' H'' : Hp} {D : Addr} {out : List V} {i : Nat} {y : V} (g : Gr H D out i H') (h : H D = none) (hl : out.length ≤ 100000) (hy : out[i]? = some y) (s : Same H' H'') :
    H'' D = some (.lst (out.take i)) ∧ (out.take i).length < sizeLine ∧ Gr H D out (i + 1) (upd H'' D (.lst (out.take i ++ [y]))) := by
  refine ⟨s _ _ g.2, small64 (by rw [List.length_take]; omega), fun b o e => ?_, ?_⟩
  · rw [upd_ne (ne_of_none e h)]
    exact s _ _ (g.1 _ _ e)
  · rw [upd_same, take_more hy]
theorem Gr.done {H H' : Hp} {D : Addr} {out : List V} {i : Nat} (g : Gr H D out i H') (h : out.length ≤ i) : H' D = some (.lst out) := by
  have := g.2
  rw [List.take_of_length_le h] at this
  exact this
theorem lc_zip {K : PySem.W.Frag} {a b : Addr} {xs ys : List V} {g : TG} {tt : TT} {te : TE} {vs : List Nat} {σ : L2.St} {H1 : Hp} {D : Addr} {Qd : Hp → Prop} (n : Nat) (hn : n = min xs.length ys.length) (Pv : Nat → Hp → Prop) (h0 : Pv 0 (upd H1 D (.lst [])))
    (hq : ∀ i H, Pv i H → SqL K H a xs ∧ SqL K H b ys)
    (hs : ∀ (i : Nat) (x y : V) (T : Addr) (H : Hp), xs[i]? = some x → ys[i]? = some y → Pv i H → H T = none → g (.ref T) (wipe σ vs) (upd H T (.tup [x, y])) fun σ2 H2 => wipe σ2 vs = wipe σ vs ∧ tt σ2 H2 fun b H3 =>
      if b = true then te σ2 H3 fun y H4 => ∃ acc, H4 D = some (.lst acc) ∧ acc.length < sizeLine ∧ Pv (i + 1) (upd H4 D (.lst (acc ++ [y]))) else Pv (i + 1) H3) (hd : ∀ H, Pv n H → Qd H) :
    ∃ W : Nat → Nat → Hp → Prop, (∃ m, W 0 m (upd H1 D (.lst []))) ∧ ∀ i m H, W i m H →
      ((Itz K a b).stop i H ∧ Qd H) ∨ ((Itz K a b).go i H ∧ ∃ Nx : Hp → Prop, (∀ H', Nx H' → ∃ m', m' < m ∧ W (i + 1) m' H') ∧ ∀ x H', (Itz K a b).yld i H x H' → g x (wipe σ vs) H' fun σ2 H2 => wipe σ2 vs = wipe σ vs ∧ tt σ2 H2 fun b H3 =>
        if b = true then te σ2 H3 fun y H4 => ∃ acc, H4 D = some (.lst acc) ∧ acc.length < sizeLine ∧ Nx (upd H4 D (.lst (acc ++ [y]))) else Nx H3) := by
  refine ⟨fun i m H => m = n - i ∧ i ≤ n ∧ Pv i H, ⟨n, by simp, Nat.zero_le _, h0⟩, ?_⟩
  rintro i m H ⟨rfl, hi, p⟩
  obtain ⟨qx, qy⟩ := hq i H p
  by_cases hlt : i < n
  · have hl1 : i < xs.length := by omega
    have hl2 : i < ys.length := by omega
    refine .inr ⟨⟨xs, ys, _, _, qx, qy, List.getElem?_eq_getElem hl1, List.getElem?_eq_getElem hl2⟩, Pv (i + 1), fun H' p' => ⟨n - (i + 1), by omega, rfl, hlt, p'⟩, fun v H' y => ?_⟩
    obtain ⟨T, x', y', rfl, hT, rfl, f1, f2⟩ := y
    exact hs i x' y' T H (f1 xs qx) (f2 ys qy) p hT
  · have e : i = n := by omega
    subst e
    exact .inl ⟨⟨xs, ys, qx, qy, by omega⟩, hd H p⟩
theorem for_zip {K : PySem.W.Frag} {a b : Addr} {xs ys : List V} {g : TG} {tb : TS} {D : Ends} {σ : L2.St} {H : Hp} (n : Nat) (hn : n = min xs.length ys.length) (Pv : Nat → L2.St → Hp → Prop) (h0 : Pv 0 σ H) (hq : ∀ i σ H, Pv i σ H → SqL K H a xs ∧ SqL K H b ys)
    (hs : ∀ (i : Nat) (x y : V) (T : Addr) (σ : L2.St) (H : Hp), xs[i]? = some x → ys[i]? = some y → Pv i σ H → H T = none → g (.ref T) σ (upd H T (.tup [x, y])) fun σ2 H2 => tb { D with nx := Pv (i + 1), ct := Pv (i + 1), bk := D.nx } σ2 H2) (hd : ∀ σ H, Pv n σ H → D.nx σ H) :
    ∃ W : Nat → Nat → L2.St → Hp → Prop, (∃ m, W 0 m σ H) ∧ ∀ i m σ H, W i m σ H →
      ((Itz K a b).stop i H ∧ D.nx σ H) ∨ ((Itz K a b).go i H ∧ ∃ N : L2.St → Hp → Prop, (∀ σ' H', N σ' H' → ∃ m', m' < m ∧ W (i + 1) m' σ' H') ∧ ∀ v H', (Itz K a b).yld i H v H' → g v σ H' fun σ2 H2 => tb { D with nx := N, ct := N, bk := D.nx } σ2 H2) := by
  refine ⟨fun i m σ H => m = n - i ∧ i ≤ n ∧ Pv i σ H, ⟨n, rfl, Nat.zero_le _, h0⟩, ?_⟩
  rintro i m σ H ⟨rfl, hi, p⟩
  obtain ⟨qx, qy⟩ := hq i σ H p
  by_cases hlt : i < n
  · have hl1 : i < xs.length := by omega
    have hl2 : i < ys.length := by omega
    refine .inr ⟨⟨xs, ys, _, _, qx, qy, List.getElem?_eq_getElem hl1, List.getElem?_eq_getElem hl2⟩, Pv (i + 1), fun σ' H' p' => ⟨n - (i + 1), by omega, rfl, hlt, p'⟩, fun v H' y => ?_⟩
    obtain ⟨T, x', y', rfl, hT, rfl, f1, f2⟩ := y
    exact hs i x' y' T σ H (f1 xs qx) (f2 ys qy) p hT
  · have e : i = n := by omega
    subst e
    exact .inl ⟨⟨xs, ys, qx, qy, by omega⟩, hd σ H p⟩
end CB
namespace CB
open PySem PySem.Spec PyProof.Rows L2
/-! ### steps -/
def sg (up : Bool) : Int := if up then 1 else -1
def goesB (rs bs : List Int) (L : Nat) (up : Bool) : Bool := if up then decide (rs.getD L 0 ≤ bs.getD L 0) else decide (1 ≤ bs.getD (L + 1) 0)
def stepL (rs bs : List Int) (L : Nat) (up : Bool) : List Int := (bs.set L (bs.getD L 0 - sg up * rs.getD L 0)).set (L + 1) (bs.getD (L + 1) 0 + sg up)
def optP (rs bs : List Int) (L : Nat) (up : Bool) : List (Int × Bool) := if goesB rs bs L up = true then [((L : Int), up)] else []
def canP (rs bs : List Int) (i : Nat) : List (Int × Bool) := (List.range i).flatMap fun L => optP rs bs L true ++ optP rs bs L false
def canL (rs bs : List Int) : List (Int × Bool) := canP rs bs rs.length
theorem canP_succ (rs bs : List Int) (i : Nat) : canP rs bs (i + 1) = (canP rs bs i ++ optP rs bs i true) ++ optP rs bs i false := by
  unfold canP
  rw [List.range_succ, List.flatMap_append, List.flatMap_cons, List.flatMap_nil, List.append_nil, List.append_assoc]
theorem optP_len (rs bs : List Int) (L : Nat) (up : Bool) : (optP rs bs L up).length ≤ 1 := by
  unfold optP
  split <;> simp
theorem canP_len (rs bs : List Int) (i : Nat) : (canP rs bs i).length ≤ 2 * i := by
  induction i with
  | zero => exact Nat.le_refl _
  | succ i ih =>
    rw [canP_succ, List.length_append, List.length_append]
    have := optP_len rs bs i true
    have := optP_len rs bs i false
    omega
theorem mem_opt {rs bs : List Int} {L : Nat} {up : Bool} {p : Int × Bool} : p ∈ optP rs bs L up ↔ p = ((L : Int), up) ∧ goesB rs bs L up = true := by
  unfold optP
  split
  · rename_i h
    simp [h]
  · rename_i h
    simp [h]
theorem mem_can {rs bs : List Int} {p : Int × Bool} : p ∈ canL rs bs ↔ ∃ L : Nat, L < rs.length ∧ p.1 = (L : Int) ∧ goesB rs bs L p.2 = true := by
  unfold canL canP
  rw [List.mem_flatMap]
  constructor
  · rintro ⟨L, hL, hp⟩
    rcases List.mem_append.mp hp with h | h
    · obtain ⟨e, g⟩ := mem_opt.mp h
      subst e
      exact ⟨L, List.mem_range.mp hL, rfl, g⟩
    · obtain ⟨e, g⟩ := mem_opt.mp h
      subst e
      exact ⟨L, List.mem_range.mp hL, rfl, g⟩
  · rintro ⟨L, hL, e, g⟩
    obtain ⟨l, up⟩ := p
    simp only at e g
    subst e
    refine ⟨L, List.mem_range.mpr hL, List.mem_append.mpr ?_⟩
    cases up with
    | true => exact .inl (mem_opt.mpr ⟨rfl, g⟩)
    | false => exact .inr (mem_opt.mpr ⟨rfl, g⟩)
theorem stepL_len (rs bs : List Int) (L : Nat) (up : Bool) : (stepL rs bs L up).length = bs.length := by
  unfold stepL
  rw [List.length_set, List.length_set]
theorem stepL_get {rs bs : List Int} {L j : Nat} {up : Bool} (h : L + 1 < bs.length) : (stepL rs bs L up)[j]? = if j = L then some (bs.getD L 0 - sg up * rs.getD L 0) else if j = L + 1 then some (bs.getD (L + 1) 0 + sg up) else bs[j]? := by
  unfold stepL
  rw [List.getElem?_set, List.getElem?_set, List.length_set]
  by_cases h1 : j = L
  · subst h1
    rw [if_pos rfl, if_neg (by omega), if_pos rfl, if_pos (by omega)]
  · rw [if_neg h1]
    by_cases h2 : j = L + 1
    · subst h2
      rw [if_pos rfl, if_pos rfl, if_pos h]
    · rw [if_neg h2, if_neg (by omega), if_neg (by omega)]
theorem getD_of {l : List Int} {i : Nat} (h : i < l.length) : l[i]? = some (l.getD i 0) := by
  rw [List.getD_eq_getElem?_getD, List.getElem?_eq_getElem h]
  rfl
theorem W_stepL {rs bs : List Int} {L : Nat} (up : Bool) (hb : bs.length = rs.length + 1) (h : L < rs.length) : W rs (stepL rs bs L up) = W rs bs := by
  have := W_step rs bs L (rs.getD L 0) (bs.getD L 0) (bs.getD (L + 1) 0) (-(sg up)) hb (getD_of h) (getD_of (by omega)) (getD_of (by omega))
  unfold stepL
  rw [set_comm' (by omega)]
  rw [← this]
  congr 2
  · congr 1
    omega
  · rw [Int.neg_mul]
    omega
theorem GB_stepL {rs bs : List Int} {L : Nat} {up : Bool} (hr : Rat rs) (gb : GB rs bs) (h : L < rs.length) (hg : goesB rs bs L up = true) : GB rs (stepL rs bs L up) := by
  have hb := gb.1
  refine ⟨by rw [stepL_len]; exact hb, fun x hx => ?_⟩
  obtain ⟨j, hj⟩ := List.getElem?_of_mem hx
  rw [stepL_get (by omega)] at hj
  have hr0 := hr (rs.getD L 0) (List.mem_of_getElem? (getD_of h))
  have hb0 := gb.2 (bs.getD L 0) (List.mem_of_getElem? (getD_of (by omega)))
  have hb1 := gb.2 (bs.getD (L + 1) 0) (List.mem_of_getElem? (getD_of (by omega)))
  by_cases h1 : j = L
  · rw [if_pos h1] at hj
    have e := Option.some.inj hj
    cases up with
    | true =>
      have := of_decide_eq_true (show decide (rs.getD L 0 ≤ bs.getD L 0) = true from hg)
      simp only [sg, if_true, Int.one_mul] at e
      omega
    | false =>
      have e' : bs.getD L 0 - -1 * rs.getD L 0 = x := e
      omega
  · rw [if_neg h1] at hj
    by_cases h2 : j = L + 1
    · rw [if_pos h2] at hj
      have e := Option.some.inj hj
      cases up with
      | true =>
        have e' : bs.getD (L + 1) 0 + 1 = x := e
        omega
      | false =>
        have := of_decide_eq_true (show decide (1 ≤ bs.getD (L + 1) 0) = true from hg)
        have e' : bs.getD (L + 1) 0 + -1 = x := e
        omega
    · rw [if_neg h2] at hj
      exact gb.2 x (List.mem_of_getElem? hj)
theorem sg_not (up : Bool) : sg (!up) = - sg up := by cases up <;> rfl
theorem stepL_getD {rs bs : List Int} {L : Nat} {up : Bool} (h : L + 1 < bs.length) : (stepL rs bs L up).getD L 0 = bs.getD L 0 - sg up * rs.getD L 0 ∧ (stepL rs bs L up).getD (L + 1) 0 = bs.getD (L + 1) 0 + sg up := by
  constructor
  · rw [List.getD_eq_getElem?_getD, stepL_get h, if_pos rfl]
    rfl
  · rw [List.getD_eq_getElem?_getD, stepL_get h, if_neg (by omega), if_pos rfl]
    rfl
/-- the contrary step can be done and leads back -/
theorem step_back {rs bs : List Int} {L : Nat} {up : Bool} (hr : Rat rs) (gb : GB rs bs) (h : L < rs.length) : goesB rs (stepL rs bs L up) L (!up) = true ∧ stepL rs (stepL rs bs L up) L (!up) = bs := by
  have hb := gb.1
  have hl : L + 1 < bs.length := by omega
  have hb0 := gb.2 (bs.getD L 0) (List.mem_of_getElem? (getD_of (by omega)))
  have hb1 := gb.2 (bs.getD (L + 1) 0) (List.mem_of_getElem? (getD_of (by omega)))
  obtain ⟨e1, e2⟩ := stepL_getD (rs := rs) (bs := bs) (L := L) (up := up) hl
  constructor
  · cases up with
    | true =>
      show decide (1 ≤ (stepL rs bs L true).getD (L + 1) 0) = true
      rw [e2]
      exact decide_eq_true (show 1 ≤ bs.getD (L + 1) 0 + 1 by omega)
    | false =>
      show decide (rs.getD L 0 ≤ (stepL rs bs L false).getD L 0) = true
      rw [e1]
      exact decide_eq_true (show rs.getD L 0 ≤ bs.getD L 0 - -1 * rs.getD L 0 by omega)
  · refine List.ext_getElem? fun j => ?_
    rw [stepL_get (by rw [stepL_len]; exact hl), e1, e2, sg_not]
    by_cases h1 : j = L
    · rw [if_pos h1, h1, getD_of (show L < bs.length by omega)]
      congr 1
      rw [Int.neg_mul]
      omega
    · rw [if_neg h1]
      by_cases h2 : j = L + 1
      · rw [if_pos h2, h2, getD_of hl]
        congr 1
        omega
      · rw [if_neg h2, stepL_get hl, if_neg h1, if_neg h2]
/-! ### steps in the heap -/
def Tups (H : Hp) : List Addr → List (Int × Bool) → Prop
  | [], [] => True
  | t :: ts, s :: ss => H t = some (.tup [.int s.1, .bl s.2]) ∧ Tups H ts ss
  | _, _ => False
theorem Tups.imp {H H' : Hp} (k : ∀ t xs, H t = some (.tup xs) → H' t = some (.tup xs)) : ∀ {ts : List Addr} {ss : List (Int × Bool)}, Tups H ts ss → Tups H' ts ss
  | [], [], _ => trivial
  | [], _ :: _, h => h.elim
  | _ :: _, [], h => h.elim
  | t :: ts, s :: ss, h => ⟨k _ _ h.1, Tups.imp k h.2⟩
theorem Tups.same {H H' : Hp} {ts : List Addr} {ss : List (Int × Bool)} (h : Tups H ts ss) (s : Same H H') : Tups H' ts ss := h.imp fun t xs e => s _ _ e
theorem Tups.upd {H : Hp} {p : Addr} {xs : List V} {o : HO} {ts : List Addr} {ss : List (Int × Bool)} (h : Tups H ts ss) (e : H p = some (.lst xs)) : Tups (L2.upd H p o) ts ss := h.imp fun t ys e' => by
  rw [upd_ne (ne_of e' e (fun z => by cases z))]
  exact e'
theorem Tups.len {H : Hp} : ∀ {ts : List Addr} {ss : List (Int × Bool)}, Tups H ts ss → ts.length = ss.length
  | [], [], _ => rfl
  | [], _ :: _, h => h.elim
  | _ :: _, [], h => h.elim
  | t :: ts, s :: ss, h => by rw [List.length_cons, List.length_cons, Tups.len h.2]
theorem Tups.append {H : Hp} : ∀ {ts us : List Addr} {ss rr : List (Int × Bool)}, Tups H ts ss → Tups H us rr → Tups H (ts ++ us) (ss ++ rr)
  | [], _, [], _, _, h => h
  | [], _, _ :: _, _, h, _ => h.elim
  | _ :: _, _, [], _, h, _ => h.elim
  | t :: ts, us, s :: ss, rr, h, h2 => ⟨h.1, Tups.append h.2 h2⟩
theorem Tups.get {H : Hp} : ∀ {ts : List Addr} {ss : List (Int × Bool)} {i : Nat} {s : Int × Bool}, Tups H ts ss → ss[i]? = some s → ∃ t, ts[i]? = some t ∧ H t = some (.tup [.int s.1, .bl s.2])
  | [], [], i, s, _, e => by simp at e
  | [], _ :: _, _, _, h, _ => h.elim
  | _ :: _, [], _, _, h, _ => h.elim
  | t :: ts, s :: ss, 0, s', h, e => by
    cases e
    exact ⟨t, rfl, h.1⟩
  | t :: ts, s :: ss, i + 1, s', h, e => Tups.get (i := i) h.2 e
def TellT (H : Hp) (Q : VK) (ss : List (Int × Bool)) : Prop := ∀ (H' : Hp) (p : Addr) (ts : List Addr), Same H H' → H p = none → H' p = some (.lst (ts.map V.ref)) → Tups H' ts ss → Q (.ref p) H'
theorem dpAll_T {K : PySem.W.Frag} {H : Hp} : ∀ {ts : List Addr} {ss : List (Int × Bool)}, Tups H ts ss → DpAll K H (ts.map V.ref) (ss.map dStep)
  | [], [], _ => .nil
  | [], _ :: _, h => h.elim
  | _ :: _, [], h => h.elim
  | t :: ts, s :: ss, h => .cons (.tup (SqT.of h.1) (.cons (.int _) (.cons (.bl _) .nil))) (dpAll_T h.2)
theorem dp_LT {K : PySem.W.Frag} {H : Hp} {a : Addr} {ts : List Addr} {ss : List (Int × Bool)} (h : SqL K H a (ts.map V.ref)) (t : Tups H ts ss) : Dp K H (.ref a) (.list (ss.map dStep)) := .lst h (dpAll_T t)
theorem dp_T {K : PySem.W.Frag} {H : Hp} {a : Addr} {s : Int × Bool} (h : H a = some (.tup [.int s.1, .bl s.2])) : Dp K H (.ref a) (dStep s) := .tup (SqT.of h) (.cons (.int _) (.cons (.bl _) .nil))
theorem units65 {A : Around} {k : Nat} (hr : Room k A) : A.units + 65 < cLine := by
  have := hr.un
  omega
theorem any_step (ss : List (Int × Bool)) (s : Int × Bool) : ((ss.map dStep).any fun z => PyData.eqv z (dStep s)) = decide (s ∈ ss) := by
  induction ss with
  | nil => simp
  | cons x xs ih =>
    rw [List.map_cons, List.any_cons, ih, eqv_dStep]
    by_cases h : x = s
    · simp [h]
    · have h' : ¬ s = x := fun z => h z.symm
      simp [h, h']
end CB
namespace CB
open PySem PySem.Spec PyProof.Rows L2
theorem opt_t {rs bs : List Int} {i : Nat} {up : Bool} (h : goesB rs bs i up = true) : optP rs bs i up = [((i : Int), up)] := by unfold optP; rw [if_pos h]
theorem opt_f {rs bs : List Int} {i : Nat} {up : Bool} (h : goesB rs bs i up = false) : optP rs bs i up = [] := by unfold optP; rw [h, if_neg Bool.false_ne_true]
/-- one more step at the end of a list of steps -/
theorem tup_app {H : Hp} {p t : Addr} {ts : List Addr} {ss : List (Int × Bool)} (s : Int × Bool) (hP : H p = some (.lst (ts.map V.ref))) (ht : Tups H ts ss) (nt : H t = none) :
    Tups (upd (upd H t (.tup [.int s.1, .bl s.2])) p (.lst (ts.map V.ref ++ [.ref t]))) (ts ++ [t]) (ss ++ [s]) ∧ (upd (upd H t (.tup [.int s.1, .bl s.2])) p (.lst (ts.map V.ref ++ [.ref t]))) p = some (.lst ((ts ++ [t]).map V.ref)) ∧
      ∀ H0, Same H0 H → H0 p = none → Same H0 (upd (upd H t (.tup [.int s.1, .bl s.2])) p (.lst (ts.map V.ref ++ [.ref t]))) := by
  have s1 := same_upd (o := .tup [.int s.1, .bl s.2]) nt
  have hp1 := s1 _ _ hP
  have dtp : p ≠ t := ne_of_none hP nt
  refine ⟨?_, by rw [upd_same, List.map_append]; rfl, fun H0 s0 n0 c o z => ?_⟩
  · refine Tups.append ((ht.same s1).upd hp1) ⟨?_, trivial⟩
    rw [upd_ne dtp.symm, upd_same]
  · rw [upd_ne (ne_of_none z n0)]
    exact s1 _ _ (s0 _ _ z)
end CB
namespace CB
open PySem PySem.Spec PyProof.Rows L2
/-- what a def of two boards asks of them; P: what it tells of good ones -/
def Two (mg : Str → Option Value) (H : Hp) (E : XK) (rs bs cs : List Int) (P : Prop) : Prop :=
  (GF rs → GB rs bs → BS bs ∧ (GB rs cs → BS cs ∧ P) ∧ (¬ GB rs cs → Raise mg "NoBoard" H E)) ∧ (¬ GF rs → E (.ref (ErA mg "NoFrame")) none H) ∧ (GF rs → ¬ GB rs bs → E (.ref (ErA mg "NoBoard")) none H)
theorem Two.good {mg : Str → Option Value} {H : Hp} {E : XK} {rs bs cs : List Int} {P : Prop} (g : GF rs) (gb : GB rs bs) (gc : GB rs cs) (sb : BS bs) (sc : BS cs) (p : P) : Two mg H E rs bs cs P :=
  ⟨fun _ _ => ⟨sb, fun _ => ⟨sc, p⟩, fun z => absurd gc z⟩, fun z => absurd g z, fun _ z => absurd gb z⟩
end CB
namespace CB
open PySem PySem.Spec PyProof.Rows L2
/-- one of two numbers, by a remainder -/
theorem pick2 {x y z : Int} (h : z = 0 ∨ z = 1) : ∃ m, (m = x ∨ m = y) ∧ atI [V.int x, V.int y] z = some (.int m) := by
  rcases h with rfl | rfl
  · exact ⟨x, .inl rfl, rfl⟩
  · exact ⟨y, .inr rfl, rfl⟩
theorem mod2 (c : Int) : c % 2 = 0 ∨ c % 2 = 1 := by omega
theorem D_cons (rs : List Int) (n : Int) : ∃ y ys, D rs n = y :: ys := by
  cases rs with
  | nil => exact ⟨n, [], rfl⟩
  | cons r rs => exact ⟨_, _, rfl⟩
end CB
namespace CB
open PySem PySem.Spec PyProof.Rows L2
/-! ### a def that is called on the exception that an except suite holds -/
/-- xs.count(y), flat items -/
def rCntV (K : PySem.W.Frag) : V → List V → Hp → VK → Prop := fun x xs H Q => ∃ (p : Addr) (ys : List V) (y : V), x = V.ref p ∧ xs = [y] ∧ SqL K H p ys ∧ flatV y = true ∧ ys.all flatV = true ∧ Q (.int (ys.countP (fun z => eqV z y) : Nat)) H
theorem count_eqU {y : V} : ∀ {xs : List V} {us : List Value}, Vals xs us → xs.all flatV = true → us.countP (eqU y) = xs.countP fun z => eqV z y
  | _, _, .nil, _ => rfl
  | _ :: _, _ :: _, .cons r t, f => by
    rw [List.all_cons, Bool.and_eq_true] at f
    rw [List.countP_cons, List.countP_cons, count_eqU t f.2, eqU_of r f.1]
theorem mt_countV {X : Cx} : MtR X "list.count" (rCntV X.K) := by
  intro pins s σ H x xs v us Q I rx rxs h
  obtain ⟨p, ys, y, rfl, rfl, hs, fy, fys, q⟩ := h
  cases rx
  obtain ⟨u, rfl, ru⟩ := rxs.one
  obtain ⟨its, rv, ⟨⟨cls, dd, data, sl⟩, n, ho, hc, hdn, hd⟩, hlen⟩ := I.list hs
  simp only at hc hd
  subst hc hd
  refine call_meets PySem.F.slot_list_count ⟨_, ho, rfl⟩ PySem.F.entry_list_count (PySem.F.args_list_count_2 _ _)
    (SeqAt.list_countAt p its.toArray n dd sl u (eqU y)) ⟨ho, fun w hw => mem_eqAt ru fy rv fys w (by simpa using hw), ?_⟩
  have ec : its.toArray.toList.countP (eqU y) = ys.countP fun z => eqV z y := count_eqU rv fys
  refine ⟨.int (ys.countP (fun z => eqV z y) : Nat), H, I.tok _, ⟨s.toks, ?_⟩, q⟩
  show Value.int ((its.toArray.toList.countP (eqU y) : Nat) : Int) s.toks = _
  rw [ec]
/-- isinstance of the exception that stands pinned -/
theorem call_isP {X : Cx} {a D : Addr} {oe : Obj} (hp : (a, oe) ∈ X.pn) (C : ExcC X.K D) (hz : Zc (.ref D) none oe) (hf : ∃ vs, oe.data = .fields vs) : CallR X (.builtin "isinstance") (rIsE X.K D a) := by
  intro pins s σ H xs us Q I r h
  obtain ⟨c, cv, b, rfl, hcv, e, q⟩ := h
  obtain ⟨u1, u2, rfl, r1, r2⟩ := vals2 r
  cases (show u1 = Value.ref a from r1)
  cases hcv _ r2
  obtain ⟨hget, _⟩ := I.pin (a, oe) (List.mem_append_left _ hp)
  obtain ⟨vs, hv⟩ := hf
  have J : PySem.W.InstAt s.heap a oe D none := by
    obtain ⟨oc, od, oda, osl⟩ := oe
    obtain ⟨h1, h2⟩ := hz
    dsimp only at h1 h2 hv
    subst h1 h2 hv
    exact ⟨hget, rfl, rfl, trivial⟩
  exact PySem.W.kia_one (PySem.W.handS_kitx_exc C.hg C.hk C.hs C.hd C.ha C.hn C.ht C.hm) I.kIn J e (fun z => nomatch z) fun tk => ⟨.bl b, H, I.kept (t' := tk) fun _ _ z => z, rfl, q⟩
/-- what such a def promises: of the exception at a, of the class at D -/
abbrev SpE := Addr → Addr → Sp
structure ExIs (D : Addr) (p : Addr × Obj) : Prop where
  z : Zc (.ref D) none p.2
  f : ∃ vs, p.2.data = .fields vs
structure FnE (P : Program) (w : World) (K : PySem.W.Frag) (mg : Str → Option Value) (base : Heap) (k : Nat) (f : Addr) (fd : FuncData) (ps : List Str) (sp : SpE) : Prop where
  len : ∀ a D vs H Q E, sp a D vs H Q E → vs.length = ps.length
  run : ∀ (A : Around) (outer : List Env) (s : Shared) (H : Hp) (args : Args) (us : List Value) (vs : List V) (Q : VK) (E : XK) (p : Addr × Obj) (D : Addr), L2H.RoomH k A → ExIs D p → L2H.PinOk outer H s p → Env0 P w K mg base A outer s H → BindsTo s fd args (ps.zip us) → Vals vs us → sp p.1 D vs H Q E →
    codeAny (model P w) A (.call (.ref f) args) (CR (L2.CX P w) outer P w H s Q E) s
theorem fn_ofE {P : Program} {w : World} {K : PySem.W.Frag} {mg : Str → Option Value} {base : Heap} {k : Nat} {f : Addr} {name qual : Str} {params : Arguments} {body : List Stmt} {scope : Scope} {dV kV doc pm cdv ct oc : Value} {an od : Option Addr}
    {osl : Array (Option Value)} {N ps : List Str} {sp : SpE} (lk : K.lookup f = some ⟨oc, od, .func (PySem.W.fnOf name qual params body scope dV kV doc pm an cdv ct), osl⟩) (hcd : PySem.W.codeIn K cdv qual = true) (S : FnScope N ps scope)
    (len : ∀ a D vs H Q E, sp a D vs H Q E → vs.length = ps.length)
    (hbody : ∀ (A : Around) (outer : List Env) (s : Shared) (H : Hp) (vs : List V) (Q : VK) (E : XK) (p : Addr × Obj) (D : Addr), ExIs D p → L2H.RoomH k (A.deeper (envOfC qual scope s.heap.objs.size f cdv)) → sp p.1 D vs H Q E →
      ∃ t, PSs (L2H.cxH (L2.CX P w) P w K mg base N qual scope f cdv A outer s H E p) body t ∧ t { nx := fun _ H' => Q .non H', rt := Q } (L2.start N vs) H) :
    FnE P w K mg base (k + 1) f (PySem.W.fnOf name qual params body scope dV kV doc pm an cdv ct) ps sp := by
  refine ⟨len, fun A outer s H args us vs Q E p D hr hex hpin e0 hb r hsp => ?_⟩
  have hl := len _ _ _ _ _ _ hsp
  have KX : K.In s.heap := e0.mod.kin.keeps fun b o e => (e0.bs b o e).1
  have lim : s.heap.NoLimit := e0.mod.nolimit.keeps fun b o e => (e0.bs b o e).1
  have hkind : ∀ y ∈ ps.zip us, scope.names.lookup y.1 = some .local ∨ (scope.names.lookup y.1 = some .cell ∧ ((cellsFrom (s.heap.objs.size + 1) scope.names []).lookup y.1).isSome = true) := fun ⟨n, v⟩ hy => by
    rcases S.par n (List.of_mem_zip hy).1 with q | q
    · exact .inl q
    · exact .inr ⟨q, PySem.W.cellsFrom_some _ _ _ (.inl q)⟩
  refine codeAny_call_function hr.depth (KX _ _ lk) rfl S.co S.gen rfl (PySem.W.codeRec_of KX hcd) (hb _ _ _ _ ?_)
  refine wpAny_newFunctionEnv_cells S.kind hkind fun env he s1 x => ?_
  subst he
  refine ⟨lim.keeps x.toInCall.keep, codeAny_func ?_⟩
  obtain ⟨t, ht, hq⟩ := hbody A outer s H vs Q E p D hex (hr.deeper _) hsp
  have I : Inv (L2H.cxH (L2.CX P w) P w K mg base N qual scope f cdv A outer s H E p) [] (L2.start N vs) H s1 := L2H.inv_startH S hpin e0 hl r x
  refine wpAny_mono (ht.run [] s1 (L2.start N vs) H _ I hq) (fun fl s' hs => ?_) fun e s' hs => hs
  have fin : ∀ {σ' : L2.St} {H' : Hp} {v : V} {u : Value}, Inv (L2H.cxH (L2.CX P w) P w K mg base N qual scope f cdv A outer s H E p) [] σ' H' s' → RelV v u → Q v H' → CE outer P w H s Q u s' :=
    fun {σ' H' v u} J rv q => ⟨v, H', J.os, J.bare, J.base, J.hok, rv, q⟩
  cases fl with
  | ret u =>
    obtain ⟨v, σ', H', J, rv, q⟩ := hs
    exact fin J rv q
  | next =>
    obtain ⟨σ', H', J, q⟩ := hs
    exact fin (v := V.non) (u := Value.none) J rfl q
  | brk =>
    obtain ⟨_, _, _, q⟩ := hs
    exact False.elim q
  | cont =>
    obtain ⟨_, _, _, q⟩ := hs
    exact False.elim q
theorem fun_okE {P : Program} {w : World} {K : PySem.W.Frag} {mg : Str → Option Value} {base : Heap} {x qual : Str} {st : Stmt} {f : Addr} {fd : FuncData} {N ps : List Str} {k : Nat} {sp : SpE} (F : Fun K x qual st f fd) (S : FnScope N ps (defScope st)) (len : ∀ a D vs H Q E, sp a D vs H Q E → vs.length = ps.length)
    (hbody : ∀ (cdv : Value) (A : Around) (outer : List Env) (s : Shared) (H : Hp) (vs : List V) (Q : VK) (E : XK) (p : Addr × Obj) (D : Addr), ExIs D p → L2H.RoomH k (A.deeper (envOfC qual (defScope st) s.heap.objs.size f cdv)) → sp p.1 D vs H Q E →
      ∃ t, PSs (L2H.cxH (L2.CX P w) P w K mg base N qual (defScope st) f cdv A outer s H E p) (defBody st) t ∧ t { nx := fun _ H' => Q .non H', rt := Q } (L2.start N vs) H) : FnE P w K mg base (k + 1) f fd ps sp := by
  obtain ⟨oc, od, kV, doc, pm, an, cdv, ct, osl, rfl, lk, hcd⟩ := F.ex
  exact fn_ofE lk hcd S len fun A outer s H vs Q E p D hex hr hsp => hbody cdv A outer s H vs Q E p D hex hr hsp
structure CalleeE (P : Program) (w : World) (K : PySem.W.Frag) (mg : Str → Option Value) (base : Heap) (k : Nat) (x : Str) (ps : List Str) (sp : SpE) : Prop where
  ex : ∃ (f : Addr) (fd : FuncData), FnE P w K mg base k f fd ps sp ∧ mg x = some (.ref f) ∧ PySem.W.keepIn K (.ref f) = true ∧ Binds K fd ps []
theorem CalleeE.mk' {P : Program} {w : World} {K : PySem.W.Frag} {mg : Str → Option Value} {base : Heap} {k : Nat} {x : Str} {ps : List Str} {sp : SpE} {f : Addr} {fd : FuncData} (F : FnE P w K mg base k f fd ps sp) (hm : mg x = some (.ref f)) (hk : PySem.W.keepIn K (.ref f) = true) (hb : Binds K fd ps []) :
    CalleeE P w K mg base k x ps sp := ⟨f, fd, F, hm, hk, hb⟩
/-- f(e) in the suite that holds the exception at a -/
def tCallE (a : Addr) (cls : Value) (d : Option Addr) (sp : SpE) (t : TA) : TE := fun σ H Q => t σ H fun vs H1 => ∃ D, cls = .ref D ∧ d = none ∧ sp a D vs H1 Q (fun _ _ _ => False)
theorem pe_callE {X : Cx} {j k : Nat} {x : Str} {ps : List Str} {sp : SpE} {e : Expr} {es : List Expr} {t : TA} {q pos : Pos} {a : Addr} {oe : Obj} {cls : Value} {d : Option Addr} {pn : List (Addr × Obj)} (c : CalleeE X.prog X.w X.K X.mg X.base k x ps sp) (hr : Room j X.A) (hk : k ≤ j)
    (hz : Zc cls d oe) (hf : ∃ vs, oe.data = .fields vs) (ha : PA (X.suite a ((a, oe) :: pn)) (e :: es) t) (hg : Gl X x := by rfl) (hdb : (x == ("__debug__" : Str)) = false := by decide)
    (he : starEach (e :: es) X.env = (false, eval e X.env) :: starEach es X.env := by rfl) (hpl : (backTo pos (starEach es X.env)).any (·.1) = false := by rfl) :
    PE (X.suite a ((a, oe) :: pn)) (.Call (.Name x q) (e :: es) [] pos) (tCallE a cls d sp t) := by
  obtain ⟨f, fd, F, hm, hkp, hb⟩ := c
  refine ⟨fun pins s σ H Q I h => ?_⟩
  refine wpAny_Call_Name_kw (ld_glob (X := X.suite a ((a, oe) :: pn)) I hg hm ?_ hdb)
  refine PySem.W.callWith_K (h₀ := X.base) I.ok.mod.kin hkp (thn (ha.run pos pins s σ H _ I h) fun us s1 ⟨vs, H1, I1, r, D, ec, ed, hsp⟩ => ⟨I1.kIn, ?_⟩) he hpl
  subst ec ed
  have hl : us.length = ps.length := by rw [← r.length]; exact F.len _ _ _ _ _ _ hsp
  have b := hb s1 us I1.kIn (by rw [List.append_nil]; exact hl)
  rw [List.append_nil] at b
  have P1 := I1.pin (a, oe) (List.mem_append_left _ List.mem_cons_self)
  have hpin : L2H.PinOk X.stack H1 s1 (a, oe) := ⟨P1.1, P1.2.1, fun hm => (List.mem_cons.mp (I1.stkSub a hm)).elim P1.2.2.1 P1.2.2.2.1, P1.2.2.2.2⟩
  have hrH : L2H.RoomH k (X.A.mark (some (.ref a))) := ⟨by have := hr.dp; show X.A.depth + 3 * k + 5 < _; omega, by have := hr.un; show X.A.units + 16 * k + 200 < _; omega⟩
  refine wpAny_call (codeAny_mono (F.run _ X.stack s1 H1 ⟨us, []⟩ us vs Q _ (a, oe) D hrH ⟨hz, hf⟩ hpin I1.env0 b r hsp) fun rr s' hq => ?_)
  cases rr with
  | error ee => exact passAt (X := X.suite a ((a, oe) :: pn)) (W := fun _ _ _ _ => False) takes0 σ pins H1 s1 ee s' I1 hq
  | ok fl =>
    cases fl with
    | ret u => exact I1.after hq
    | next => exact False.elim hq
    | brk => exact False.elim hq
    | cont => exact False.elim hq
end CB
namespace CB
open PySem PySem.Spec PyProof.Rows L2
abbrev s_asked_frame : Stmt := top 12
abbrev N_asked_frame : List Str := ["ratios", "ratio"]
theorem sc_asked_frame : FnScope N_asked_frame ["ratios"] (defScope s_asked_frame) := ⟨rfl, rfl, rfl, by decide +kernel, rfl, by decide +kernel, by decide +kernel⟩
end CB

namespace CB
open PySem PySem.Spec PyProof.Rows L2
def sp_asked_frame (K : PySem.W.Frag) (mg : Str → Option Value) : Sp := fun vs H Q E => ∃ (a : Addr) (rs : List Int), vs = [.ref a] ∧ SqL K H a (rs.map V.int) ∧
  (GF rs → Q .non H) ∧ (¬ GF rs → E (.ref (ErA mg "NoFrame")) none H)
section
variable {P : Program} {w : World} {K : PySem.W.Frag} {mg : Str → Option Value} {base : Heap}
theorem ok_asked_frame {f : Addr} {fd : FuncData} (F : Fun K "asked_frame" "asked_frame" s_asked_frame f fd) (B : Bi mg) (m_MOST : ∃ t, mg "MOST" = some (.int 11 t)) (e_NoFrame : Er K mg "NoFrame") :
    FnOk P w K mg base (L2.CX P w) 1 f fd ["ratios"] (sp_asked_frame K mg) := by
  obtain ⟨tM, m_MOST⟩ := m_MOST
  refine F.okX sc_asked_frame (fun vs H Q E h => ?_) (fun cdv A outer s H vs Q E hr h => ?_)
  · obtain ⟨a, rs, rfl, _⟩ := h
    rfl
  · obtain ⟨a, rs, rfl, hS, kG, kB⟩ := h
    have tk : Takes (cxOf (L2.CX P w) P w K mg base N_asked_frame "asked_frame" (defScope s_asked_frame) f cdv A outer s H E) (fun cls d _ H => E cls d H) := takes_of rfl rfl rfl rfl
    refine ⟨_, (pss_cons (ps_if (pt_cmpR op_gt (pe_callB call_len_seq (by rfl) B.len PySem.boot_len (pa_cons (pv 0) pa_nil)) (pe_glob (v := .int 11) (by rfl) m_MOST ⟨_, rfl⟩) (nomark _)) (pss_one (ps_raise rfl tk (pmk_own PySem.F.excBase_ValueError e_NoFrame.xP e_NoFrame.gC e_NoFrame.kP (raises_own e_NoFrame.bP e_NoFrame.tP) (by rfl)))) pss_nil)
  (pss_one (ps_for (passes_of rfl) rfl (pi_list (pv 0)) (pg_name (i := 1) sc_asked_frame.nd rfl (Or.inl rfl)) (pss_one (ps_if (pw_or (pt_cmpR op_lt (pv 1) pe_int (nomark _)) (pw_or1 (pt_cmpR op_gt (pv 1) pe_int (nomark _)))).pt (pss_one (ps_raise rfl tk (pmk_own PySem.F.excBase_ValueError e_NoFrame.xP e_NoFrame.gC e_NoFrame.kP (raises_own e_NoFrame.bP e_NoFrame.tP) (by rfl)))) pss_nil))))), ?_⟩
    refine ⟨_, rfl, a, _, rfl, .inl hS, _, _, rfl, rfl, _, rfl, ite2 (fun e => ?_) (fun e => ?_)⟩
    · refine kB fun g => ?_
      have e1 := of_decide_eq_true e
      rw [List.length_map] at e1
      have := g.1
      omega
    · have hl : rs.length ≤ 11 := by
        have e1 : ¬ (11 < ((rs.map V.int).length : Int)) := fun z => e (decide_eq_true z)
        rw [List.length_map] at e1
        omega
      refine ⟨_, rfl, a, rfl, ⟨_, hS⟩, for_list (K := K) (a := a) (xs := rs.map V.int) (fun i σ H' => ∃ v, σ = [some (.ref a), v] ∧ H' = H ∧ ∀ (j : Nat) (r : Int), j < i → rs[j]? = some r → 2 ≤ r ∧ r ≤ 12)
        ⟨none, rfl, rfl, fun j r hj => absurd hj (Nat.not_lt_zero _)⟩ (fun i σ H' _ ⟨_, _, e, _⟩ => by rw [e]; exact hS) ?_ ?_⟩
      · rintro i y σ H' hi ⟨v, rfl, rfl, hg⟩
        obtain ⟨z, hz, rfl⟩ := get_map hi
        have bad : ¬ (2 ≤ z ∧ z ≤ 12) → ¬ GF rs := fun h g => h (g.2 z (List.mem_of_getElem? hz))
        refine ⟨_, rfl, _, _, rfl, rfl, _, rfl, ite2 (fun e => ?_) (fun e => ?_)⟩
        · refine ite_t rfl (kB (bad ?_))
          have := of_decide_eq_true e
          omega
        · have h1 : ¬ z < 2 := fun q => e (decide_eq_true q)
          refine ⟨_, rfl, _, _, rfl, rfl, _, rfl, ite2 (fun e2 => ?_) (fun e2 => ?_)⟩
          · refine kB (bad ?_)
            have := of_decide_eq_true e2
            omega
          · have h2 : ¬ 12 < z := fun q => e2 (decide_eq_true q)
            refine ⟨_, rfl, rfl, fun j r hj hr => ?_⟩
            rcases Nat.lt_succ_iff_lt_or_eq.mp hj with q | q
            · exact hg j r q hr
            · subst q
              rw [hz] at hr
              cases hr
              omega
      · rintro σ H' ⟨v, rfl, rfl, hg⟩
        rw [List.length_map] at hg
        refine kG ⟨hl, fun r hr => ?_⟩
        obtain ⟨j, hj, e⟩ := List.getElem_of_mem hr
        exact hg j r hj (by rw [List.getElem?_eq_getElem hj, e])
end
end CB
namespace CB
open PySem PySem.Spec PyProof.Rows L2
abbrev s_asked_board : Stmt := top 13
abbrev N_asked_board : List Str := ["ratios", "board", "counters"]
theorem sc_asked_board : FnScope N_asked_board ["ratios", "board"] (defScope s_asked_board) := ⟨rfl, rfl, rfl, by decide +kernel, rfl, by decide +kernel, by decide +kernel⟩
end CB

namespace CB
open PySem PySem.Spec PyProof.Rows L2
def sp_asked_board (K : PySem.W.Frag) (mg : Str → Option Value) : Sp := fun vs H Q E => ∃ (a b : Addr) (rs bs : List Int), vs = [.ref a, .ref b] ∧ SqL K H a (rs.map V.int) ∧ SqL K H b (bs.map V.int) ∧
  (GF rs → GB rs bs → Q .non H) ∧ (¬ GF rs → E (.ref (ErA mg "NoFrame")) none H) ∧ (GF rs → ¬ GB rs bs → E (.ref (ErA mg "NoBoard")) none H)
section
variable {P : Program} {w : World} {K : PySem.W.Frag} {mg : Str → Option Value} {base : Heap}
theorem ok_asked_board {f : Addr} {fd : FuncData} (F : Fun K "asked_board" "asked_board" s_asked_board f fd) (B : Bi mg) (e_NoBoard : Er K mg "NoBoard") (c_asked_frame : Callee P w K mg base 1 "asked_frame" ["ratios"] (sp_asked_frame K mg)) :
    FnOk P w K mg base (L2.CX P w) 2 f fd ["ratios", "board"] (sp_asked_board K mg) := by
  refine F.okX sc_asked_board (fun vs H Q E h => ?_) (fun cdv A outer s H vs Q E hr h => ?_)
  · obtain ⟨a, b, rs, bs, rfl, _⟩ := h
    rfl
  · obtain ⟨a, b, rs, bs, rfl, hA, hB, kG, kF, kB⟩ := h
    have tk : Takes (cxOf (L2.CX P w) P w K mg base N_asked_board "asked_board" (defScope s_asked_board) f cdv A outer s H E) (fun cls d _ H => E cls d H) := takes_of rfl rfl rfl rfl
    refine ⟨_, (pss_cons (ps_expr (pe_f c_asked_frame hr (by decide) tk (pa_cons (pv 0) pa_nil)))
  (pss_cons (ps_if (pt_cmpR op_ne (pe_callB call_len_seq (by rfl) B.len PySem.boot_len (pa_cons (pv 1) pa_nil)) (pe_op op_add (pe_callB call_len_seq (by rfl) B.len PySem.boot_len (pa_cons (pv 0) pa_nil)) pe_int) (nomark _)) (pss_one (ps_raise rfl tk (pmk_own PySem.F.excBase_ValueError e_NoBoard.xP e_NoBoard.gC e_NoBoard.kP (raises_own e_NoBoard.bP e_NoBoard.tP) (by rfl)))) pss_nil)
  (pss_one (ps_for (passes_of rfl) rfl (pi_list (pv 1)) (pg_name (i := 2) sc_asked_board.nd rfl (Or.inl rfl)) (pss_one (ps_if (pt_cmpR op_lt (pv 2) pe_int (nomark _)) (pss_one (ps_raise rfl tk (pmk_own PySem.F.excBase_ValueError e_NoBoard.xP e_NoBoard.gC e_NoBoard.kP (raises_own e_NoBoard.bP e_NoBoard.tP) (by rfl)))) pss_nil)))))), ?_⟩
    refine ⟨_, rfl, a, rs, rfl, hA, fun g => ?_, kF⟩
    refine ⟨_, rfl, b, _, rfl, .inl hB, _, rfl, a, _, rfl, .inl hA, _, _, rfl, rfl, rfl, _, rfl, ?_⟩
    rw [List.length_map, List.length_map]
    by_cases hl : bs.length = rs.length + 1
    · refine ite_f (by simp [hl]) ?_
      refine ⟨_, rfl, b, rfl, ⟨_, hB⟩, for_list (K := K) (a := b) (xs := bs.map V.int) (fun i σ H' => ∃ v, σ = [some (.ref a), some (.ref b), v] ∧ H' = H ∧ ∀ (j : Nat) (r : Int), j < i → bs[j]? = some r → 0 ≤ r)
        ⟨none, rfl, rfl, fun j r hj => absurd hj (Nat.not_lt_zero _)⟩ (fun i σ H' _ ⟨_, _, e, _⟩ => by rw [e]; exact hB) ?_ ?_⟩
      · rintro i y σ H' hi ⟨v, rfl, rfl, hg⟩
        obtain ⟨z, hz, rfl⟩ := get_map hi
        refine ⟨_, rfl, _, _, rfl, rfl, _, rfl, ite2 (fun e => ?_) (fun e => ?_)⟩
        · refine kB g fun q => ?_
          have h1 := q.2 z (List.mem_of_getElem? hz)
          have := of_decide_eq_true e
          omega
        · have h1 : ¬ z < 0 := fun q => e (decide_eq_true q)
          refine ⟨_, rfl, rfl, fun j r hj hr => ?_⟩
          rcases Nat.lt_succ_iff_lt_or_eq.mp hj with q | q
          · exact hg j r q hr
          · subst q
            rw [hz] at hr
            cases hr
            omega
      · rintro σ H' ⟨v, rfl, rfl, hg⟩
        rw [List.length_map] at hg
        refine kG g ⟨hl, fun r hr => ?_⟩
        obtain ⟨j, hj, e⟩ := List.getElem_of_mem hr
        exact hg j r hj (by rw [List.getElem?_eq_getElem hj, e])
    · refine ite_t ?_ (kB g fun q => hl q.1)
      have : ¬ ((bs.length : Int) = (rs.length : Int) + 1) := by omega
      simp [this]
end
end CB
namespace CB
open PySem PySem.Spec PyProof.Rows L2
abbrev s_goes : Stmt := top 15
abbrev N_goes : List Str := ["ratios", "board", "line", "up"]
theorem sc_goes : FnScope N_goes ["ratios", "board", "line", "up"] (defScope s_goes) := ⟨rfl, rfl, rfl, by decide +kernel, rfl, by decide +kernel, by decide +kernel⟩
end CB

namespace CB
open PySem PySem.Spec PyProof.Rows L2
def sp_goes (K : PySem.W.Frag) (_ : Str → Option Value) : Sp := fun vs H Q _ => ∃ (a b : Addr) (rs bs : List Int) (L : Nat) (up : Bool), vs = [.ref a, .ref b, .int (L : Int), .bl up] ∧ SqL K H a (rs.map V.int) ∧ SqL K H b (bs.map V.int) ∧ L < rs.length ∧ L + 1 < bs.length ∧ Q (.bl (goesB rs bs L up)) H
section
variable {P : Program} {w : World} {K : PySem.W.Frag} {mg : Str → Option Value} {base : Heap}
theorem ok_goes {f : Addr} {fd : FuncData} (F : Fun K "goes" "goes" s_goes f fd) (B : Bi mg) : FnOk P w K mg base (L2.CX P w) 1 f fd ["ratios", "board", "line", "up"] (sp_goes K mg) := by
  refine F.okX sc_goes (fun vs H Q E h => ?_) (fun cdv A outer s H vs Q E hr h => ?_)
  · obtain ⟨a, b, rs, bs, L, up, rfl, _⟩ := h
    rfl
  · obtain ⟨a, b, rs, bs, L, up, rfl, hA, hB, hL, hL1, q⟩ := h
    refine ⟨_, (pss_cons (ps_if (pt_val (pv 3)) (pss_one (ps_ret (pe_cmpR op_ge (pe_ix ix_list (pv 1) (pv 2) (fun _ _ => rfl)) (pe_ix ix_list (pv 0) (pv 2) (fun _ _ => rfl)) (nomark _)))) pss_nil)
  (pss_one (ps_ret (pe_cmpR op_ge (pe_ix ix_list (pv 1) (pe_op op_add (pv 2) pe_int) (fun _ _ => rfl)) pe_int (nomark _))))), ?_⟩
    have ar : atI (rs.map V.int) (L : Int) = some (.int (rs.getD L 0)) := atI_nat (map_get (getD_of hL))
    have ab : atI (bs.map V.int) (L : Int) = some (.int (bs.getD L 0)) := atI_nat (map_get (getD_of (by omega)))
    have ab1 : atI (bs.map V.int) ((L : Int) + 1) = some (.int (bs.getD (L + 1) 0)) := at_of (j := L + 1) (by omega) (map_get (getD_of hL1))
    refine ⟨_, rfl, _, rfl, ?_⟩
    cases up with
    | true =>
      refine ite_t rfl ⟨_, rfl, _, rfl, b, _, _, _, rfl, rfl, hB, ab, _, rfl, _, rfl, a, _, _, _, rfl, rfl, hA, ar, _, _, rfl, rfl, ?_⟩
      exact q
    | false =>
      refine ite_f rfl ⟨_, rfl, _, rfl, _, _, rfl, rfl, b, _, _, _, rfl, rfl, hB, ab1, _, _, rfl, rfl, ?_⟩
      exact q
end
end CB
namespace CB
open PySem PySem.Spec PyProof.Rows L2
abbrev s_can : Stmt := top 16
abbrev N_can : List Str := ["ratios", "board", "found", "line", "up"]
theorem sc_can : FnScope N_can ["ratios", "board"] (defScope s_can) := ⟨rfl, rfl, rfl, by decide +kernel, rfl, by decide +kernel, by decide +kernel⟩
end CB

namespace CB
open PySem PySem.Spec PyProof.Rows L2
def sp_can (K : PySem.W.Frag) (mg : Str → Option Value) : Sp := fun vs H Q E => ∃ (a b : Addr) (rs bs : List Int), vs = [.ref a, .ref b] ∧ SqL K H a (rs.map V.int) ∧ SqL K H b (bs.map V.int) ∧
  (GF rs → GB rs bs → TellT H Q (canL rs bs)) ∧ (¬ GF rs → E (.ref (ErA mg "NoFrame")) none H) ∧ (GF rs → ¬ GB rs bs → E (.ref (ErA mg "NoBoard")) none H)
section
variable {P : Program} {w : World} {K : PySem.W.Frag} {mg : Str → Option Value} {base : Heap}
theorem ok_can {f : Addr} {fd : FuncData} (F : Fun K "can" "can" s_can f fd) (B : Bi mg) (c_asked_board : Callee P w K mg base 2 "asked_board" ["ratios", "board"] (sp_asked_board K mg))
    (c_goes : Callee P w K mg base 1 "goes" ["ratios", "board", "line", "up"] (sp_goes K mg)) :
    FnOk P w K mg base (L2.CX P w) 3 f fd ["ratios", "board"] (sp_can K mg) := by
  refine F.okX sc_can (fun vs H Q E h => ?_) (fun cdv A outer s H vs Q E hr h => ?_)
  · obtain ⟨a, b, rs, bs, rfl, _⟩ := h
    rfl
  · obtain ⟨a, b, rs, bs, rfl, hA, hB, kG, kF, kB⟩ := h
    have tk : Takes (cxOf (L2.CX P w) P w K mg base N_can "can" (defScope s_can) f cdv A outer s H E) (fun cls d _ H => E cls d H) := takes_of rfl rfl rfl rfl
    refine ⟨_, (pss_cons (ps_expr (pe_f c_asked_board hr (by decide) tk (pa_cons (pv 0) (pa_cons (pv 1) pa_nil))))
  (pss_cons (ps_set (i := 2) sc_can.nd rfl (Or.inl rfl) (pe_lst pa_nil))
  (pss_cons (ps_for (passes_of rfl) rfl (pi_range1 (by rfl) B.range (pa_cons (pe_callB call_len_seq (by rfl) B.len PySem.boot_len (pa_cons (pv 0) pa_nil)) pa_nil)) (pg_name (i := 3) sc_can.nd rfl (Or.inl rfl)) (pss_one (ps_for (passes_of rfl) rfl (pi_tup (pe_tup (pa_cons pe_bl (pa_cons pe_bl pa_nil)))) (pg_name (i := 4) sc_can.nd rfl (Or.inl rfl)) (pss_one (ps_if (pt_val (pe_f c_goes hr (by decide) tk (pa_cons (pv 0) (pa_cons (pv 1) (pa_cons (pv 3) (pa_cons (pv 4) pa_nil)))))) (pss_one (ps_expr (pe_bm PySem.F.plainAttrs_list PySem.F.slot_list_append PySem.F.type_list_append mt_append (pv 2) (pa_cons (pe_tup (pa_cons (pv 3) (pa_cons (pv 4) pa_nil))) pa_nil)))) pss_nil)))))
  (pss_one (ps_ret (pv 2)))))), ?_⟩
    refine ⟨_, rfl, _, rfl, a, b, rs, bs, rfl, hA, hB, fun g gb => ?_, kF, kB⟩
    have k := kG g gb
    have hn := gb.1
    have g11 := g.1
    refine ⟨by show 0 ≤ sizeLine; decide, fun p hp => ?_⟩
    refine ⟨_, rfl, a, _, rfl, .inl ((same_upd hp).seq hA), _, rfl, by rw [List.length_map]; omega, by rw [List.length_map]; omega, ?_⟩
    rw [List.length_map, Int.toNat_natCast]
    refine for_range (fun i σ H' => ∃ v u ts, σ = [some (.ref a), some (.ref b), some (.ref p), v, u] ∧ Same H H' ∧ H' p = some (.lst (ts.map V.ref)) ∧ Tups H' ts (canP rs bs i))
      ⟨none, none, [], rfl, same_upd hp, upd_same, trivial⟩ ?_ ?_
    · rintro i σ H' hi ⟨v, u, ts, rfl, sm, hP, ht⟩
      refine ⟨by show 2 ≤ sizeLine; decide, fun q hq => ?_⟩
      have hqt : (upd H' q (.tup [V.bl true, V.bl false])) q = some (.tup [V.bl true, V.bl false]) := upd_same
      have sq := same_upd (o := .tup [V.bl true, V.bl false]) hq
      refine ⟨q, rfl, ⟨_, SqT.of hqt⟩, for_tup (K := K) (a := q) (xs := [V.bl true, V.bl false]) (fun j σ H2 => ∃ u ts, σ = [some (.ref a), some (.ref b), some (.ref p), some (.int (0 + (i : Int))), u] ∧ Same H H2 ∧ H2 q = some (.tup [V.bl true, V.bl false]) ∧ H2 p = some (.lst (ts.map V.ref)) ∧
          Tups H2 ts (match j with | 0 => canP rs bs i | 1 => canP rs bs i ++ optP rs bs i true | _ => canP rs bs (i + 1)))
        ⟨_, ts, rfl, sm.trans sq, hqt, sq _ _ hP, ht.same sq⟩ (fun j σ H2 _ ⟨_, _, _, _, e, _⟩ => SqT.of e) ?_ ?_⟩
      · have turn : ∀ (up : Bool) (l l2 : List (Int × Bool)) (H2 : Hp) (ts : List Addr), l2 = l ++ optP rs bs i up → l.length ≤ 100 → Same H H2 → H2 q = some (.tup [V.bl true, V.bl false]) → H2 p = some (.lst (ts.map V.ref)) → Tups H2 ts l →
            ∀ (D : Ends), (∀ (H3 : Hp) (us : List Addr), Same H H3 → H3 q = some (.tup [V.bl true, V.bl false]) → H3 p = some (.lst (us.map V.ref)) → Tups H3 us l2 → D.nx [some (.ref a), some (.ref b), some (.ref p), some (.int (0 + (i : Int))), some (.bl up)] H3) →
            (tIfS (tB (tCallS (sp_goes K mg) (WE fun cls d _ H => E cls d H) (tCons (tVar 0) (tCons (tVar 1) (tCons (tVar 3) (tCons (tVar 4) tNil)))))) (tDrop (tBM K "list" rAppend (tVar 2) (tCons (tTup (tCons (tVar 3) (tCons (tVar 4) tNil))) tNil))) tNext) D [some (.ref a), some (.ref b), some (.ref p), some (.int (0 + (i : Int))), some (.bl up)] H2 := by
          intro up l l2 H2 ts el hll sm2 hq2 hP2 ht2 D kD
          refine ⟨_, rfl, _, rfl, _, rfl, _, rfl, a, b, rs, bs, i, up, by rw [Int.zero_add], sm2.seq hA, sm2.seq hB, hi, by omega, _, rfl, ?_⟩
          cases hg : goesB rs bs i up with
          | false =>
            refine ite_f rfl (kD H2 ts sm2 hq2 hP2 ?_)
            have e : optP rs bs i up = [] := by unfold optP; rw [hg]; rfl
            rw [el, e, List.append_nil]
            exact ht2
          | true =>
            have e : optP rs bs i up = [((i : Int), up)] := by unfold optP; rw [hg]; rfl
            refine ite_t rfl ⟨_, rfl, .inl ⟨rfl, _, SqL.of hP2⟩, _, rfl, _, rfl, by show 2 ≤ sizeLine; decide, fun t ht' => ?_⟩
            have st := same_upd (o := .tup [V.int (0 + (i : Int)), V.bl up]) ht'
            have hlt := ht2.len
            have dtp : p ≠ t := ne_of_none hP2 ht'
            refine ⟨p, _, _, rfl, rfl, st _ _ hP2, by rw [List.length_map]; exact small64 (by omega), ?_⟩
            refine kD _ (ts ++ [t]) (fun c o z => ?_) ?_ ?_ ?_
            · rw [upd_ne (ne_of_none z hp)]
              exact st _ _ (sm2 _ _ z)
            · rw [upd_ne (ne_of hq2 hP2 (fun z => by cases z))]
              exact st _ _ hq2
            · rw [upd_same, List.map_append]
              rfl
            · rw [el, e]
              refine Tups.append ((ht2.same st).upd (st _ _ hP2)) ⟨?_, trivial⟩
              rw [upd_ne dtp.symm, upd_same, Int.zero_add]
        rintro j y σ H2 hj ⟨u, ts, rfl, sm2, hq2, hP2, ht2⟩
        have hcl := canP_len rs bs i
        have hol := optP_len rs bs i true
        match j, hj with
        | 0, hj =>
          cases hj
          refine turn true (canP rs bs i) _ H2 ts rfl (by omega) sm2 hq2 hP2 ht2 _ fun H3 us a1 a2 a3 a4 => ⟨_, us, rfl, a1, a2, a3, a4⟩
        | 1, hj =>
          cases hj
          refine turn false (canP rs bs i ++ optP rs bs i true) _ H2 ts rfl (by rw [List.length_append]; omega) sm2 hq2 hP2 ht2 _ fun H3 us a1 a2 a3 a4 => ⟨_, us, rfl, a1, a2, a3, ?_⟩
          show Tups H3 us (canP rs bs (i + 1))
          rw [canP_succ]
          exact a4
        | _ + 2, hj => cases hj
      · rintro σ H2 ⟨u, ts, rfl, sm2, _, hP2, ht2⟩
        exact ⟨_, _, ts, rfl, sm2, hP2, ht2⟩
    · rintro σ H' ⟨v, u, ts, rfl, sm, hP, ht⟩
      exact ⟨_, rfl, k H' p ts sm hp hP ht⟩
end
end CB
namespace CB
open PySem PySem.Spec PyProof.Rows L2
abbrev s_stepped : Stmt := top 17
abbrev N_stepped : List Str := ["ratios", "board", "line", "up", "found"]
theorem sc_stepped : FnScope N_stepped ["ratios", "board", "line", "up"] (defScope s_stepped) := ⟨rfl, rfl, rfl, by decide +kernel, rfl, by decide +kernel, by decide +kernel⟩
end CB

namespace CB
open PySem PySem.Spec PyProof.Rows L2
def sp_stepped (K : PySem.W.Frag) (mg : Str → Option Value) : Sp := fun vs H Q E => ∃ (a b : Addr) (rs bs : List Int) (z : Int) (up : Bool), vs = [.ref a, .ref b, .int z, .bl up] ∧ SqL K H a (rs.map V.int) ∧ SqL K H b (bs.map V.int) ∧
  (GF rs → GB rs bs → (∀ L : Nat, z = (L : Int) → L < rs.length → goesB rs bs L up = true → TellL H Q ((stepL rs bs L up).map V.int)) ∧ ((∀ L : Nat, z = (L : Int) → L < rs.length → goesB rs bs L up = false) → E (.ref (ErA mg "NoStep")) none H)) ∧
  (¬ GF rs → E (.ref (ErA mg "NoFrame")) none H) ∧ (GF rs → ¬ GB rs bs → E (.ref (ErA mg "NoBoard")) none H)
section
variable {P : Program} {w : World} {K : PySem.W.Frag} {mg : Str → Option Value} {base : Heap}
theorem ok_stepped {f : Addr} {fd : FuncData} (F : Fun K "stepped" "stepped" s_stepped f fd) (B : Bi mg) (e_NoStep : Er K mg "NoStep") (c_asked_board : Callee P w K mg base 2 "asked_board" ["ratios", "board"] (sp_asked_board K mg))
    (c_goes : Callee P w K mg base 1 "goes" ["ratios", "board", "line", "up"] (sp_goes K mg)) :
    FnOk P w K mg base (L2.CX P w) 3 f fd ["ratios", "board", "line", "up"] (sp_stepped K mg) := by
  refine F.okX sc_stepped (fun vs H Q E h => ?_) (fun cdv A outer s H vs Q E hr h => ?_)
  · obtain ⟨a, b, rs, bs, z, up, rfl, _⟩ := h
    rfl
  · obtain ⟨a, b, rs, bs, z, up, rfl, hA, hB, kG, kF, kB⟩ := h
    have tk : Takes (cxOf (L2.CX P w) P w K mg base N_stepped "stepped" (defScope s_stepped) f cdv A outer s H E) (fun cls d _ H => E cls d H) := takes_of rfl rfl rfl rfl
    refine ⟨_, (pss_cons (ps_expr (pe_f c_asked_board hr (by decide) tk (pa_cons (pv 0) (pa_cons (pv 1) pa_nil))))
  (pss_cons (ps_if (pw_or (pt_cmpR op_lt (pv 2) pe_int (nomark _)) (pw_or (pt_cmpR op_ge (pv 2) (pe_callB call_len_seq (by rfl) B.len PySem.boot_len (pa_cons (pv 0) pa_nil)) (nomark _)) (pw_or1 (pt_not (pt_val (pe_f c_goes hr (by decide) tk (pa_cons (pv 0) (pa_cons (pv 1) (pa_cons (pv 2) (pa_cons (pv 3) pa_nil)))))))))).pt (pss_one (ps_raise rfl tk (pmk_own PySem.F.excBase_ValueError e_NoStep.xP e_NoStep.gC e_NoStep.kP (raises_own e_NoStep.bP e_NoStep.tP) (by rfl)))) pss_nil)
  (pss_cons (ps_set (i := 4) sc_stepped.nd rfl (Or.inl rfl) (pe_callTy call_list_of (by rfl) B.list (by decide +kernel) (pa_cons (pv 1) pa_nil)))
  (pss_cons (ps_if (pt_val (pv 3)) (pss_cons (ps_asg (pe_op op_sub (pe_ix ix_list (pv 4) (pv 2) (fun _ _ => rfl)) (pe_ix ix_list (pv 0) (pv 2) (fun _ _ => rfl))) (pg_sub (pv 4) (pv 2) set_list))
  (pss_one (ps_asg (pe_op op_add (pe_ix ix_list (pv 4) (pe_op op_add (pv 2) pe_int) (fun _ _ => rfl)) pe_int) (pg_sub (pv 4) (pe_op op_add (pv 2) pe_int) set_list)))) (pss_cons (ps_asg (pe_op op_add (pe_ix ix_list (pv 4) (pv 2) (fun _ _ => rfl)) (pe_ix ix_list (pv 0) (pv 2) (fun _ _ => rfl))) (pg_sub (pv 4) (pv 2) set_list))
  (pss_one (ps_asg (pe_op op_sub (pe_ix ix_list (pv 4) (pe_op op_add (pv 2) pe_int) (fun _ _ => rfl)) pe_int) (pg_sub (pv 4) (pe_op op_add (pv 2) pe_int) set_list)))))
  (pss_one (ps_ret (pv 4))))))), ?_⟩
    refine ⟨_, rfl, _, rfl, a, b, rs, bs, rfl, hA, hB, fun g gb => ?_, kF, kB⟩
    obtain ⟨kT, kS⟩ := kG g gb
    have hn := gb.1
    have g11 := g.1
    refine ⟨_, rfl, _, _, rfl, rfl, _, rfl, ite2 (fun e => ?_) (fun e => ?_)⟩
    · refine ite_t rfl (kS fun L hL => ?_)
      have := of_decide_eq_true e
      omega
    · have hz0 : ¬ z < 0 := fun q => e (decide_eq_true q)
      refine ⟨_, rfl, _, rfl, a, _, rfl, .inl hA, _, _, rfl, rfl, _, rfl, ite2 (fun e2 => ?_) (fun e2 => ?_)⟩
      · refine ite_t rfl (kS fun L hL hlt => ?_)
        have := of_decide_eq_true e2
        rw [List.length_map] at this
        omega
      · have hz1 : z < rs.length := by
          have q : ¬ (((rs.map V.int).length : Int) ≤ z) := fun q => e2 (decide_eq_true q)
          rw [List.length_map] at q
          omega
        obtain ⟨L, rfl⟩ : ∃ L : Nat, z = (L : Int) := ⟨z.toNat, by omega⟩
        have hL : L < rs.length := by omega
        have hL1 : L + 1 < bs.length := by omega
        refine ⟨_, rfl, _, rfl, _, rfl, _, rfl, a, b, rs, bs, L, up, rfl, hA, hB, hL, hL1, _, rfl, ?_⟩
        cases hg : goesB rs bs L up with
        | false =>
          refine ite_t rfl (kS fun L' hL' hlt => ?_)
          have : L' = L := by omega
          rw [this]
          exact hg
        | true =>
          refine ite_f rfl ?_
          have kk := kT L rfl hL hg
          refine ⟨_, rfl, b, _, rfl, .inl hB, fun p hp => ?_⟩
          have sA := (same_upd (o := .lst (bs.map V.int)) hp).seq hA
          have ar : atI (rs.map V.int) (L : Int) = some (.int (rs.getD L 0)) := atI_nat (map_get (getD_of hL))
          have ab : atI (bs.map V.int) (L : Int) = some (.int (bs.getD L 0)) := atI_nat (map_get (getD_of (by omega)))
          have fin : ∀ (v1 v2 : Int) (D : Ends) (σ : L2.St) , v1 = bs.getD L 0 - sg up * rs.getD L 0 → v2 = bs.getD (L + 1) 0 + sg up → Q (.ref p) (upd (upd (upd H p (.lst (bs.map V.int))) p (.lst ((bs.map V.int).set L (V.int v1)))) p (.lst (((bs.map V.int).set L (V.int v1)).set (L + 1) (V.int v2)))) := by
            intro v1 v2 D σ h1 h2
            rw [upd_upd, upd_upd]
            refine kk _ p (same_upd hp) hp ?_
            rw [upd_same, h1, h2]
            unfold stepL
            rw [List.map_set, List.map_set]
          refine ⟨_, rfl, _, rfl, ?_⟩
          have at1 : ∀ v : V, atI ((bs.map V.int).set L v) ((L : Int) + 1) = some (.int (bs.getD (L + 1) 0)) := fun v => at_of (j := L + 1) (by omega) (by rw [List.getElem?_set_ne (by omega)]; exact map_get (getD_of hL1))
          cases up with
          | true =>
            refine ite_t rfl ⟨_, rfl, _, rfl, p, _, _, _, rfl, rfl, SqL.of upd_same, ab, _, rfl, _, rfl, a, _, _, _, rfl, rfl, sA, ar, _, _, rfl, rfl, ?_⟩
            refine ⟨_, rfl, _, rfl, p, _, _, L, rfl, rfl, upd_same, ix_of rfl (by rw [List.length_map]; omega), ?_⟩
            refine ⟨_, rfl, _, rfl, _, _, rfl, rfl, p, _, _, _, rfl, rfl, SqL.of upd_same, at1 _, _, _, rfl, rfl, ?_⟩
            refine ⟨_, rfl, _, rfl, _, _, rfl, rfl, p, _, _, L + 1, rfl, rfl, upd_same, ix_of (by omega) (by rw [List.length_set, List.length_map]; omega), ?_⟩
            exact ⟨_, rfl, fin _ _ ⟨fun _ _ => True, fun _ _ => True, fun _ _ => True, fun _ _ => True⟩ [] (by show _ = _ - 1 * _; omega) rfl⟩
          | false =>
            refine ite_f rfl ⟨_, rfl, _, rfl, p, _, _, _, rfl, rfl, SqL.of upd_same, ab, _, rfl, _, rfl, a, _, _, _, rfl, rfl, sA, ar, _, _, rfl, rfl, ?_⟩
            refine ⟨_, rfl, _, rfl, p, _, _, L, rfl, rfl, upd_same, ix_of rfl (by rw [List.length_map]; omega), ?_⟩
            refine ⟨_, rfl, _, rfl, _, _, rfl, rfl, p, _, _, _, rfl, rfl, SqL.of upd_same, at1 _, _, _, rfl, rfl, ?_⟩
            refine ⟨_, rfl, _, rfl, _, _, rfl, rfl, p, _, _, L + 1, rfl, rfl, upd_same, ix_of (by omega) (by rw [List.length_set, List.length_map]; omega), ?_⟩
            exact ⟨_, rfl, fin _ _ ⟨fun _ _ => True, fun _ _ => True, fun _ _ => True, fun _ _ => True⟩ [] (by show _ = _ - -1 * _; omega) (by show _ = _ + -1; omega)⟩
end
end CB
namespace CB
open PySem PySem.Spec PyProof.Rows L2
abbrev s_law_word_of : Stmt := top 24
abbrev N_law_word_of : List Str := ["e", "kinds"]
theorem sc_law_word_of : FnScope N_law_word_of ["e"] (defScope s_law_word_of) := ⟨rfl, rfl, rfl, by decide +kernel, rfl, by decide +kernel, by decide +kernel⟩
end CB

namespace CB
open PySem PySem.Spec PyProof.Rows L2
/-! ### the word for the class of what was refused -/
def clsL : List Str := ["NoFrame", "NoBoard", "NoNumber", "NoStep", "NoWay", "TooLong", "NoLess", "NoNote"]
def wordL : List Str := ["frame", "board", "number", "step", "kind", "long", "less", "note"]
theorem er_g {mg : Str → Option Value} {x : Str} {C : Addr} (g : mg x = some (.ref C)) : mg x = some (.ref (ErA mg x)) := by
  have e : ErA mg x = C := by unfold ErA; rw [g]
  rw [e]; exact g
/-- D is the class of the n-th refusals, and of no others -/
structure Wd (K : PySem.W.Frag) (mg : Str → Option Value) (D : Addr) (n : Nat) : Prop where
  C : ExcC K D
  lt : n < 8
  is : ∀ i x, clsL[i]? = some x → PySem.W.kitOne K (.ref D) (.ref (ErA mg x)) = some (decide (i = n))
  ve : PySem.W.kitOne K (.ref D) (.type "ValueError") = some true
  bd : PySem.W.exmOne K (.ref D) (.ref (ErA mg "BoardError")) = some true
theorem wd_mk {K : PySem.W.Frag} {mg : Str → Option Value} {x : Str} {n : Nat} {D c0 c1 c2 c3 c4 c5 c6 c7 cb : Addr} (gx : mg x = some (.ref D)) (C : ExcC K D) (g0 : mg "NoFrame" = some (.ref c0)) (g1 : mg "NoBoard" = some (.ref c1)) (g2 : mg "NoNumber" = some (.ref c2))
    (g3 : mg "NoStep" = some (.ref c3)) (g4 : mg "NoWay" = some (.ref c4)) (g5 : mg "TooLong" = some (.ref c5)) (g6 : mg "NoLess" = some (.ref c6)) (g7 : mg "NoNote" = some (.ref c7)) (gb : mg "BoardError" = some (.ref cb))
    (q0 : PySem.W.kitOne K (.ref D) (.ref c0) = some (decide (0 = n))) (q1 : PySem.W.kitOne K (.ref D) (.ref c1) = some (decide (1 = n))) (q2 : PySem.W.kitOne K (.ref D) (.ref c2) = some (decide (2 = n))) (q3 : PySem.W.kitOne K (.ref D) (.ref c3) = some (decide (3 = n)))
    (q4 : PySem.W.kitOne K (.ref D) (.ref c4) = some (decide (4 = n))) (q5 : PySem.W.kitOne K (.ref D) (.ref c5) = some (decide (5 = n))) (q6 : PySem.W.kitOne K (.ref D) (.ref c6) = some (decide (6 = n))) (q7 : PySem.W.kitOne K (.ref D) (.ref c7) = some (decide (7 = n)))
    (qv : PySem.W.kitOne K (.ref D) (.type "ValueError") = some true) (qb : PySem.W.exmOne K (.ref D) (.ref cb) = some true) (lt : n < 8 := by decide) : Wd K mg (ErA mg x) n := by
  have ea : ∀ {y : Str} {c : Addr}, mg y = some (.ref c) → ErA mg y = c := fun {y c} g => by unfold ErA; rw [g]
  rw [ea gx]
  refine ⟨C, lt, fun i y hy => ?_, qv, by rw [ea gb]; exact qb⟩
  match i, hy with
  | 0, h => cases h; rw [ea g0]; exact q0
  | 1, h => cases h; rw [ea g1]; exact q1
  | 2, h => cases h; rw [ea g2]; exact q2
  | 3, h => cases h; rw [ea g3]; exact q3
  | 4, h => cases h; rw [ea g4]; exact q4
  | 5, h => cases h; rw [ea g5]; exact q5
  | 6, h => cases h; rw [ea g6]; exact q6
  | 7, h => cases h; rw [ea g7]; exact q7
  | k + 8, h => cases h
def sp_law_word_of (K : PySem.W.Frag) (mg : Str → Option Value) : SpE := fun a D vs H Q _ => ∃ n, Wd K mg D n ∧ vs = [.ref a] ∧ TellV H Q (.str (wordL.getD n ""))
def kindL (n : Nat) : List V := [.bl (decide (0 = n)), .bl (decide (1 = n)), .bl (decide (2 = n)), .bl (decide (3 = n))] ++ [.bl (decide (4 = n)), .bl (decide (5 = n)), .bl (decide (6 = n)), .bl (decide (7 = n))]
theorem kind_flat (n : Nat) : (kindL n).all flatV = true := rfl
theorem kind_at : ∀ n, n < 8 → (kindL n)[n]? = some (.bl true) := by
  intro n h
  match n, h with
  | 0, _ => rfl
  | 1, _ => rfl
  | 2, _ => rfl
  | 3, _ => rfl
  | 4, _ => rfl
  | 5, _ => rfl
  | 6, _ => rfl
  | 7, _ => rfl
  | k + 8, h => omega
theorem kind_count : ∀ n, n < 8 → (kindL n).countP (fun z => eqV z (.bl true)) = 1 := by
  intro n h
  match n, h with
  | 0, _ => rfl
  | 1, _ => rfl
  | 2, _ => rfl
  | 3, _ => rfl
  | 4, _ => rfl
  | 5, _ => rfl
  | 6, _ => rfl
  | 7, _ => rfl
  | k + 8, h => omega
theorem kind_get (n : Nat) : ∀ m z, (kindL n)[m]? = some z → z = V.bl (decide (m = n)) := by
  intro m z h
  match m, h with
  | 0, h => cases h; rfl
  | 1, h => cases h; rfl
  | 2, h => cases h; rfl
  | 3, h => cases h; rfl
  | 4, h => cases h; rfl
  | 5, h => cases h; rfl
  | 6, h => cases h; rfl
  | 7, h => cases h; rfl
  | k + 8, h => cases h
theorem word_at : ∀ n, n < 8 → (wordL.map V.str)[n]? = some (.str (wordL.getD n "")) := by
  intro n h
  match n, h with
  | 0, _ => rfl
  | 1, _ => rfl
  | 2, _ => rfl
  | 3, _ => rfl
  | 4, _ => rfl
  | 5, _ => rfl
  | 6, _ => rfl
  | 7, _ => rfl
  | k + 8, h => omega
section
variable {P : Program} {w : World} {K : PySem.W.Frag} {mg : Str → Option Value} {base : Heap}
theorem ok_law_word_of {f : Addr} {fd : FuncData} (F : Fun K "_law_word_of" "_law_word_of" s_law_word_of f fd) (B : Bi mg) (e_NoFrame : Er K mg "NoFrame") (e_NoBoard : Er K mg "NoBoard") (e_NoNumber : Er K mg "NoNumber") (e_NoStep : Er K mg "NoStep")
    (e_NoWay : Er K mg "NoWay") (e_TooLong : Er K mg "TooLong") (e_NoLess : Er K mg "NoLess") (e_NoNote : Er K mg "NoNote") : FnE P w K mg base 1 f fd ["e"] (sp_law_word_of K mg) := by
  refine fun_okE F sc_law_word_of (fun a D vs H Q E h => ?_) (fun cdv A outer s H vs Q E p D hex hr h => ?_)
  · obtain ⟨n, _, rfl, _⟩ := h; rfl
  · obtain ⟨a, oe⟩ := p
    obtain ⟨n, hW, rfl, h⟩ := h
    obtain ⟨hz, hf⟩ := hex
    have hn := hW.lt
    refine ⟨_, (pss_cons (ps_set (i := 1) sc_law_word_of.nd rfl (Or.inl rfl) (pe_lst (pa_cons (pe_callB (call_isP List.mem_cons_self hW.C hz hf) (by rfl) B.isinstance (by decide +kernel) (pa_cons (pv 0) (pa_cons (pe_glob (v := .ref (ErA mg "NoFrame")) (by rfl) e_NoFrame.gC rfl) pa_nil))) (pa_cons (pe_callB (call_isP List.mem_cons_self hW.C hz hf) (by rfl) B.isinstance (by decide +kernel) (pa_cons (pv 0) (pa_cons (pe_glob (v := .ref (ErA mg "NoBoard")) (by rfl) e_NoBoard.gC rfl) pa_nil))) (pa_cons (pe_callB (call_isP List.mem_cons_self hW.C hz hf) (by rfl) B.isinstance (by decide +kernel) (pa_cons (pv 0) (pa_cons (pe_glob (v := .ref (ErA mg "NoNumber")) (by rfl) e_NoNumber.gC rfl) pa_nil))) (pa_cons (pe_callB (call_isP List.mem_cons_self hW.C hz hf) (by rfl) B.isinstance (by decide +kernel) (pa_cons (pv 0) (pa_cons (pe_glob (v := .ref (ErA mg "NoStep")) (by rfl) e_NoStep.gC rfl) pa_nil))) pa_nil))))))
  (pss_cons (ps_set (i := 1) sc_law_word_of.nd rfl (Or.inl rfl) (pe_op op_cat (pv 1) (pe_lst (pa_cons (pe_callB (call_isP List.mem_cons_self hW.C hz hf) (by rfl) B.isinstance (by decide +kernel) (pa_cons (pv 0) (pa_cons (pe_glob (v := .ref (ErA mg "NoWay")) (by rfl) e_NoWay.gC rfl) pa_nil))) (pa_cons (pe_callB (call_isP List.mem_cons_self hW.C hz hf) (by rfl) B.isinstance (by decide +kernel) (pa_cons (pv 0) (pa_cons (pe_glob (v := .ref (ErA mg "TooLong")) (by rfl) e_TooLong.gC rfl) pa_nil))) (pa_cons (pe_callB (call_isP List.mem_cons_self hW.C hz hf) (by rfl) B.isinstance (by decide +kernel) (pa_cons (pv 0) (pa_cons (pe_glob (v := .ref (ErA mg "NoLess")) (by rfl) e_NoLess.gC rfl) pa_nil))) (pa_cons (pe_callB (call_isP List.mem_cons_self hW.C hz hf) (by rfl) B.isinstance (by decide +kernel) (pa_cons (pv 0) (pa_cons (pe_glob (v := .ref (ErA mg "NoNote")) (by rfl) e_NoNote.gC rfl) pa_nil))) pa_nil)))))))
  (pss_cons (ps_if (pw_or (pt_cmpR op_ne (pe_bm PySem.F.plainAttrs_list PySem.F.slot_list_count PySem.F.type_list_count mt_countV (pv 1) (pa_cons pe_bl pa_nil)) pe_int (nomark _)) (pw_or1 (pt_not (pt_val (pe_callB (call_isP List.mem_cons_self hW.C hz hf) (by rfl) B.isinstance (by decide +kernel) (pa_cons (pv 0) (pa_cons (pe_bltn (v := .ty "ValueError") (by rfl) B.ValueError (by decide +kernel) rfl) pa_nil))))))).pt (pss_one (ps_ret pe_str)) pss_nil)
  (pss_one (ps_ret (pe_ix ix_list (pe_lst (pa_cons pe_str (pa_cons pe_str (pa_cons pe_str (pa_cons pe_str (pa_cons pe_str (pa_cons pe_str (pa_cons pe_str (pa_cons pe_str pa_nil))))))))) (pe_bm PySem.F.plainAttrs_list PySem.F.slot_list_index PySem.F.type_list_index mt_index (pv 1) (pa_cons pe_bl pa_nil)) (fun _ _ => rfl))))))), ?_⟩
    refine ⟨_, rfl, _, _, _, rfl, fun u r => r, hW.is 0 _ rfl, _, rfl, _, _, _, rfl, fun u r => r, hW.is 1 _ rfl, _, rfl, _, _, _, rfl, fun u r => r, hW.is 2 _ rfl, _, rfl, _, _, _, rfl, fun u r => r, hW.is 3 _ rfl, by show 4 ≤ sizeLine; decide, fun l nl => ?_⟩
    have hl : upd H l (.lst [.bl (decide (0 = n)), .bl (decide (1 = n)), .bl (decide (2 = n)), .bl (decide (3 = n))]) l = some (.lst [.bl (decide (0 = n)), .bl (decide (1 = n)), .bl (decide (2 = n)), .bl (decide (3 = n))]) := upd_same
    have s1 := same_upd (o := .lst [.bl (decide (0 = n)), .bl (decide (1 = n)), .bl (decide (2 = n)), .bl (decide (3 = n))]) nl
    generalize upd H l (.lst [.bl (decide (0 = n)), .bl (decide (1 = n)), .bl (decide (2 = n)), .bl (decide (3 = n))]) = H1 at hl s1
    refine ⟨_, rfl, _, rfl, _, _, _, rfl, fun u r => r, hW.is 4 _ rfl, _, rfl, _, _, _, rfl, fun u r => r, hW.is 5 _ rfl, _, rfl, _, _, _, rfl, fun u r => r, hW.is 6 _ rfl, _, rfl, _, _, _, rfl, fun u r => r, hW.is 7 _ rfl, by show 4 ≤ sizeLine; decide, fun m nm => ?_⟩
    have s2 := same_upd (o := .lst [.bl (decide (4 = n)), .bl (decide (5 = n)), .bl (decide (6 = n)), .bl (decide (7 = n))]) nm
    refine ⟨l, m, _, _, rfl, rfl, s2 _ _ hl, upd_same, by show 4 + 4 ≤ sizeLine; decide, fun k nk => ?_⟩
    have s3 := same_upd (o := .lst (kindL n)) nk
    have hk : upd (upd H1 m (.lst [.bl (decide (4 = n)), .bl (decide (5 = n)), .bl (decide (6 = n)), .bl (decide (7 = n))])) k (.lst (kindL n)) k = some (.lst (kindL n)) := upd_same
    have s4 := (s1.trans s2).trans s3
    show tSeq _ _ _ _ (upd (upd H1 m (.lst [.bl (decide (4 = n)), .bl (decide (5 = n)), .bl (decide (6 = n)), .bl (decide (7 = n))])) k (.lst (kindL n)))
    generalize upd (upd H1 m (.lst [.bl (decide (4 = n)), .bl (decide (5 = n)), .bl (decide (6 = n)), .bl (decide (7 = n))])) k (.lst (kindL n)) = H2 at hk s4
    refine ⟨_, rfl, .inl ⟨rfl, _, SqL.of hk⟩, _, _, .bl true, rfl, rfl, SqL.of hk, rfl, kind_flat n, ?_⟩
    rw [kind_count n hn]
    refine ⟨rfl, _, rfl, ite_f rfl ?_⟩
    refine ⟨_, rfl, _, _, _, rfl, fun u r => r, hW.ve, _, rfl, ite_f rfl ?_⟩
    refine ⟨by show 8 ≤ sizeLine; decide, fun r nr => ?_⟩
    have s5 := same_upd (o := .lst (wordL.map V.str)) nr
    refine ⟨_, rfl, .inl ⟨rfl, _, SqL.of (s5 _ _ hk)⟩, _, _, .bl true, n, _, rfl, rfl, SqL.of (s5 _ _ hk), rfl, kind_flat n, kind_at n hn, rfl, fun m z hm hz => ?_, ?_⟩
    · rw [kind_get n m z hz, decide_eq_false (by omega)]
      rfl
    · refine ⟨r, _, _, _, rfl, rfl, SqL.of (upd_same (o := .lst (wordL.map V.str))), atI_nat (word_at n hn), ?_⟩
      exact h _ (s4.trans s5)
end
end CB
namespace CB
open PySem PySem.Spec PyProof.Rows L2
abbrev s_law_cell_at : Stmt := top 19
abbrev N_law_cell_at : List Str := ["script", "k"]
theorem sc_law_cell_at : FnScope N_law_cell_at ["script", "k"] (defScope s_law_cell_at) := ⟨rfl, rfl, rfl, by decide +kernel, rfl, by decide +kernel, by decide +kernel⟩
end CB

namespace CB
open PySem PySem.Spec PyProof.Rows L2
def cell (ns : List Int) (k : Int) : Int := ns.getD k.toNat 0
def sp_law_cell_at (K : PySem.W.Frag) (_ : Str → Option Value) : Sp := fun vs H Q _ => ∃ (a : Addr) (ns : List Int) (k : Int), vs = [.ref a, .int k] ∧ SqL K H a (ns.map V.int) ∧ 0 ≤ k ∧ Q (.int (cell ns k)) H
section
variable {P : Program} {w : World} {K : PySem.W.Frag} {mg : Str → Option Value} {base : Heap}
theorem ok_law_cell_at {f : Addr} {fd : FuncData} (F : Fun K "_law_cell_at" "_law_cell_at" s_law_cell_at f fd) (B : Bi mg) : FnOk P w K mg base (L2.CX P w) 1 f fd ["script", "k"] (sp_law_cell_at K mg) := by
  refine F.okX sc_law_cell_at (fun vs H Q E h => ?_) (fun cdv A outer s H vs Q E hr h => ?_)
  · obtain ⟨a, ns, k, rfl, _⟩ := h
    rfl
  · obtain ⟨a, ns, k, rfl, hS, h0, q⟩ := h
    refine ⟨_, (pss_cons (ps_if (pt_cmpR op_lt (pv 1) (pe_callB call_len_seq (by rfl) B.len PySem.boot_len (pa_cons (pv 0) pa_nil)) (nomark _)) (pss_one (ps_ret (pe_ix ix_list (pv 0) (pv 1) (fun _ _ => rfl)))) pss_nil)
  (pss_one (ps_ret pe_int))), ?_⟩
    refine ⟨_, rfl, _, rfl, a, _, rfl, .inl hS, _, _, rfl, rfl, _, rfl, ite2 (fun e => ?_) (fun e => ?_)⟩
    · have e1 := of_decide_eq_true e
      rw [List.length_map] at e1
      have hk : k.toNat < ns.length := by omega
      refine ⟨_, rfl, _, rfl, a, _, _, .int (cell ns k), rfl, rfl, hS, ?_, q⟩
      refine at_of (j := k.toNat) (by omega) (map_get ?_)
      unfold cell
      rw [List.getElem?_eq_getElem hk, List.getD_eq_getElem?_getD, List.getElem?_eq_getElem hk]
      all_goals rfl
    · have hk : ¬ k.toNat < ns.length := fun z => e (decide_eq_true (by rw [List.length_map]; omega))
      have e0 : cell ns k = 0 := by
        unfold cell
        rw [List.getD_eq_getElem?_getD, List.getElem?_eq_none (by omega)]
        all_goals rfl
      rw [e0] at q
      exact q
end
end CB
namespace CB
open PySem PySem.Spec PyProof.Rows L2
abbrev s_law_whole : Stmt := top 20
abbrev N_law_whole : List Str := ["found"]
theorem sc_law_whole : FnScope N_law_whole ["found"] (defScope s_law_whole) := ⟨rfl, rfl, rfl, by decide +kernel, rfl, by decide +kernel, by decide +kernel⟩
end CB

namespace CB
open PySem PySem.Spec PyProof.Rows L2
def sp_law_whole (_ : PySem.W.Frag) (_ : Str → Option Value) : Sp := fun vs H Q _ => ∃ (k : Int), vs = [.int k] ∧ Q (.bl true) H
section
variable {P : Program} {w : World} {K : PySem.W.Frag} {mg : Str → Option Value} {base : Heap}
theorem ok_law_whole {f : Addr} {fd : FuncData} (F : Fun K "_law_whole" "_law_whole" s_law_whole f fd) (B : Bi mg) : FnOk P w K mg base (L2.CX P w) 1 f fd ["found"] (sp_law_whole K mg) := by
  refine F.okX sc_law_whole (fun vs H Q E h => ?_) (fun cdv A outer s H vs Q E hr h => ?_)
  · obtain ⟨k, rfl, _⟩ := h
    rfl
  · obtain ⟨k, rfl, q⟩ := h
    refine ⟨_, (pss_one (ps_ret (pe_and (pe_callB call_isi (by rfl) B.isinstance (by decide +kernel) (pa_cons (pv 0) (pa_cons (pe_bltn (v := .ty "int") (by rfl) B.int (by decide +kernel) rfl) pa_nil))) (pe_one (pe_not (pe_callB call_isi (by rfl) B.isinstance (by decide +kernel) (pa_cons (pv 0) (pa_cons (pe_bltn (v := .ty "bool") (by rfl) B.bool (by decide +kernel) rfl) pa_nil)))))))), ?_⟩
    refine ⟨_, rfl, _, _, .type "int", _, true, rfl, .ty _, .base (.int _), kit_ty (by decide +kernel), _, rfl, ite_t rfl ?_⟩
    exact ⟨_, rfl, _, _, .type "int", _, false, rfl, .ty _, .base (.int _), kit_ty (by decide +kernel), _, rfl, q⟩
end
end CB
namespace CB
open PySem PySem.Spec PyProof.Rows L2
abbrev s_law_frame_by : Stmt := top 21
abbrev N_law_frame_by : List Str := ["script", "lines", "k"]
theorem sc_law_frame_by : FnScope N_law_frame_by ["script"] (defScope s_law_frame_by) := ⟨rfl, rfl, rfl, by decide +kernel, rfl, by decide +kernel, by decide +kernel⟩
end CB

namespace CB
open PySem PySem.Spec PyProof.Rows L2
def sp_law_frame_by (K : PySem.W.Frag) (_ : Str → Option Value) : Sp := fun vs H Q _ => ∃ (a : Addr) (ns : List Int), vs = [.ref a] ∧ SqL K H a (ns.map V.int) ∧ ∀ rs : List Int, GF rs → TellL H Q (rs.map V.int)
section
variable {P : Program} {w : World} {K : PySem.W.Frag} {mg : Str → Option Value} {base : Heap}
theorem ok_law_frame_by {f : Addr} {fd : FuncData} (F : Fun K "_law_frame_by" "_law_frame_by" s_law_frame_by f fd) (B : Bi mg) (c_law_cell_at : Callee P w K mg base 1 "_law_cell_at" ["script", "k"] (sp_law_cell_at K mg)) :
    FnOk P w K mg base (L2.CX P w) 2 f fd ["script"] (sp_law_frame_by K mg) := by
  refine F.okX sc_law_frame_by (fun vs H Q E h => ?_) (fun cdv A outer s H vs Q E hr h => ?_)
  · obtain ⟨a, ns, rfl, _⟩ := h
    rfl
  · obtain ⟨a, ns, rfl, hS, k⟩ := h
    refine ⟨_, (pss_cons (ps_set (i := 1) sc_law_frame_by.nd rfl (Or.inl rfl) (pe_op op_mod (pe_f c_law_cell_at hr (by decide) takes0 (pa_cons (pv 0) (pa_cons pe_int pa_nil))) pe_int))
  (pss_cons (ps_if (pt_cmpR op_eq (pe_op op_mod (pe_op op_fdiv (pe_f c_law_cell_at hr (by decide) takes0 (pa_cons (pv 0) (pa_cons pe_int pa_nil))) pe_int) pe_int) pe_int (nomark _)) (pss_one (ps_set (i := 1) sc_law_frame_by.nd rfl (Or.inl rfl) (pe_op op_mod (pe_op op_fdiv (pe_f c_law_cell_at hr (by decide) takes0 (pa_cons (pv 0) (pa_cons pe_int pa_nil))) pe_int) pe_int))) pss_nil)
  (pss_one (ps_ret (pe_lc (own := [("k", 2)]) (g := gName 2) (tt := tYes) rfl sc_law_frame_by.nd (pi_range1 (by rfl) B.range (pa_cons (pv 1) pa_nil)) (blkOk_by (own := [("k", 2)]) (N := N_law_frame_by) (sc := defScope s_law_frame_by) (by decide +kernel)) (fun _ _ _ _ _ => pg_name (i := 2) sc_law_frame_by.nd rfl (Or.inl rfl)) (fun _ _ _ _ _ => pts_nil) (fun _ _ _ _ _ => (pe_op op_add pe_int (pe_op op_mod (pe_f c_law_cell_at hr (by decide) takes0 (pa_cons (pv 0) (pa_cons (pe_op op_add pe_int (pv 2)) pa_nil))) pe_int)))))))), ?_⟩
    -- the tail, whatever lines is
    have tail : ∀ (z : Int), 0 ≤ z → z ≤ 11 → tRet (tLc (iRng1 (tCons (tVar 1) tNil)) (gName 2) tYes (tOp (rI0 fun i j => .int (i + j)) (tC (.int 2)) (tOp (rI (fun _ j => 0 < j) fun i j => .int (i % j)) (tCallS (sp_law_cell_at K mg) (WE fun _ _ _ _ => False) (tCons (tVar 0) (tCons (tOp (rI0 fun i j => .int (i + j)) (tC (.int 2)) (tVar 2)) tNil))) (tC (.int 11)))) [2])
        { nx := fun _ H' => Q .non H', rt := Q } [some (.ref a), some (.int z), none] H := by
      intro z h0 h1
      refine ⟨_, rfl, _, rfl, by omega, by omega, fun D hD => ?_⟩
      refine lc_range (lo := 0) (n := z.toNat) (fun i H' => Same H H' ∧ H' D = some (.lst (((List.range i).map fun j : Nat => 2 + cell ns (2 + (0 + (j : Int))) % 11).map V.int))) ⟨same_upd hD, upd_same⟩ ?_ ?_
      · rintro i H' hi ⟨sm, hD'⟩
        refine ⟨rfl, .ref a, rfl, _, rfl, _, _, rfl, rfl, a, ns, _, rfl, sm.seq hS, by omega, _, _, rfl, rfl, (show (0 : Int) < 11 by decide), _, _, rfl, rfl, _, hD', ?_, fun b o e => ?_, ?_⟩
        · rw [List.length_map, List.length_map, List.length_range]
          exact small64 (by omega)
        · rw [upd_ne (ne_of_none e hD)]
          exact sm b o e
        · rw [upd_same, List.range_succ, List.map_append, List.map_append]
          all_goals rfl
      · rintro H' ⟨sm, hD'⟩
        exact k _ (frame_gf (fun j => cell ns (2 + (0 + (j : Int)))) z.toNat (by omega)) H' D sm hD hD'
    refine ⟨.ref a, rfl, a, ns, 0, rfl, hS, by decide, _, _, rfl, rfl, (show (0 : Int) < 6 by decide), ?_⟩
    refine ⟨.ref a, rfl, a, ns, 0, rfl, hS, by decide, _, _, rfl, rfl, ⟨by decide, by decide⟩, _, _, rfl, rfl, (show (0 : Int) < 4 by decide), rfl, _, rfl, ite2 (fun _ => ?_) (fun _ => ?_)⟩
    · refine ⟨.ref a, rfl, a, ns, 0, rfl, hS, by decide, _, _, rfl, rfl, ⟨by decide, by decide⟩, _, _, rfl, rfl, (show (0 : Int) < 12 by decide), ?_⟩
      exact tail _ (by omega) (by omega)
    · exact tail _ (by omega) (by omega)
end
end CB
namespace CB
open PySem PySem.Spec PyProof.Rows L2
abbrev s_law_board_by : Stmt := top 22
abbrev N_law_board_by : List Str := ["script", "first", "ratios", "kind", "board", "k", "cell"]
theorem sc_law_board_by : FnScope N_law_board_by ["script", "first", "ratios", "kind"] (defScope s_law_board_by) := ⟨rfl, rfl, rfl, by decide +kernel, rfl, by decide +kernel, by decide +kernel⟩
end CB

namespace CB
open PySem PySem.Spec PyProof.Rows L2
def sp_law_board_by (K : PySem.W.Frag) (_ : Str → Option Value) : Sp := fun vs H Q _ => ∃ (a b : Addr) (ns rs : List Int) (first kind : Int), vs = [.ref a, .int first, .ref b, .int kind] ∧ SqL K H a (ns.map V.int) ∧ SqL K H b (rs.map V.int) ∧ rs.length ≤ 11 ∧ 0 ≤ first ∧
  ∀ bs : List Int, GB rs bs → (∀ x ∈ bs, x < 10 ^ 20) → TellL H Q (bs.map V.int)
section
variable {P : Program} {w : World} {K : PySem.W.Frag} {mg : Str → Option Value} {base : Heap}
theorem ok_law_board_by {f : Addr} {fd : FuncData} (F : Fun K "_law_board_by" "_law_board_by" s_law_board_by f fd) (B : Bi mg) (c_law_cell_at : Callee P w K mg base 1 "_law_cell_at" ["script", "k"] (sp_law_cell_at K mg)) :
    FnOk P w K mg base (L2.CX P w) 2 f fd ["script", "first", "ratios", "kind"] (sp_law_board_by K mg) := by
  refine F.okX sc_law_board_by (fun vs H Q E h => ?_) (fun cdv A outer s H vs Q E hr h => ?_)
  · obtain ⟨a, b, ns, rs, first, kind, rfl, _⟩ := h
    rfl
  · obtain ⟨a, b, ns, rs, first, kind, rfl, hA, hB, hl, h0, k⟩ := h
    refine ⟨_, (pss_cons (ps_set (i := 4) sc_law_board_by.nd rfl (Or.inl rfl) (pe_lst pa_nil))
  (pss_cons (ps_for (passes_of rfl) rfl (pi_range1 (by rfl) B.range (pa_cons (pe_op op_add (pe_callB call_len_seq (by rfl) B.len PySem.boot_len (pa_cons (pv 2) pa_nil)) pe_int) pa_nil)) (pg_name (i := 5) sc_law_board_by.nd rfl (Or.inl rfl)) (pss_cons (ps_set (i := 6) sc_law_board_by.nd rfl (Or.inl rfl) (pe_f c_law_cell_at hr (by decide) takes0 (pa_cons (pv 0) (pa_cons (pe_op op_add (pv 1) (pv 5)) pa_nil))))
  (pss_one (ps_if (pt_cmpR op_eq (pv 3) pe_int (nomark _)) (pss_one (ps_expr (pe_bm PySem.F.plainAttrs_list PySem.F.slot_list_append PySem.F.type_list_append mt_append (pv 4) (pa_cons (pe_op op_mod (pv 6) pe_int) pa_nil)))) (pss_one (ps_if (pt_cmpR op_eq (pv 3) pe_int (nomark _)) (pss_one (ps_expr (pe_bm PySem.F.plainAttrs_list PySem.F.slot_list_append PySem.F.type_list_append mt_append (pv 4) (pa_cons (pe_op op_mod (pv 6) (pe_op op_pow pe_int pe_int)) pa_nil)))) (pss_one (ps_if (pt_cmpR op_eq (pv 3) pe_int (nomark _)) (pss_one (ps_expr (pe_bm PySem.F.plainAttrs_list PySem.F.slot_list_append PySem.F.type_list_append mt_append (pv 4) (pa_cons (pe_op op_mod (pv 6) pe_int) pa_nil)))) (pss_one (ps_expr (pe_bm PySem.F.plainAttrs_list PySem.F.slot_list_append PySem.F.type_list_append mt_append (pv 4) (pa_cons (pe_op op_mod (pv 6) pe_int) pa_nil))))))))))))
  (pss_one (ps_ret (pv 4))))), ?_⟩
    refine ⟨by show 0 ≤ sizeLine; decide, fun p hp => ?_⟩
    refine ⟨_, rfl, b, _, rfl, .inl ((same_upd hp).seq hB), _, _, rfl, rfl, _, rfl, by rw [List.length_map]; omega, by rw [List.length_map]; omega, ?_⟩
    rw [List.length_map, show ((rs.length : Int) + 1).toNat = rs.length + 1 by omega]
    refine for_range (fun i σ H' => ∃ (v u : Option V) (bs : List Int), σ = [some (.ref a), some (.int first), some (.ref b), some (.int kind), some (.ref p), v, u] ∧ Same H H' ∧ H' p = some (.lst (bs.map V.int)) ∧ bs.length = i ∧ (∀ x ∈ bs, 0 ≤ x ∧ x < 10 ^ 20))
      ⟨none, none, [], rfl, same_upd hp, upd_same, rfl, fun x hx => nomatch hx⟩ ?_ ?_
    · rintro i σ H' hi ⟨v, u, bs, rfl, sm, hP, hbl, hb⟩
      refine ⟨_, rfl, _, rfl, _, rfl, _, _, rfl, rfl, a, ns, _, rfl, sm.seq hA, by omega, ?_⟩
      have fin : ∀ (x : Int) (σ' : L2.St), 0 ≤ x → x < 10 ^ 20 → σ' = [some (.ref a), some (.int first), some (.ref b), some (.int kind), some (.ref p), some (.int (0 + (i : Int))), some (.int (cell ns (first + (0 + (i : Int)))))] →
          ∃ (v u : Option V) (bs' : List Int), σ' = [some (.ref a), some (.int first), some (.ref b), some (.int kind), some (.ref p), v, u] ∧ Same H (upd H' p (.lst (bs.map V.int ++ [.int x]))) ∧ (upd H' p (.lst (bs.map V.int ++ [.int x]))) p = some (.lst (bs'.map V.int)) ∧ bs'.length = i + 1 ∧ (∀ x ∈ bs', 0 ≤ x ∧ x < 10 ^ 20) := by
        intro x σ' hx0 hx1 e
        refine ⟨_, _, bs ++ [x], e, fun c o q => ?_, by rw [upd_same, List.map_append]; rfl, by rw [List.length_append, hbl]; rfl, fun y hy => ?_⟩
        · rw [upd_ne (ne_of_none q hp)]
          exact sm _ _ q
        · rcases List.mem_append.mp hy with hy | hy
          · exact hb y hy
          · rw [List.mem_singleton.mp hy]
            exact ⟨hx0, hx1⟩
      have hsz : (bs.map V.int).length < sizeLine := by rw [List.length_map]; exact small64 (by omega)
      refine ⟨_, rfl, rfl, _, rfl, ite2 (fun _ => ?_) (fun _ => ?_)⟩
      · refine ⟨_, rfl, .inl ⟨rfl, _, SqL.of hP⟩, _, rfl, _, _, rfl, rfl, (show (0 : Int) < 40 by decide), p, _, _, rfl, rfl, hP, hsz, ?_⟩
        exact fin _ _ (by omega) (by omega) rfl
      · refine ⟨_, rfl, rfl, _, rfl, ite2 (fun _ => ?_) (fun _ => ?_)⟩
        · refine ⟨_, rfl, .inl ⟨rfl, _, SqL.of hP⟩, _, rfl, _, _, rfl, rfl, ⟨by decide, by decide, by decide⟩, _, _, rfl, rfl, (by decide : (0 : Int) < 10 ^ (20 : Int).toNat), p, _, _, rfl, rfl, hP, hsz, ?_⟩
          exact fin _ _ (Int.emod_nonneg _ (by decide)) (Int.emod_lt_of_pos _ (by decide)) rfl
        · refine ⟨_, rfl, rfl, _, rfl, ite2 (fun _ => ?_) (fun _ => ?_)⟩
          · refine ⟨_, rfl, .inl ⟨rfl, _, SqL.of hP⟩, _, rfl, _, _, rfl, rfl, (show (0 : Int) < 3 by decide), p, _, _, rfl, rfl, hP, hsz, ?_⟩
            exact fin _ _ (by omega) (by omega) rfl
          · refine ⟨_, rfl, .inl ⟨rfl, _, SqL.of hP⟩, _, rfl, _, _, rfl, rfl, (show (0 : Int) < 13 by decide), p, _, _, rfl, rfl, hP, hsz, ?_⟩
            exact fin _ _ (by omega) (by omega) rfl
    · rintro σ H' ⟨v, u, bs, rfl, sm, hP, hbl, hb⟩
      exact ⟨_, rfl, k bs ⟨hbl, fun x hx => (hb x hx).1⟩ (fun x hx => (hb x hx).2) H' p sm hp hP⟩
end
end CB
namespace CB
open PySem PySem.Spec PyProof.Rows L2
abbrev s_law_is_list : Stmt := top 23
abbrev N_law_is_list : List Str := ["found", "due", "k"]
theorem sc_law_is_list : FnScope N_law_is_list ["found", "due"] (defScope s_law_is_list) := ⟨rfl, rfl, rfl, by decide +kernel, rfl, by decide +kernel, by decide +kernel⟩
end CB

namespace CB
open PySem PySem.Spec PyProof.Rows L2
def sp_law_is_list (K : PySem.W.Frag) (_ : Str → Option Value) : Sp := fun vs H Q _ => ∃ (a b : Addr) (xs : List Int), vs = [.ref a, .ref b] ∧ H a = some (.lst (xs.map V.int)) ∧ SqL K H b (xs.map V.int) ∧ xs.length ≤ 100000 ∧ Q (.bl true) H
section
variable {P : Program} {w : World} {K : PySem.W.Frag} {mg : Str → Option Value} {base : Heap}
theorem ok_law_is_list {f : Addr} {fd : FuncData} (F : Fun K "_law_is_list" "_law_is_list" s_law_is_list f fd) (B : Bi mg) (c_law_whole : Callee P w K mg base 1 "_law_whole" ["found"] (sp_law_whole K mg)) :
    FnOk P w K mg base (L2.CX P w) 2 f fd ["found", "due"] (sp_law_is_list K mg) := by
  refine F.okX sc_law_is_list (fun vs H Q E h => ?_) (fun cdv A outer s H vs Q E hr h => ?_)
  · obtain ⟨a, b, xs, rfl, _⟩ := h
    rfl
  · obtain ⟨a, b, xs, rfl, hA, hB, hl, q⟩ := h
    refine ⟨_, (pss_cons (ps_if (pw_or (pt_not (pt_val (pe_callB call_isi (by rfl) B.isinstance (by decide +kernel) (pa_cons (pv 0) (pa_cons (pe_bltn (v := .ty "list") (by rfl) B.list (by decide +kernel) rfl) pa_nil))))) (pw_or1 (pt_cmpR op_ne (pe_callB call_len_seq (by rfl) B.len PySem.boot_len (pa_cons (pv 0) pa_nil)) (pe_callB call_len_seq (by rfl) B.len PySem.boot_len (pa_cons (pv 1) pa_nil)) (nomark _)))).pt (pss_one (ps_ret pe_bl)) pss_nil)
  (pss_cons (ps_for (passes_of rfl) rfl (pi_range1 (by rfl) B.range (pa_cons (pe_callB call_len_seq (by rfl) B.len PySem.boot_len (pa_cons (pv 1) pa_nil)) pa_nil)) (pg_name (i := 2) sc_law_is_list.nd rfl (Or.inl rfl)) (pss_one (ps_if (pw_or (pt_not (pt_val (pe_f c_law_whole hr (by decide) takes0 (pa_cons (pe_ix ix_list (pv 0) (pv 2) (fun _ _ => rfl)) pa_nil)))) (pw_or1 (pt_cmpR op_ne (pe_ix ix_list (pv 0) (pv 2) (fun _ _ => rfl)) (pe_ix ix_list (pv 1) (pv 2) (fun _ _ => rfl)) (nomark _)))).pt (pss_one (ps_ret pe_bl)) pss_nil)))
  (pss_one (ps_ret pe_bl)))), ?_⟩
    refine ⟨_, rfl, _, _, .type "list", _, true, rfl, .ty _, .base (.lst hA), kit_ty (by decide +kernel), _, rfl, ite_f rfl ?_⟩
    refine ⟨_, rfl, a, _, rfl, .inl (SqL.of hA), _, rfl, b, _, rfl, .inl hB, rfl, _, rfl, ite_f (by simp) ?_⟩
    refine ⟨_, rfl, b, _, rfl, .inl hB, _, rfl, by rw [List.length_map]; omega, by rw [List.length_map]; omega, ?_⟩
    rw [List.length_map, Int.toNat_natCast]
    refine for_range (fun i σ H' => H' = H ∧ ∃ v, σ = [some (.ref a), some (.ref b), v]) ⟨rfl, none, rfl⟩ ?_ ?_
    · rintro i σ H' hi ⟨rfl, v, rfl⟩
      have h0 : xs[i]? = some xs[i] := List.getElem?_eq_getElem hi
      have h1 : atI (xs.map V.int) (0 + (i : Int)) = some (.int xs[i]) := at_of (j := i) (by omega) (map_get h0)
      refine ⟨_, rfl, _, rfl, a, _, _, _, rfl, rfl, SqL.of hA, h1, _, rfl, _, rfl, ite_f rfl ?_⟩
      refine ⟨_, rfl, _, rfl, a, _, _, _, rfl, rfl, SqL.of hA, h1, _, rfl, _, rfl, b, _, _, _, rfl, rfl, hB, h1, rfl, _, rfl, ite_f (by simp) ?_⟩
      exact ⟨rfl, _, rfl⟩
    · rintro σ H' ⟨rfl, v, rfl⟩
      exact q
end
end CB
namespace CB
open PySem PySem.Spec PyProof.Rows L2
abbrev s_law_due : Stmt := top 25
abbrev N_law_due : List Str := ["ratios", "board", "found", "k"]
theorem sc_law_due : FnScope N_law_due ["ratios", "board"] (defScope s_law_due) := ⟨rfl, rfl, rfl, by decide +kernel, rfl, by decide +kernel, by decide +kernel⟩
end CB

namespace CB
open PySem PySem.Spec PyProof.Rows L2
def sp_law_due (K : PySem.W.Frag) (_ : Str → Option Value) : Sp := fun vs H Q _ => ∃ (a b : Addr) (rs bs : List Int), vs = [.ref a, .ref b] ∧ SqL K H a (rs.map V.int) ∧ SqL K H b (bs.map V.int) ∧ GF rs ∧ GB rs bs ∧ TellT H Q (canL rs bs)
section
variable {P : Program} {w : World} {K : PySem.W.Frag} {mg : Str → Option Value} {base : Heap}
theorem ok_law_due {f : Addr} {fd : FuncData} (F : Fun K "_law_due" "_law_due" s_law_due f fd) (B : Bi mg) : FnOk P w K mg base (L2.CX P w) 1 f fd ["ratios", "board"] (sp_law_due K mg) := by
  refine F.okX sc_law_due (fun vs H Q E h => ?_) (fun cdv A outer s H vs Q E hr h => ?_)
  · obtain ⟨a, b, rs, bs, rfl, _⟩ := h
    rfl
  · obtain ⟨a, b, rs, bs, rfl, hA, hB, g, gb, k⟩ := h
    have hn := gb.1
    have g11 := g.1
    refine ⟨_, (pss_cons (ps_set (i := 2) sc_law_due.nd rfl (Or.inl rfl) (pe_lst pa_nil))
  (pss_cons (ps_for (passes_of rfl) rfl (pi_range1 (by rfl) B.range (pa_cons (pe_callB call_len_seq (by rfl) B.len PySem.boot_len (pa_cons (pv 0) pa_nil)) pa_nil)) (pg_name (i := 3) sc_law_due.nd rfl (Or.inl rfl)) (pss_cons (ps_if (pt_cmpR op_ge (pe_ix ix_list (pv 1) (pv 3) (fun _ _ => rfl)) (pe_ix ix_list (pv 0) (pv 3) (fun _ _ => rfl)) (nomark _)) (pss_one (ps_expr (pe_bm PySem.F.plainAttrs_list PySem.F.slot_list_append PySem.F.type_list_append mt_append (pv 2) (pa_cons (pe_tup (pa_cons (pv 3) (pa_cons pe_bl pa_nil))) pa_nil)))) pss_nil)
  (pss_one (ps_if (pt_cmpR op_gt (pe_ix ix_list (pv 1) (pe_op op_add (pv 3) pe_int) (fun _ _ => rfl)) pe_int (nomark _)) (pss_one (ps_expr (pe_bm PySem.F.plainAttrs_list PySem.F.slot_list_append PySem.F.type_list_append mt_append (pv 2) (pa_cons (pe_tup (pa_cons (pv 3) (pa_cons pe_bl pa_nil))) pa_nil)))) pss_nil))))
  (pss_one (ps_ret (pv 2))))), ?_⟩
    refine ⟨by show 0 ≤ sizeLine; decide, fun p hp => ?_⟩
    refine ⟨_, rfl, a, _, rfl, .inl ((same_upd hp).seq hA), _, rfl, by rw [List.length_map]; omega, by rw [List.length_map]; omega, ?_⟩
    rw [List.length_map, Int.toNat_natCast]
    refine for_range (fun i σ H' => ∃ v ts, σ = [some (.ref a), some (.ref b), some (.ref p), v] ∧ Same H H' ∧ H' p = some (.lst (ts.map V.ref)) ∧ Tups H' ts (canP rs bs i))
      ⟨none, [], rfl, same_upd hp, upd_same, trivial⟩ ?_ ?_
    · rintro i σ H' hi ⟨v, ts, rfl, sm, hP, ht⟩
      have ab : atI (bs.map V.int) (0 + (i : Int)) = some (.int (bs.getD i 0)) := at_of (j := i) (by omega) (map_get (getD_of (by omega)))
      have ar : atI (rs.map V.int) (0 + (i : Int)) = some (.int (rs.getD i 0)) := at_of (j := i) (by omega) (map_get (getD_of hi))
      have ab1 : atI (bs.map V.int) (0 + (i : Int) + 1) = some (.int (bs.getD (i + 1) 0)) := at_of (j := i + 1) (by omega) (map_get (getD_of (by omega)))
      have hcl := canP_len rs bs i
      have htl := ht.len
      have ei : (0 : Int) + (i : Int) = i := by omega
      rw [canP_succ]
      refine ⟨_, rfl, _, rfl, b, _, _, _, rfl, rfl, sm.seq hB, ab, _, rfl, _, rfl, a, _, _, _, rfl, rfl, sm.seq hA, ar, _, _, rfl, rfl, _, rfl, ite2 (fun e => ?A) (fun e => ?B)⟩
      case' A =>
        have e' := of_decide_eq_true e
        have eo : optP rs bs i true = [((i : Int), true)] := opt_t (decide_eq_true e')
        refine ⟨_, rfl, .inl ⟨rfl, _, SqL.of hP⟩, _, rfl, by show 2 ≤ sizeLine; decide, fun t nt => ?_⟩
        obtain ⟨x1, x2, x3⟩ := tup_app ((0 : Int) + (i : Int), true) hP ht nt
        have x4 := x3 _ sm hp
        refine ⟨p, _, _, rfl, rfl, same_upd nt _ _ hP, by rw [List.length_map]; exact small64 (by omega), ?_⟩
        have eo' : [((0 : Int) + (i : Int), true)] = optP rs bs i true := by rw [eo, ei]
        rw [eo'] at x1
        generalize upd (upd H' t (.tup [.int (0 + (i : Int)), .bl true])) p (.lst (ts.map V.ref ++ [.ref t])) = H2 at x1 x2 x4
        have hl2 : (ts ++ [t]).length ≤ 2 * i + 1 := by rw [List.length_append]; simp only [List.length_cons, List.length_nil]; omega
        generalize ts ++ [t] = us at x1 x2 hl2
      case' B =>
        have e' : ¬ rs.getD i 0 ≤ bs.getD i 0 := fun z => e (decide_eq_true z)
        have eo : optP rs bs i true = [] := opt_f (decide_eq_false e')
        have x1 : Tups H' ts (canP rs bs i ++ optP rs bs i true) := by rw [eo, List.append_nil]; exact ht
        have x2 := hP
        have x4 := sm
        have hl2 : ts.length ≤ 2 * i + 1 := by omega
        generalize H' = H2 at x1 x2 x4
        generalize ts = us at x1 x2 hl2
      all_goals
        refine ⟨_, rfl, _, rfl, _, _, rfl, rfl, b, _, _, _, rfl, rfl, x4.seq hB, ab1, _, _, rfl, rfl, _, rfl, ite2 (fun e2 => ?_) (fun e2 => ?_)⟩
        · have e2' := of_decide_eq_true e2
          have eo2 : optP rs bs i false = [((i : Int), false)] := opt_t (decide_eq_true (show 1 ≤ bs.getD (i + 1) 0 by omega))
          refine ⟨_, rfl, .inl ⟨rfl, _, SqL.of x2⟩, _, rfl, by show 2 ≤ sizeLine; decide, fun t nt => ?_⟩
          obtain ⟨y1, y2, y3⟩ := tup_app ((0 : Int) + (i : Int), false) x2 x1 nt
          have y4 := y3 _ x4 hp
          refine ⟨p, _, _, rfl, rfl, same_upd nt _ _ x2, by rw [List.length_map]; exact small64 (by omega), ?_⟩
          refine ⟨_, _, rfl, y4, y2, ?_⟩
          rw [eo2, show [((i : Int), false)] = [((0 : Int) + (i : Int), false)] by rw [ei]]
          exact y1
        · have e2' : ¬ 0 < bs.getD (i + 1) 0 := fun z => e2 (decide_eq_true z)
          have eo2 : optP rs bs i false = [] := opt_f (decide_eq_false (show ¬ 1 ≤ bs.getD (i + 1) 0 by omega))
          refine ⟨_, _, rfl, x4, x2, ?_⟩
          rw [eo2, List.append_nil]
          exact x1
    · rintro σ H' ⟨v, ts, rfl, sm, hP, ht⟩
      exact ⟨_, rfl, k H' p ts sm hp hP ht⟩
end
end CB
namespace CB
open PySem PySem.Spec PyProof.Rows L2
abbrev s_law_alike : Stmt := top 26
abbrev N_law_alike : List Str := ["found", "due", "k"]
theorem sc_law_alike : FnScope N_law_alike ["found", "due"] (defScope s_law_alike) := ⟨rfl, rfl, rfl, by decide +kernel, rfl, by decide +kernel, by decide +kernel⟩
end CB

namespace CB
open PySem PySem.Spec PyProof.Rows L2
def sp_law_alike (K : PySem.W.Frag) (_ : Str → Option Value) : Sp := fun vs H Q _ => ∃ (a b : Addr) (ts us : List Addr) (ss : List (Int × Bool)), vs = [.ref a, .ref b] ∧ H a = some (.lst (ts.map V.ref)) ∧ H b = some (.lst (us.map V.ref)) ∧ Tups H ts ss ∧ Tups H us ss ∧ ss.length ≤ 1000 ∧ Q (.bl true) H
section
variable {P : Program} {w : World} {K : PySem.W.Frag} {mg : Str → Option Value} {base : Heap}
theorem ok_law_alike {f : Addr} {fd : FuncData} (F : Fun K "_law_alike" "_law_alike" s_law_alike f fd) (B : Bi mg) (c_law_whole : Callee P w K mg base 1 "_law_whole" ["found"] (sp_law_whole K mg)) : FnOk P w K mg base (L2.CX P w) 2 f fd ["found", "due"] (sp_law_alike K mg) := by
  refine F.okX sc_law_alike (fun vs H Q E h => ?_) (fun cdv A outer s H vs Q E hr h => ?_)
  · obtain ⟨a, b, ts, us, ss, rfl, _⟩ := h
    rfl
  · obtain ⟨a, b, ts, us, ss, rfl, hA, hB, h1, h2, hl, q⟩ := h
    have l1 := h1.len
    have l2 := h2.len
    refine ⟨_, (pss_cons (ps_if (pw_or (pt_not (pt_val (pe_callB call_isi (by rfl) B.isinstance (by decide +kernel) (pa_cons (pv 0) (pa_cons (pe_bltn (v := .ty "list") (by rfl) B.list (by decide +kernel) rfl) pa_nil))))) (pw_or1 (pt_cmpR op_ne (pe_callB call_len_seq (by rfl) B.len PySem.boot_len (pa_cons (pv 0) pa_nil)) (pe_callB call_len_seq (by rfl) B.len PySem.boot_len (pa_cons (pv 1) pa_nil)) (nomark _)))).pt (pss_one (ps_ret pe_bl)) pss_nil)
  (pss_cons (ps_for (passes_of rfl) rfl (pi_range1 (by rfl) B.range (pa_cons (pe_callB call_len_seq (by rfl) B.len PySem.boot_len (pa_cons (pv 1) pa_nil)) pa_nil)) (pg_name (i := 2) sc_law_alike.nd rfl (Or.inl rfl)) (pss_cons (ps_if (pw_or (pt_not (pt_val (pe_callB call_isi (by rfl) B.isinstance (by decide +kernel) (pa_cons (pe_ix ix_list (pv 0) (pv 2) (fun _ _ => rfl)) (pa_cons (pe_bltn (v := .ty "tuple") (by rfl) B.tuple (by decide +kernel) rfl) pa_nil))))) (pw_or (pt_cmpR op_ne (pe_callB call_len_seq (by rfl) B.len PySem.boot_len (pa_cons (pe_ix ix_list (pv 0) (pv 2) (fun _ _ => rfl)) pa_nil)) pe_int (nomark _)) (pw_or1 (pt_cmpR (op_neD hr.units) (pe_ix ix_list (pv 0) (pv 2) (fun _ _ => rfl)) (pe_ix ix_list (pv 1) (pv 2) (fun _ _ => rfl)) (nomark _))))).pt (pss_one (ps_ret pe_bl)) pss_nil)
  (pss_one (ps_if (pw_or (pt_not (pt_val (pe_f c_law_whole hr (by decide) takes0 (pa_cons (pe_ix ix_tup (pe_ix ix_list (pv 0) (pv 2) (fun _ _ => rfl)) pe_int (fun _ _ => rfl)) pa_nil)))) (pw_or1 (pt_not (pt_val (pe_callB call_isi (by rfl) B.isinstance (by decide +kernel) (pa_cons (pe_ix ix_tup (pe_ix ix_list (pv 0) (pv 2) (fun _ _ => rfl)) pe_int (fun _ _ => rfl)) (pa_cons (pe_bltn (v := .ty "bool") (by rfl) B.bool (by decide +kernel) rfl) pa_nil))))))).pt (pss_one (ps_ret pe_bl)) pss_nil))))
  (pss_one (ps_ret pe_bl)))), ?_⟩
    refine ⟨_, rfl, _, _, .type "list", _, true, rfl, .ty _, .base (.lst hA), kit_ty (by decide +kernel), _, rfl, ite_f rfl ?_⟩
    refine ⟨_, rfl, a, _, rfl, .inl (SqL.of hA), _, rfl, b, _, rfl, .inl (SqL.of hB), rfl, _, rfl, ite_f (by rw [List.length_map, List.length_map, l1, l2]; simp) ?_⟩
    refine ⟨_, rfl, b, _, rfl, .inl (SqL.of hB), _, rfl, by rw [List.length_map]; omega, by rw [List.length_map]; omega, ?_⟩
    rw [List.length_map, Int.toNat_natCast]
    refine for_range (fun i σ H' => ∃ v, σ = [some (.ref a), some (.ref b), v] ∧ H' = H) ⟨none, rfl, rfl⟩ ?_ ?_
    · rintro i σ H' hi ⟨v, rfl, rfl⟩
      have hs : i < ss.length := by omega
      obtain ⟨t, ht, ht2⟩ := h1.get (List.getElem?_eq_getElem hs)
      obtain ⟨u, hu, hu2⟩ := h2.get (List.getElem?_eq_getElem hs)
      have at1 : atI (ts.map V.ref) (0 + (i : Int)) = some (.ref t) := at_of (j := i) (by omega) (by rw [List.getElem?_map, ht]; rfl)
      have at2 : atI (us.map V.ref) (0 + (i : Int)) = some (.ref u) := at_of (j := i) (by omega) (by rw [List.getElem?_map, hu]; rfl)
      refine ⟨_, rfl, _, rfl, a, _, _, _, rfl, rfl, SqL.of hA, at1, _, _, .type "tuple", _, true, rfl, .ty _, .base (.tup ht2), kit_ty (by decide +kernel), _, rfl, ite_f rfl ?_⟩
      refine ⟨_, rfl, _, rfl, a, _, _, _, rfl, rfl, SqL.of hA, at1, t, _, rfl, .inr (SqT.of ht2), rfl, _, rfl, ite_f rfl ?_⟩
      refine ⟨_, rfl, _, rfl, a, _, _, _, rfl, rfl, SqL.of hA, at1, _, rfl, _, rfl, b, _, _, _, rfl, rfl, SqL.of hB, at2, _, _, dp_T ht2, dp_T hu2, shaped_dStep _, shaped_dStep _, _, rfl, ite_f (by rw [eqv_dStep]; simp) ?_⟩
      refine ⟨_, rfl, _, rfl, a, _, _, _, rfl, rfl, SqL.of hA, at1, t, _, 0, _, rfl, rfl, SqT.of ht2, rfl, _, rfl, _, rfl, ite_f rfl ?_⟩
      refine ⟨_, rfl, _, rfl, a, _, _, _, rfl, rfl, SqL.of hA, at1, t, _, 1, _, rfl, rfl, SqT.of ht2, rfl, _, _, .type "bool", _, true, rfl, .ty _, .base (.bl _), kit_ty (by decide +kernel), _, rfl, ite_f rfl ?_⟩
      exact ⟨_, rfl, rfl⟩
    · rintro σ H' ⟨v, rfl, rfl⟩
      exact q
end
end CB
namespace CB
open PySem PySem.Spec PyProof.Rows L2
abbrev s_law_tried : Stmt := top 27
abbrev N_law_tried : List Str := ["ratios", "board", "line", "up", "e"]
theorem sc_law_tried : FnScope N_law_tried ["ratios", "board", "line", "up"] (defScope s_law_tried) := ⟨rfl, rfl, rfl, by decide +kernel, rfl, by decide +kernel, by decide +kernel⟩
end CB

namespace CB
open PySem PySem.Spec PyProof.Rows L2
def sp_law_tried (K : PySem.W.Frag) (_ : Str → Option Value) : Sp := fun vs H Q _ => ∃ (a b : Addr) (rs bs : List Int) (z : Int) (up : Bool), vs = [.ref a, .ref b, .int z, .bl up] ∧ SqL K H a (rs.map V.int) ∧ SqL K H b (bs.map V.int) ∧ GF rs ∧ GB rs bs ∧
  (∀ L : Nat, z = (L : Int) → L < rs.length → goesB rs bs L up = true → TellL H Q ((stepL rs bs L up).map V.int)) ∧ ((∀ L : Nat, z = (L : Int) → L < rs.length → goesB rs bs L up = false) → TellV H Q (.str "step"))
section
variable {P : Program} {w : World} {K : PySem.W.Frag} {mg : Str → Option Value} {base : Heap}
theorem ok_law_tried {f : Addr} {fd : FuncData} (F : Fun K "_law_tried" "_law_tried" s_law_tried f fd) (B : Bi mg) (e_BoardError : mg "BoardError" = some (.ref (ErA mg "BoardError"))) (w_NoStep : Wd K mg (ErA mg "NoStep") 3) (c_stepped : Callee P w K mg base 3 "stepped" ["ratios", "board", "line", "up"] (sp_stepped K mg))
    (c_law_word_of : CalleeE P w K mg base 1 "_law_word_of" ["e"] (sp_law_word_of K mg)) :
    FnOk P w K mg base (L2.CX P w) 4 f fd ["ratios", "board", "line", "up"] (sp_law_tried K mg) := by
  refine F.okX sc_law_tried (fun vs H Q E h => ?_) (fun cdv A outer s H vs Q E hr h => ?_)
  · obtain ⟨a, b, rs, bs, z, up, rfl, _⟩ := h
    rfl
  · obtain ⟨a, b, rs, bs, z, up, rfl, hA, hB, g, gb, k1, k2⟩ := h
    refine ⟨_, (pss_one (ps_try_as (i := 4) rfl rfl sc_law_tried.nd rfl rfl ⟨rfl, by decide, .inl e_BoardError⟩ takes0 (fun W pn xe tk _ => (pss_one (ps_ret (pe_f c_stepped hr (by decide) tk (pa_cons (pv 0) (pa_cons (pv 1) (pa_cons (pv 2) (pa_cons (pv 3) pa_nil))))))))
  (fun a oe cls d pn hz hf => (pss_one (ps_ret (pe_callE c_law_word_of hr (by decide) hz hf (pa_cons (pv 4) pa_nil))))))), ?_⟩
    refine ⟨_, rfl, _, rfl, _, rfl, _, rfl, a, b, rs, bs, z, up, rfl, hA, hB, fun _ _ => ⟨k1, fun hn => ?_⟩, fun z => absurd g z, fun _ z => absurd gb z⟩
    refine ⟨true, w_NoStep.bd, fun _ z hz => ?_, fun q => nomatch q⟩
    exact ⟨_, rfl, ErA mg "NoStep", rfl, rfl, 3, w_NoStep, rfl, fun H2 s2 => k2 hn H2 s2⟩
end
end CB
namespace CB
open PySem PySem.Spec PyProof.Rows L2
theorem no_err (P : Program) (w : World) (H : Hp) (s : Shared) (e : Value) (s' : Shared) : L2.CX P w [] H s (fun _ _ _ => False) e s' → False := fun h => by
  obtain ⟨_, _, _, _, _, _, _, _, _, _, _, _, z⟩ := h
  exact z
end CB
namespace CB
open PySem PySem.Spec PyProof.Rows L2
abbrev s_law : Stmt := top 28
abbrev N_law : List Str := ["script", "ratios", "board", "due", "handed", "found", "line", "far", "up", "told", "sign", "behind"]
theorem sc_law : FnScope N_law ["script"] (defScope s_law) := ⟨rfl, rfl, rfl, by decide +kernel, rfl, by decide +kernel, by decide +kernel⟩
end CB

namespace CB
open PySem PySem.Spec PyProof.Rows L2
def sp_law (K : PySem.W.Frag) : Sp := fun vs H Q _ => ∃ (a : Addr) (ns : List Int), vs = [.ref a] ∧ SqL K H a (ns.map V.int) ∧ ns.length ≤ 63 ∧ ∀ H', Q (.bl true) H'
theorem mem_can_dec (rs bs : List Int) (z : Int) (up : Bool) : (∃ L : Nat, z = (L : Int) ∧ L < rs.length ∧ goesB rs bs L up = true ∧ (z, up) ∈ canL rs bs) ∨ ((∀ L : Nat, z = (L : Int) → L < rs.length → goesB rs bs L up = false) ∧ (z, up) ∉ canL rs bs) := by
  by_cases h : (z, up) ∈ canL rs bs
  · obtain ⟨L, h1, h2, h3⟩ := mem_can.mp h
    exact .inl ⟨L, h2, h1, h3, h⟩
  · refine .inr ⟨fun L e hL => ?_, h⟩
    cases hg : goesB rs bs L up with
    | false => rfl
    | true => exact absurd (mem_can.mpr ⟨L, hL, e, hg⟩) h
section
variable {P : Program} {w : World} {K : PySem.W.Frag} {mg : Str → Option Value} {base : Heap}
theorem ok_law {f : Addr} {fd : FuncData} (F : Fun K "law" "law" s_law f fd) (B : Bi mg) (c_law_frame_by : Callee P w K mg base 2 "_law_frame_by" ["script"] (sp_law_frame_by K mg))
    (c_law_board_by : Callee P w K mg base 2 "_law_board_by" ["script", "first", "ratios", "kind"] (sp_law_board_by K mg)) (c_law_cell_at : Callee P w K mg base 1 "_law_cell_at" ["script", "k"] (sp_law_cell_at K mg))
    (c_law_due : Callee P w K mg base 1 "_law_due" ["ratios", "board"] (sp_law_due K mg)) (c_can : Callee P w K mg base 3 "can" ["ratios", "board"] (sp_can K mg))
    (c_law_alike : Callee P w K mg base 2 "_law_alike" ["found", "due"] (sp_law_alike K mg)) (c_law_tried : Callee P w K mg base 4 "_law_tried" ["ratios", "board", "line", "up"] (sp_law_tried K mg))
    (c_law_is_list : Callee P w K mg base 2 "_law_is_list" ["found", "due"] (sp_law_is_list K mg)) :
    FnOk P w K mg base (L2.CX P w) 5 f fd ["script"] (sp_law K) := by
  refine F.okX sc_law (fun vs H Q E h => ?_) (fun cdv A outer s H vs Q E hr h => ?_)
  · obtain ⟨a, ns, rfl, _⟩ := h
    rfl
  · obtain ⟨a, ns, rfl, hS, _, q⟩ := h
    refine ⟨_, (pss_cons (ps_set (i := 1) sc_law.nd rfl (Or.inl rfl) (pe_f c_law_frame_by hr (by decide) takes0 (pa_cons (pv 0) pa_nil)))
  (pss_cons (ps_set (i := 2) sc_law.nd rfl (Or.inl rfl) (pe_f c_law_board_by hr (by decide) takes0 (pa_cons (pv 0) (pa_cons pe_int (pa_cons (pv 1) (pa_cons (pe_op op_mod (pe_f c_law_cell_at hr (by decide) takes0 (pa_cons (pv 0) (pa_cons pe_int pa_nil))) pe_int) pa_nil))))))
  (pss_cons (ps_set (i := 3) sc_law.nd rfl (Or.inl rfl) (pe_f c_law_due hr (by decide) takes0 (pa_cons (pv 1) (pa_cons (pv 2) pa_nil))))
  (pss_cons (ps_set (i := 4) sc_law.nd rfl (Or.inl rfl) (pe_lst (pa_cons (pe_callTy call_list_of (by rfl) B.list (by decide +kernel) (pa_cons (pv 1) pa_nil)) (pa_cons (pe_callTy call_list_of (by rfl) B.list (by decide +kernel) (pa_cons (pv 2) pa_nil)) pa_nil))))
  (pss_cons (ps_set (i := 5) sc_law.nd rfl (Or.inl rfl) (pe_f c_can hr (by decide) takes0 (pa_cons (pe_ix ix_list (pv 4) pe_int (fun _ _ => rfl)) (pa_cons (pe_ix ix_list (pv 4) pe_int (fun _ _ => rfl)) pa_nil))))
  (pss_cons (ps_if (pw_or (pt_not (pt_val (pe_f c_law_alike hr (by decide) takes0 (pa_cons (pv 5) (pa_cons (pv 3) pa_nil))))) (pw_or1 (pt_cmpR (op_neD hr.units) (pv 4) (pe_lst (pa_cons (pv 1) (pa_cons (pv 2) pa_nil))) (nomark _)))).pt (pss_one (ps_ret pe_bl)) pss_nil)
  (pss_cons (ps_expr (pe_bm PySem.F.plainAttrs_list PySem.F.slot_list_append PySem.F.type_list_append mt_append (pv 5) (pa_cons (pe_tup (pa_cons pe_int (pa_cons pe_bl pa_nil))) pa_nil)))
  (pss_cons (ps_set (i := 6) sc_law.nd rfl (Or.inl rfl) (pe_op op_mod (pe_f c_law_cell_at hr (by decide) takes0 (pa_cons (pv 0) (pa_cons pe_int pa_nil))) (pe_op op_add (pe_callB call_len_seq (by rfl) B.len PySem.boot_len (pa_cons (pv 1) pa_nil)) pe_int)))
  (pss_cons (ps_if (pt_cmpR op_eq (pe_op op_mod (pe_f c_law_cell_at hr (by decide) takes0 (pa_cons (pv 0) (pa_cons pe_int pa_nil))) pe_int) pe_int (nomark _)) (pss_cons (ps_set (i := 7) sc_law.nd rfl (Or.inl rfl) (pe_op op_mod (pe_f c_law_cell_at hr (by decide) takes0 (pa_cons (pv 0) (pa_cons pe_int pa_nil))) (pe_op op_pow pe_int pe_int)))
  (pss_one (ps_set (i := 6) sc_law.nd rfl (Or.inl rfl) (pe_ix ix_list (pe_lst (pa_cons (pe_op op_sub (pe_un un_neg pe_int) (pv 7)) (pa_cons (pe_op op_add (pe_callB call_len_seq (by rfl) B.len PySem.boot_len (pa_cons (pv 1) pa_nil)) (pv 7)) pa_nil))) (pe_op op_mod (pe_op op_fdiv (pe_f c_law_cell_at hr (by decide) takes0 (pa_cons (pv 0) (pa_cons pe_int pa_nil))) pe_int) pe_int) (fun _ _ => rfl))))) pss_nil)
  (pss_cons (ps_set (i := 8) sc_law.nd rfl (Or.inl rfl) (pe_cmpR op_eq (pe_op op_mod (pe_f c_law_cell_at hr (by decide) takes0 (pa_cons (pv 0) (pa_cons pe_int pa_nil))) pe_int) pe_int (nomark _)))
  (pss_cons (ps_set (i := 9) sc_law.nd rfl (Or.inl rfl) (pe_f c_law_tried hr (by decide) takes0 (pa_cons (pe_ix ix_list (pv 4) pe_int (fun _ _ => rfl)) (pa_cons (pe_ix ix_list (pv 4) pe_int (fun _ _ => rfl)) (pa_cons (pv 6) (pa_cons (pv 8) pa_nil))))))
  (pss_cons (ps_if (pw_or (pt_cmpR (op_neD hr.units) (pv 4) (pe_lst (pa_cons (pv 1) (pa_cons (pv 2) pa_nil))) (nomark _)) (pw_or1 (pt_not (pt_val (pe_f c_law_alike hr (by decide) takes0 (pa_cons (pe_f c_can hr (by decide) takes0 (pa_cons (pe_ix ix_list (pv 4) pe_int (fun _ _ => rfl)) (pa_cons (pe_ix ix_list (pv 4) pe_int (fun _ _ => rfl)) pa_nil))) (pa_cons (pv 3) pa_nil))))))).pt (pss_one (ps_ret pe_bl)) pss_nil)
  (pss_cons (ps_if (pt_cmpR (op_notInD (units65 hr)) (pe_tup (pa_cons (pv 6) (pa_cons (pv 8) pa_nil))) (pv 3) (by rfl)) (pss_one (ps_ret (pe_cmpR op_eq (pv 9) pe_str (nomark _)))) pss_nil)
  (pss_cons (ps_set (i := 10) sc_law.nd rfl (Or.inl rfl) (pe_ifExp (pt_val (pv 8)) pe_int (pe_un un_neg pe_int)))
  (pss_cons (ps_set (i := 11) sc_law.nd rfl (Or.inl rfl) (pe_callTy call_list_of (by rfl) B.list (by decide +kernel) (pa_cons (pv 2) pa_nil)))
  (pss_cons (ps_asg (pe_op op_sub (pe_ix ix_list (pv 11) (pv 6) (fun _ _ => rfl)) (pe_op op_mulW (pv 10) (pe_ix ix_list (pv 1) (pv 6) (fun _ _ => rfl)))) (pg_sub (pv 11) (pv 6) set_list))
  (pss_cons (ps_asg (pe_op op_add (pe_ix ix_list (pv 11) (pe_op op_add (pv 6) pe_int) (fun _ _ => rfl)) (pv 10)) (pg_sub (pv 11) (pe_op op_add (pv 6) pe_int) set_list))
  (pss_one (ps_ret (pe_f c_law_is_list hr (by decide) takes0 (pa_cons (pv 9) (pa_cons (pv 11) pa_nil)))))))))))))))))))))), ?_⟩
    refine ⟨.ref a, rfl, a, ns, rfl, hS, fun rs g H1 p1 s1 n1 e1 => ?_⟩
    refine ⟨_, rfl, _, rfl, _, rfl, a, ns, 1, rfl, s1.seq hS, by decide, _, _, rfl, rfl, (show (0 : Int) < 4 by decide), ?_⟩
    refine ⟨a, p1, ns, rs, 13, _, rfl, s1.seq hS, SqL.of e1, g.1, by decide, fun bs gb hb H2 p2 s2 n2 e2 => ?_⟩
    have hn := gb.1
    have g11 := g.1
    have s02 := s1.trans s2
    have k1 := s2 _ _ e1
    -- due
    refine ⟨_, rfl, _, rfl, p1, p2, rs, bs, rfl, SqL.of k1, SqL.of e2, g, gb, fun H3 p3 ts s3 n3 e3 t3 => ?_⟩
    have hcl := canP_len rs bs rs.length
    have hcl2 : (canL rs bs).length ≤ 22 := by
      have : (canL rs bs).length ≤ 2 * rs.length := hcl
      omega
    have s03 := s02.trans s3
    have l1 := s3 _ _ k1
    have l2 := s3 _ _ e2
    -- handed
    refine ⟨_, rfl, p1, _, rfl, .inl (SqL.of l1), fun z1 u1 => ?_⟩
    have t1 := same_upd (o := .lst (rs.map V.int)) u1
    refine ⟨_, rfl, p2, _, rfl, .inl (SqL.of (t1 _ _ l2)), fun z2 u2 => ?_⟩
    have t2 := same_upd (o := .lst (bs.map V.int)) u2
    refine ⟨by show 2 ≤ sizeLine; decide, fun p6 n6 => ?_⟩
    have t5 := same_upd (o := .lst [V.ref z1, V.ref z2]) n6
    have t := (t1.trans t2).trans t5
    have i1 := t _ _ l1
    have i2 := t _ _ l2
    have i3 := t _ _ e3
    have iT := t3.same t
    have j1 := t5 _ _ (t2 _ _ (upd_same (H := H3) (a := z1) (o := .lst (rs.map V.int))))
    have j2 := t5 _ _ (upd_same (H := upd H3 z1 (.lst (rs.map V.int))) (a := z2) (o := .lst (bs.map V.int)))
    have j6 := upd_same (H := upd (upd H3 z1 (.lst (rs.map V.int))) z2 (.lst (bs.map V.int))) (a := p6) (o := .lst [V.ref z1, V.ref z2])
    have s06 := s03.trans t
    generalize upd (upd (upd H3 z1 (.lst (rs.map V.int))) z2 (.lst (bs.map V.int))) p6 (.lst [V.ref z1, V.ref z2]) = H6 at i1 i2 i3 iT j1 j2 j6 s06
    -- found = can
    refine ⟨_, rfl, p6, _, 0, _, rfl, rfl, SqL.of j6, rfl, _, rfl, p6, _, 1, _, rfl, rfl, SqL.of j6, rfl, ?_⟩
    refine ⟨z1, z2, rs, bs, rfl, SqL.of j1, SqL.of j2, fun _ _ H7 p7 ts7 s7 n7 e7 t7 => ?_, fun z => absurd g z, fun _ z => absurd gb z⟩
    refine ⟨_, rfl, _, rfl, p7, p3, ts7, ts, canL rs bs, rfl, e7, s7 _ _ i3, t7, iT.same s7, by omega, _, rfl, ite_f rfl ?_⟩
    refine ⟨_, rfl, _, rfl, _, rfl, by show 2 ≤ sizeLine; decide, fun x8 y8 => ?_⟩
    have s8 := same_upd (o := .lst [V.ref p1, V.ref p2]) y8
    have s68 := s7.trans s8
    refine ⟨_, _, dp_L2 (SqL.of (s68 _ _ j6)) (SqL.of (s68 _ _ j1)) (SqL.of (s68 _ _ j2)), dp_L2 (SqL.of upd_same) (SqL.of (s68 _ _ i1)) (SqL.of (s68 _ _ i2)), shaped_dLL _, shaped_dLL _, _, rfl, ite_f (by rw [eqv_dLL, decide_eq_true rfl]; rfl) ?_⟩
    have e7 := s8 _ _ e7
    have t7 := t7.same s8
    generalize upd H7 x8 (.lst [V.ref p1, V.ref p2]) = H8 at e7 t7 s68
    -- found.append((0, True))
    have hl7 := t7.len
    refine ⟨_, rfl, .inl ⟨rfl, _, SqL.of e7⟩, by show 2 ≤ sizeLine; decide, fun t nt => ?_⟩
    obtain ⟨_, _, x3⟩ := tup_app ((0 : Int), true) e7 t7 nt
    have s69 := x3 _ s68 n7
    refine ⟨p7, _, _, rfl, rfl, same_upd nt _ _ e7, by rw [List.length_map]; exact small64 (by omega), ?_⟩
    generalize upd (upd H8 t (.tup [.int 0, .bl true])) p7 (.lst (ts7.map V.ref ++ [.ref t])) = H9 at s69
    have hS6 := s06.seq hS
    -- line
    refine ⟨_, rfl, a, ns, 40, rfl, s69.seq hS6, by decide, _, rfl, p1, _, rfl, .inl (SqL.of (s69 _ _ i1)), _, _, rfl, rfl, _, _, rfl, rfl, (by show (0 : Int) < ((rs.map V.int).length : Int) + 1; omega), ?_⟩
    refine ⟨_, rfl, a, ns, 41, rfl, s69.seq hS6, by decide, _, _, rfl, rfl, (show (0 : Int) < 4 by decide), rfl, _, rfl, ite2 (fun _ => ?A) (fun _ => ?B)⟩
    case' A =>
      refine ⟨_, rfl, a, ns, 40, rfl, s69.seq hS6, by decide, _, _, rfl, rfl, ⟨by decide, by decide, by decide⟩, _, _, rfl, rfl, (by decide : (0 : Int) < 10 ^ (20 : Int).toNat), ?_⟩
      refine ⟨_, rfl, _, rfl, _, _, rfl, rfl, _, rfl, p1, _, rfl, .inl (SqL.of (s69 _ _ i1)), _, rfl, _, _, rfl, rfl, by show 2 ≤ sizeLine; decide, fun x9 y9 => ?_⟩
      have s9' := same_upd (o := .lst [V.int (-1 - cell ns 40 % 10 ^ (20 : Int).toNat), V.int (((rs.map V.int).length : Int) + cell ns 40 % 10 ^ (20 : Int).toNat)]) y9
      obtain ⟨z, _, hat⟩ := pick2 (x := -1 - cell ns 40 % 10 ^ (20 : Int).toNat) (y := ((rs.map V.int).length : Int) + cell ns 40 % 10 ^ (20 : Int).toNat) (mod2 (cell ns 41 / 4))
      refine ⟨_, rfl, a, ns, 41, rfl, (s69.trans s9').seq hS6, by decide, _, _, rfl, rfl, ⟨by decide, by decide⟩, _, _, rfl, rfl, (show (0 : Int) < 2 by decide), x9, _, _, _, rfl, rfl, SqL.of upd_same, hat, ?_⟩
      have sT := s69.trans s9'
      generalize upd H9 x9 (.lst [V.int (-1 - cell ns 40 % 10 ^ (20 : Int).toNat), V.int (((rs.map V.int).length : Int) + cell ns 40 % 10 ^ (20 : Int).toNat)]) = HT at sT
      show tSeq _ _ _ [some (V.ref a), some (V.ref p1), some (V.ref p2), some (V.ref p3), some (V.ref p6), some (V.ref p7), some (V.int z), some (V.int (cell ns 40 % 10 ^ (20 : Int).toNat)), none, none, none, none] HT
      generalize some (V.int (cell ns 40 % 10 ^ (20 : Int).toNat)) = vf
    case' B =>
      obtain ⟨z, hz⟩ : ∃ z, z = cell ns 40 % (((rs.map V.int).length : Int) + 1) := ⟨_, rfl⟩
      have sT := s69
      show tSeq _ _ _ [some (V.ref a), some (V.ref p1), some (V.ref p2), some (V.ref p3), some (V.ref p6), some (V.ref p7), some (V.int (cell ns 40 % (((rs.map V.int).length : Int) + 1))), none, none, none, none, none] H9
      rw [← hz]
      generalize H9 = HT at sT
    all_goals
      -- up
      refine ⟨_, rfl, a, ns, 42, rfl, sT.seq hS6, by decide, _, _, rfl, rfl, (show (0 : Int) < 2 by decide), rfl, ?_⟩
      obtain ⟨up, hup⟩ : ∃ u, u = decide (V.int (cell ns 42 % 2) = V.int 1) := ⟨_, rfl⟩
      refine ⟨_, rfl, p6, _, 0, _, rfl, rfl, SqL.of (sT _ _ j6), rfl, _, rfl, p6, _, 1, _, rfl, rfl, SqL.of (sT _ _ j6), rfl, _, rfl, _, rfl, ?_⟩
      rw [← hup]
      refine ⟨z1, z2, rs, bs, z, up, rfl, SqL.of (sT _ _ j1), SqL.of (sT _ _ j2), g, gb, fun L hz hL hg H11 p11 s11 n11 e11 => ?_, fun hno H11 s11 => ?_⟩
      · have hmem : (z, up) ∈ canL rs bs := mem_can.mpr ⟨L, hL, hz, hg⟩
        refine ⟨_, rfl, _, rfl, _, rfl, by show 2 ≤ sizeLine; decide, fun x12 y12 => ?_⟩
        have s12 := same_upd (o := .lst [V.ref p1, V.ref p2]) y12
        have sU := (sT.trans s11).trans s12
        refine ⟨_, _, dp_L2 (SqL.of (sU _ _ j6)) (SqL.of (sU _ _ j1)) (SqL.of (sU _ _ j2)), dp_L2 (SqL.of upd_same) (SqL.of (sU _ _ i1)) (SqL.of (sU _ _ i2)), shaped_dLL _, shaped_dLL _, _, rfl, ite_f (by rw [eqv_dLL, decide_eq_true rfl]; rfl) ?_⟩
        have f11 := s12 _ _ e11
        generalize upd H11 x12 (.lst [V.ref p1, V.ref p2]) = H12 at sU f11
        refine ⟨_, rfl, p6, _, 0, _, rfl, rfl, SqL.of (sU _ _ j6), rfl, _, rfl, p6, _, 1, _, rfl, rfl, SqL.of (sU _ _ j6), rfl, ?_⟩
        refine ⟨z1, z2, rs, bs, rfl, SqL.of (sU _ _ j1), SqL.of (sU _ _ j2), fun _ _ H13 p13 ts13 s13 n13 e13 t13 => ?_, fun z => absurd g z, fun _ z => absurd gb z⟩
        have sV := sU.trans s13
        refine ⟨_, rfl, p13, p3, ts13, ts, canL rs bs, rfl, e13, sV _ _ i3, t13, iT.same sV, by omega, _, rfl, ite_f rfl ?_⟩
        -- (line, up) in due
        refine ⟨_, rfl, _, rfl, by show 2 ≤ sizeLine; decide, fun x14 y14 => ?_⟩
        have s14 := same_upd (o := .tup [V.int z, V.bl up]) y14
        have sW := sV.trans s14
        refine ⟨_, rfl, dStep (z, up), (canL rs bs).map dStep, dp_T (s := (z, up)) upd_same, dp_LT (SqL.of (sW _ _ i3)) (iT.same sW), shaped_dStep _, shaped_dLT _, _, rfl, ?_⟩
        rw [any_step]
        refine ite_f (by simp [hmem]) ?_
        have f11 := s14 _ _ (s13 _ _ f11)
        generalize upd H13 x14 (.tup [V.int z, V.bl up]) = H14 at sW f11
        subst hz
        have hL1 : L + 1 < bs.length := by omega
        have ar : atI (rs.map V.int) (L : Int) = some (.int (rs.getD L 0)) := atI_nat (map_get (getD_of hL))
        have ab : atI (bs.map V.int) (L : Int) = some (.int (bs.getD L 0)) := atI_nat (map_get (getD_of (by omega)))
        have at1 : ∀ v : V, atI ((bs.map V.int).set L v) ((L : Int) + 1) = some (.int (bs.getD (L + 1) 0)) := fun v => at_of (j := L + 1) (by omega) (by rw [List.getElem?_set_ne (by omega)]; exact map_get (getD_of hL1))
        have hrb := g.2 (rs.getD L 0) (List.mem_of_getElem? (getD_of hL))
        have hab : (rs.getD L 0).natAbs < 2 ^ 10 := by omega
        refine ⟨_, rfl, _, rfl, ?_⟩
        cases up with
        | true =>
          refine ite_t rfl ?_
          refine ⟨_, rfl, p2, _, rfl, .inl (SqL.of (sW _ _ i2)), fun x15 y15 => ?_⟩
          have s15 := same_upd (o := .lst (bs.map V.int)) y15
          have d15 : p11 ≠ x15 := ne_of_none f11 y15
          refine ⟨_, rfl, _, rfl, x15, _, _, _, rfl, rfl, SqL.of upd_same, ab, _, rfl, _, rfl, _, rfl, p1, _, _, _, rfl, rfl, SqL.of (s15 _ _ (sW _ _ i1)), ar, _, _, rfl, rfl, wide_mul (a := 2) (b := 10) (by decide) hab (by decide) (by decide) (by decide), _, _, rfl, rfl, ?_⟩
          refine ⟨_, rfl, _, rfl, x15, _, _, L, rfl, rfl, upd_same, ix_of rfl (by rw [List.length_map]; omega), ?_⟩
          refine ⟨_, rfl, _, rfl, _, _, rfl, rfl, x15, _, _, _, rfl, rfl, SqL.of upd_same, at1 _, _, rfl, _, _, rfl, rfl, ?_⟩
          refine ⟨_, rfl, _, rfl, _, _, rfl, rfl, x15, _, _, L + 1, rfl, rfl, upd_same, ix_of (by omega) (by rw [List.length_set, List.length_map]; omega), ?_⟩
          rw [upd_upd, upd_upd]
          refine ⟨_, rfl, _, rfl, p11, x15, stepL rs bs L true, rfl, ?_, SqL.of ?_, by rw [stepL_len]; omega, q _⟩
          · rw [upd_ne d15]
            exact f11
          · rw [upd_same]
            unfold stepL
            rw [List.map_set, List.map_set]
            rfl
        | false =>
          refine ite_f rfl ⟨_, rfl, ?_⟩
          refine ⟨_, rfl, p2, _, rfl, .inl (SqL.of (sW _ _ i2)), fun x15 y15 => ?_⟩
          have s15 := same_upd (o := .lst (bs.map V.int)) y15
          have d15 : p11 ≠ x15 := ne_of_none f11 y15
          refine ⟨_, rfl, _, rfl, x15, _, _, _, rfl, rfl, SqL.of upd_same, ab, _, rfl, _, rfl, _, rfl, p1, _, _, _, rfl, rfl, SqL.of (s15 _ _ (sW _ _ i1)), ar, _, _, rfl, rfl, wide_mul (a := 2) (b := 10) (by decide) hab (by decide) (by decide) (by decide), _, _, rfl, rfl, ?_⟩
          refine ⟨_, rfl, _, rfl, x15, _, _, L, rfl, rfl, upd_same, ix_of rfl (by rw [List.length_map]; omega), ?_⟩
          refine ⟨_, rfl, _, rfl, _, _, rfl, rfl, x15, _, _, _, rfl, rfl, SqL.of upd_same, at1 _, _, rfl, _, _, rfl, rfl, ?_⟩
          refine ⟨_, rfl, _, rfl, _, _, rfl, rfl, x15, _, _, L + 1, rfl, rfl, upd_same, ix_of (by omega) (by rw [List.length_set, List.length_map]; omega), ?_⟩
          rw [upd_upd, upd_upd]
          refine ⟨_, rfl, _, rfl, p11, x15, stepL rs bs L false, rfl, ?_, SqL.of ?_, by rw [stepL_len]; omega, q _⟩
          · rw [upd_ne d15]
            exact f11
          · rw [upd_same]
            unfold stepL
            rw [List.map_set, List.map_set]
            rfl
      · have hmem : (z, up) ∉ canL rs bs := fun h => by
          obtain ⟨L, h1, h2, h3⟩ := mem_can.mp h
          have := hno L h2 h1
          rw [show up = (z, up).2 from rfl, h3] at this
          cases this
        refine ⟨_, rfl, _, rfl, _, rfl, by show 2 ≤ sizeLine; decide, fun x12 y12 => ?_⟩
        have s12 := same_upd (o := .lst [V.ref p1, V.ref p2]) y12
        have sU := (sT.trans s11).trans s12
        refine ⟨_, _, dp_L2 (SqL.of (sU _ _ j6)) (SqL.of (sU _ _ j1)) (SqL.of (sU _ _ j2)), dp_L2 (SqL.of upd_same) (SqL.of (sU _ _ i1)) (SqL.of (sU _ _ i2)), shaped_dLL _, shaped_dLL _, _, rfl, ite_f (by rw [eqv_dLL, decide_eq_true rfl]; rfl) ?_⟩
        generalize upd H11 x12 (.lst [V.ref p1, V.ref p2]) = H12 at sU 
        refine ⟨_, rfl, p6, _, 0, _, rfl, rfl, SqL.of (sU _ _ j6), rfl, _, rfl, p6, _, 1, _, rfl, rfl, SqL.of (sU _ _ j6), rfl, ?_⟩
        refine ⟨z1, z2, rs, bs, rfl, SqL.of (sU _ _ j1), SqL.of (sU _ _ j2), fun _ _ H13 p13 ts13 s13 n13 e13 t13 => ?_, fun z => absurd g z, fun _ z => absurd gb z⟩
        have sV := sU.trans s13
        refine ⟨_, rfl, p13, p3, ts13, ts, canL rs bs, rfl, e13, sV _ _ i3, t13, iT.same sV, by omega, _, rfl, ite_f rfl ?_⟩
        -- (line, up) in due
        refine ⟨_, rfl, _, rfl, by show 2 ≤ sizeLine; decide, fun x14 y14 => ?_⟩
        have s14 := same_upd (o := .tup [V.int z, V.bl up]) y14
        have sW := sV.trans s14
        refine ⟨_, rfl, dStep (z, up), (canL rs bs).map dStep, dp_T (s := (z, up)) upd_same, dp_LT (SqL.of (sW _ _ i3)) (iT.same sW), shaped_dStep _, shaped_dLT _, _, rfl, ?_⟩
        rw [any_step]
        refine ite_t (by simp [hmem]) ?_
        refine ⟨_, rfl, rfl, ?_⟩
        rw [decide_eq_true rfl]
        exact q _
end
end CB
namespace CB
open PySem PySem.Spec PyProof.Rows L2
theorem all_mk {l : PySem.W.OpenLaw} {w : World} {K : PySem.W.Frag} {h : Heap} {mg : Str → Option Value} {fa : Addr} (X : K.In h) (G : h.Ns mainGlobals mg) (hfa : mg "law" = some (.ref fa))
    {t_MOST : Tok}
    {C_NoFrame : Addr}
    {C_NoBoard : Addr}
    {C_NoNumber : Addr}
    {C_NoStep : Addr}
    {C_NoWay : Addr}
    {C_TooLong : Addr}
    {C_NoLess : Addr}
    {C_NoNote : Addr}
    {C_BoardError : Addr}
    {f_asked_frame : Addr} {od_asked_frame an_asked_frame : Option Addr} {sl_asked_frame : Array (Option Value)} {oc_asked_frame kV_asked_frame dc_asked_frame pm_asked_frame cd_asked_frame ct_asked_frame : Value}
    {f_asked_board : Addr} {od_asked_board an_asked_board : Option Addr} {sl_asked_board : Array (Option Value)} {oc_asked_board kV_asked_board dc_asked_board pm_asked_board cd_asked_board ct_asked_board : Value}
    {f_goes : Addr} {od_goes an_goes : Option Addr} {sl_goes : Array (Option Value)} {oc_goes kV_goes dc_goes pm_goes cd_goes ct_goes : Value}
    {f_can : Addr} {od_can an_can : Option Addr} {sl_can : Array (Option Value)} {oc_can kV_can dc_can pm_can cd_can ct_can : Value}
    {f_stepped : Addr} {od_stepped an_stepped : Option Addr} {sl_stepped : Array (Option Value)} {oc_stepped kV_stepped dc_stepped pm_stepped cd_stepped ct_stepped : Value}
    {f_law_cell_at : Addr} {od_law_cell_at an_law_cell_at : Option Addr} {sl_law_cell_at : Array (Option Value)} {oc_law_cell_at kV_law_cell_at dc_law_cell_at pm_law_cell_at cd_law_cell_at ct_law_cell_at : Value}
    {f_law_whole : Addr} {od_law_whole an_law_whole : Option Addr} {sl_law_whole : Array (Option Value)} {oc_law_whole kV_law_whole dc_law_whole pm_law_whole cd_law_whole ct_law_whole : Value}
    {f_law_frame_by : Addr} {od_law_frame_by an_law_frame_by : Option Addr} {sl_law_frame_by : Array (Option Value)} {oc_law_frame_by kV_law_frame_by dc_law_frame_by pm_law_frame_by cd_law_frame_by ct_law_frame_by : Value}
    {f_law_board_by : Addr} {od_law_board_by an_law_board_by : Option Addr} {sl_law_board_by : Array (Option Value)} {oc_law_board_by kV_law_board_by dc_law_board_by pm_law_board_by cd_law_board_by ct_law_board_by : Value}
    {f_law_is_list : Addr} {od_law_is_list an_law_is_list : Option Addr} {sl_law_is_list : Array (Option Value)} {oc_law_is_list kV_law_is_list dc_law_is_list pm_law_is_list cd_law_is_list ct_law_is_list : Value}
    {f_law_word_of : Addr} {od_law_word_of an_law_word_of : Option Addr} {sl_law_word_of : Array (Option Value)} {oc_law_word_of kV_law_word_of dc_law_word_of pm_law_word_of cd_law_word_of ct_law_word_of : Value}
    {f_law_due : Addr} {od_law_due an_law_due : Option Addr} {sl_law_due : Array (Option Value)} {oc_law_due kV_law_due dc_law_due pm_law_due cd_law_due ct_law_due : Value}
    {f_law_alike : Addr} {od_law_alike an_law_alike : Option Addr} {sl_law_alike : Array (Option Value)} {oc_law_alike kV_law_alike dc_law_alike pm_law_alike cd_law_alike ct_law_alike : Value}
    {f_law_tried : Addr} {od_law_tried an_law_tried : Option Addr} {sl_law_tried : Array (Option Value)} {oc_law_tried kV_law_tried dc_law_tried pm_law_tried cd_law_tried ct_law_tried : Value}
    {f_law : Addr} {od_law an_law : Option Addr} {sl_law : Array (Option Value)} {oc_law kV_law dc_law pm_law cd_law ct_law : Value}
    (z_len : PySem.W.nsIn K mainGlobals "len" = some none)
    (z_list : PySem.W.nsIn K mainGlobals "list" = some none)
    (z_range : PySem.W.nsIn K mainGlobals "range" = some none)
    (z_isinstance : PySem.W.nsIn K mainGlobals "isinstance" = some none)
    (z_zip : PySem.W.nsIn K mainGlobals "zip" = some none)
    (z_reversed : PySem.W.nsIn K mainGlobals "reversed" = some none)
    (z_sum : PySem.W.nsIn K mainGlobals "sum" = some none)
    (z_all : PySem.W.nsIn K mainGlobals "all" = some none)
    (z_abs : PySem.W.nsIn K mainGlobals "abs" = some none)
    (z_max : PySem.W.nsIn K mainGlobals "max" = some none)
    (z_min : PySem.W.nsIn K mainGlobals "min" = some none)
    (z_str : PySem.W.nsIn K mainGlobals "str" = some none)
    (z_int : PySem.W.nsIn K mainGlobals "int" = some none)
    (z_bool : PySem.W.nsIn K mainGlobals "bool" = some none)
    (z_tuple : PySem.W.nsIn K mainGlobals "tuple" = some none)
    (z_ValueError : PySem.W.nsIn K mainGlobals "ValueError" = some none)
    (g_MOST : PySem.W.nsIn K mainGlobals "MOST" = some (some (.int 11 t_MOST)))
    (g_NoFrame : PySem.W.nsIn K mainGlobals "NoFrame" = some (some (.ref C_NoFrame)))
    (x_NoFrame : PySem.W.excIn K C_NoFrame [.type "ValueError", .type "Exception", .type "BaseException", .type "object"] "ValueError.__new__" = true)
    (k_NoFrame : PySem.W.keepIn K (.ref C_NoFrame) = true)
    (b_NoFrame : PySem.W.subIn K (.ref C_NoFrame) (.type "BaseException") = some true)
    (t_NoFrame : PySem.W.typeIn K (.ref C_NoFrame) = some (.type "type"))
    (g_NoBoard : PySem.W.nsIn K mainGlobals "NoBoard" = some (some (.ref C_NoBoard)))
    (x_NoBoard : PySem.W.excIn K C_NoBoard [.type "ValueError", .type "Exception", .type "BaseException", .type "object"] "ValueError.__new__" = true)
    (k_NoBoard : PySem.W.keepIn K (.ref C_NoBoard) = true)
    (b_NoBoard : PySem.W.subIn K (.ref C_NoBoard) (.type "BaseException") = some true)
    (t_NoBoard : PySem.W.typeIn K (.ref C_NoBoard) = some (.type "type"))
    (g_NoNumber : PySem.W.nsIn K mainGlobals "NoNumber" = some (some (.ref C_NoNumber)))
    (x_NoNumber : PySem.W.excIn K C_NoNumber [.type "ValueError", .type "Exception", .type "BaseException", .type "object"] "ValueError.__new__" = true)
    (k_NoNumber : PySem.W.keepIn K (.ref C_NoNumber) = true)
    (b_NoNumber : PySem.W.subIn K (.ref C_NoNumber) (.type "BaseException") = some true)
    (t_NoNumber : PySem.W.typeIn K (.ref C_NoNumber) = some (.type "type"))
    (g_NoStep : PySem.W.nsIn K mainGlobals "NoStep" = some (some (.ref C_NoStep)))
    (x_NoStep : PySem.W.excIn K C_NoStep [.type "ValueError", .type "Exception", .type "BaseException", .type "object"] "ValueError.__new__" = true)
    (k_NoStep : PySem.W.keepIn K (.ref C_NoStep) = true)
    (b_NoStep : PySem.W.subIn K (.ref C_NoStep) (.type "BaseException") = some true)
    (t_NoStep : PySem.W.typeIn K (.ref C_NoStep) = some (.type "type"))
    (g_NoWay : PySem.W.nsIn K mainGlobals "NoWay" = some (some (.ref C_NoWay)))
    (x_NoWay : PySem.W.excIn K C_NoWay [.type "ValueError", .type "Exception", .type "BaseException", .type "object"] "ValueError.__new__" = true)
    (k_NoWay : PySem.W.keepIn K (.ref C_NoWay) = true)
    (b_NoWay : PySem.W.subIn K (.ref C_NoWay) (.type "BaseException") = some true)
    (t_NoWay : PySem.W.typeIn K (.ref C_NoWay) = some (.type "type"))
    (g_TooLong : PySem.W.nsIn K mainGlobals "TooLong" = some (some (.ref C_TooLong)))
    (x_TooLong : PySem.W.excIn K C_TooLong [.type "ValueError", .type "Exception", .type "BaseException", .type "object"] "ValueError.__new__" = true)
    (k_TooLong : PySem.W.keepIn K (.ref C_TooLong) = true)
    (b_TooLong : PySem.W.subIn K (.ref C_TooLong) (.type "BaseException") = some true)
    (t_TooLong : PySem.W.typeIn K (.ref C_TooLong) = some (.type "type"))
    (g_NoLess : PySem.W.nsIn K mainGlobals "NoLess" = some (some (.ref C_NoLess)))
    (x_NoLess : PySem.W.excIn K C_NoLess [.type "ValueError", .type "Exception", .type "BaseException", .type "object"] "ValueError.__new__" = true)
    (k_NoLess : PySem.W.keepIn K (.ref C_NoLess) = true)
    (b_NoLess : PySem.W.subIn K (.ref C_NoLess) (.type "BaseException") = some true)
    (t_NoLess : PySem.W.typeIn K (.ref C_NoLess) = some (.type "type"))
    (g_NoNote : PySem.W.nsIn K mainGlobals "NoNote" = some (some (.ref C_NoNote)))
    (x_NoNote : PySem.W.excIn K C_NoNote [.type "ValueError", .type "Exception", .type "BaseException", .type "object"] "ValueError.__new__" = true)
    (k_NoNote : PySem.W.keepIn K (.ref C_NoNote) = true)
    (b_NoNote : PySem.W.subIn K (.ref C_NoNote) (.type "BaseException") = some true)
    (t_NoNote : PySem.W.typeIn K (.ref C_NoNote) = some (.type "type"))
    (g_BoardError : PySem.W.nsIn K mainGlobals "BoardError" = some (some (.ref C_BoardError)))
    (xn_all : PySem.W.specialIn K (.builtin "object.__class__") "__get__" = some (some (.builtin "getset_descriptor.__get__")))
    (xt_all : PySem.W.takesIn K (.builtin "object.__class__") = some true)
    (xg_NoStep : PySem.W.findIn K (.ref C_NoStep) "__getattribute__" = some (some (.builtin "BaseException.__getattribute__")))
    (xk_NoStep : PySem.W.findIn K (.ref C_NoStep) "__getattr__" = some none)
    (xd_NoStep : PySem.W.hasDictIn K C_NoStep = true)
    (xa_NoStep : PySem.W.findIn K (.ref C_NoStep) "__class__" = some (some (.builtin "object.__class__")))
    (xm_NoStep : PySem.W.mroIn K C_NoStep (.type "object") = some true)
    (q0_NoStep : PySem.W.kitOne K (.ref C_NoStep) (.ref C_NoFrame) = some false)
    (q1_NoStep : PySem.W.kitOne K (.ref C_NoStep) (.ref C_NoBoard) = some false)
    (q2_NoStep : PySem.W.kitOne K (.ref C_NoStep) (.ref C_NoNumber) = some false)
    (q3_NoStep : PySem.W.kitOne K (.ref C_NoStep) (.ref C_NoStep) = some true)
    (q4_NoStep : PySem.W.kitOne K (.ref C_NoStep) (.ref C_NoWay) = some false)
    (q5_NoStep : PySem.W.kitOne K (.ref C_NoStep) (.ref C_TooLong) = some false)
    (q6_NoStep : PySem.W.kitOne K (.ref C_NoStep) (.ref C_NoLess) = some false)
    (q7_NoStep : PySem.W.kitOne K (.ref C_NoStep) (.ref C_NoNote) = some false)
    (qv_NoStep : PySem.W.kitOne K (.ref C_NoStep) (.type "ValueError") = some true)
    (qb_NoStep : PySem.W.exmOne K (.ref C_NoStep) (.ref C_BoardError) = some true)
    (a_asked_frame : PySem.W.nsIn K mainGlobals "asked_frame" = some (some (.ref f_asked_frame)))
    (l_asked_frame : K.lookup f_asked_frame = some ⟨oc_asked_frame, od_asked_frame, .func (PySem.W.fnOf "asked_frame" "asked_frame" (defArgs s_asked_frame) (defBody s_asked_frame) (defScope s_asked_frame) .none kV_asked_frame dc_asked_frame pm_asked_frame an_asked_frame cd_asked_frame ct_asked_frame), sl_asked_frame⟩)
    (c_asked_frame : PySem.W.codeIn K cd_asked_frame "asked_frame" = true)
    (p_asked_frame : PySem.W.keepIn K (.ref f_asked_frame) = true)
    (a_asked_board : PySem.W.nsIn K mainGlobals "asked_board" = some (some (.ref f_asked_board)))
    (l_asked_board : K.lookup f_asked_board = some ⟨oc_asked_board, od_asked_board, .func (PySem.W.fnOf "asked_board" "asked_board" (defArgs s_asked_board) (defBody s_asked_board) (defScope s_asked_board) .none kV_asked_board dc_asked_board pm_asked_board an_asked_board cd_asked_board ct_asked_board), sl_asked_board⟩)
    (c_asked_board : PySem.W.codeIn K cd_asked_board "asked_board" = true)
    (p_asked_board : PySem.W.keepIn K (.ref f_asked_board) = true)
    (a_goes : PySem.W.nsIn K mainGlobals "goes" = some (some (.ref f_goes)))
    (l_goes : K.lookup f_goes = some ⟨oc_goes, od_goes, .func (PySem.W.fnOf "goes" "goes" (defArgs s_goes) (defBody s_goes) (defScope s_goes) .none kV_goes dc_goes pm_goes an_goes cd_goes ct_goes), sl_goes⟩)
    (c_goes : PySem.W.codeIn K cd_goes "goes" = true)
    (p_goes : PySem.W.keepIn K (.ref f_goes) = true)
    (a_can : PySem.W.nsIn K mainGlobals "can" = some (some (.ref f_can)))
    (l_can : K.lookup f_can = some ⟨oc_can, od_can, .func (PySem.W.fnOf "can" "can" (defArgs s_can) (defBody s_can) (defScope s_can) .none kV_can dc_can pm_can an_can cd_can ct_can), sl_can⟩)
    (c_can : PySem.W.codeIn K cd_can "can" = true)
    (p_can : PySem.W.keepIn K (.ref f_can) = true)
    (a_stepped : PySem.W.nsIn K mainGlobals "stepped" = some (some (.ref f_stepped)))
    (l_stepped : K.lookup f_stepped = some ⟨oc_stepped, od_stepped, .func (PySem.W.fnOf "stepped" "stepped" (defArgs s_stepped) (defBody s_stepped) (defScope s_stepped) .none kV_stepped dc_stepped pm_stepped an_stepped cd_stepped ct_stepped), sl_stepped⟩)
    (c_stepped : PySem.W.codeIn K cd_stepped "stepped" = true)
    (p_stepped : PySem.W.keepIn K (.ref f_stepped) = true)
    (a_law_cell_at : PySem.W.nsIn K mainGlobals "_law_cell_at" = some (some (.ref f_law_cell_at)))
    (l_law_cell_at : K.lookup f_law_cell_at = some ⟨oc_law_cell_at, od_law_cell_at, .func (PySem.W.fnOf "_law_cell_at" "_law_cell_at" (defArgs s_law_cell_at) (defBody s_law_cell_at) (defScope s_law_cell_at) .none kV_law_cell_at dc_law_cell_at pm_law_cell_at an_law_cell_at cd_law_cell_at ct_law_cell_at), sl_law_cell_at⟩)
    (c_law_cell_at : PySem.W.codeIn K cd_law_cell_at "_law_cell_at" = true)
    (p_law_cell_at : PySem.W.keepIn K (.ref f_law_cell_at) = true)
    (a_law_whole : PySem.W.nsIn K mainGlobals "_law_whole" = some (some (.ref f_law_whole)))
    (l_law_whole : K.lookup f_law_whole = some ⟨oc_law_whole, od_law_whole, .func (PySem.W.fnOf "_law_whole" "_law_whole" (defArgs s_law_whole) (defBody s_law_whole) (defScope s_law_whole) .none kV_law_whole dc_law_whole pm_law_whole an_law_whole cd_law_whole ct_law_whole), sl_law_whole⟩)
    (c_law_whole : PySem.W.codeIn K cd_law_whole "_law_whole" = true)
    (p_law_whole : PySem.W.keepIn K (.ref f_law_whole) = true)
    (a_law_frame_by : PySem.W.nsIn K mainGlobals "_law_frame_by" = some (some (.ref f_law_frame_by)))
    (l_law_frame_by : K.lookup f_law_frame_by = some ⟨oc_law_frame_by, od_law_frame_by, .func (PySem.W.fnOf "_law_frame_by" "_law_frame_by" (defArgs s_law_frame_by) (defBody s_law_frame_by) (defScope s_law_frame_by) .none kV_law_frame_by dc_law_frame_by pm_law_frame_by an_law_frame_by cd_law_frame_by ct_law_frame_by), sl_law_frame_by⟩)
    (c_law_frame_by : PySem.W.codeIn K cd_law_frame_by "_law_frame_by" = true)
    (p_law_frame_by : PySem.W.keepIn K (.ref f_law_frame_by) = true)
    (a_law_board_by : PySem.W.nsIn K mainGlobals "_law_board_by" = some (some (.ref f_law_board_by)))
    (l_law_board_by : K.lookup f_law_board_by = some ⟨oc_law_board_by, od_law_board_by, .func (PySem.W.fnOf "_law_board_by" "_law_board_by" (defArgs s_law_board_by) (defBody s_law_board_by) (defScope s_law_board_by) .none kV_law_board_by dc_law_board_by pm_law_board_by an_law_board_by cd_law_board_by ct_law_board_by), sl_law_board_by⟩)
    (c_law_board_by : PySem.W.codeIn K cd_law_board_by "_law_board_by" = true)
    (p_law_board_by : PySem.W.keepIn K (.ref f_law_board_by) = true)
    (a_law_is_list : PySem.W.nsIn K mainGlobals "_law_is_list" = some (some (.ref f_law_is_list)))
    (l_law_is_list : K.lookup f_law_is_list = some ⟨oc_law_is_list, od_law_is_list, .func (PySem.W.fnOf "_law_is_list" "_law_is_list" (defArgs s_law_is_list) (defBody s_law_is_list) (defScope s_law_is_list) .none kV_law_is_list dc_law_is_list pm_law_is_list an_law_is_list cd_law_is_list ct_law_is_list), sl_law_is_list⟩)
    (c_law_is_list : PySem.W.codeIn K cd_law_is_list "_law_is_list" = true)
    (p_law_is_list : PySem.W.keepIn K (.ref f_law_is_list) = true)
    (a_law_word_of : PySem.W.nsIn K mainGlobals "_law_word_of" = some (some (.ref f_law_word_of)))
    (l_law_word_of : K.lookup f_law_word_of = some ⟨oc_law_word_of, od_law_word_of, .func (PySem.W.fnOf "_law_word_of" "_law_word_of" (defArgs s_law_word_of) (defBody s_law_word_of) (defScope s_law_word_of) .none kV_law_word_of dc_law_word_of pm_law_word_of an_law_word_of cd_law_word_of ct_law_word_of), sl_law_word_of⟩)
    (c_law_word_of : PySem.W.codeIn K cd_law_word_of "_law_word_of" = true)
    (p_law_word_of : PySem.W.keepIn K (.ref f_law_word_of) = true)
    (a_law_due : PySem.W.nsIn K mainGlobals "_law_due" = some (some (.ref f_law_due)))
    (l_law_due : K.lookup f_law_due = some ⟨oc_law_due, od_law_due, .func (PySem.W.fnOf "_law_due" "_law_due" (defArgs s_law_due) (defBody s_law_due) (defScope s_law_due) .none kV_law_due dc_law_due pm_law_due an_law_due cd_law_due ct_law_due), sl_law_due⟩)
    (c_law_due : PySem.W.codeIn K cd_law_due "_law_due" = true)
    (p_law_due : PySem.W.keepIn K (.ref f_law_due) = true)
    (a_law_alike : PySem.W.nsIn K mainGlobals "_law_alike" = some (some (.ref f_law_alike)))
    (l_law_alike : K.lookup f_law_alike = some ⟨oc_law_alike, od_law_alike, .func (PySem.W.fnOf "_law_alike" "_law_alike" (defArgs s_law_alike) (defBody s_law_alike) (defScope s_law_alike) .none kV_law_alike dc_law_alike pm_law_alike an_law_alike cd_law_alike ct_law_alike), sl_law_alike⟩)
    (c_law_alike : PySem.W.codeIn K cd_law_alike "_law_alike" = true)
    (p_law_alike : PySem.W.keepIn K (.ref f_law_alike) = true)
    (a_law_tried : PySem.W.nsIn K mainGlobals "_law_tried" = some (some (.ref f_law_tried)))
    (l_law_tried : K.lookup f_law_tried = some ⟨oc_law_tried, od_law_tried, .func (PySem.W.fnOf "_law_tried" "_law_tried" (defArgs s_law_tried) (defBody s_law_tried) (defScope s_law_tried) .none kV_law_tried dc_law_tried pm_law_tried an_law_tried cd_law_tried ct_law_tried), sl_law_tried⟩)
    (c_law_tried : PySem.W.codeIn K cd_law_tried "_law_tried" = true)
    (p_law_tried : PySem.W.keepIn K (.ref f_law_tried) = true)
    (a_law : PySem.W.nsIn K mainGlobals "law" = some (some (.ref f_law)))
    (l_law : K.lookup f_law = some ⟨oc_law, od_law, .func (PySem.W.fnOf "law" "law" (defArgs s_law) (defBody s_law) (defScope s_law) .none kV_law dc_law pm_law an_law cd_law ct_law), sl_law⟩)
    (c_law : PySem.W.codeIn K cd_law "law" = true)
    (p_law : PySem.W.keepIn K (.ref f_law) = true) :
    ∃ fd : FuncData, (∀ (s : Shared) (v : Value), BindsTo s fd ⟨[v], []⟩ [("script", v)]) ∧ ∀ base : Heap, K.In base → base.Ns mainGlobals mg → FnOk l.prog w K mg base (L2.CX l.prog w) 5 fa fd ["script"] (sp_law K) := by
  have e := hfa.symm.trans (PySem.W.mg_of X G a_law)
  cases e
  have B : Bi mg := ⟨PySem.W.mg_none_of X G z_len, PySem.W.mg_none_of X G z_list, PySem.W.mg_none_of X G z_range, PySem.W.mg_none_of X G z_isinstance, PySem.W.mg_none_of X G z_zip, PySem.W.mg_none_of X G z_reversed, PySem.W.mg_none_of X G z_sum, PySem.W.mg_none_of X G z_all, PySem.W.mg_none_of X G z_abs, PySem.W.mg_none_of X G z_max, PySem.W.mg_none_of X G z_min, PySem.W.mg_none_of X G z_str, PySem.W.mg_none_of X G z_int, PySem.W.mg_none_of X G z_bool, PySem.W.mg_none_of X G z_tuple, PySem.W.mg_none_of X G z_ValueError⟩
  have m_MOST : ∃ t, mg "MOST" = some (.int 11 t) := ⟨_, PySem.W.mg_of X G g_MOST⟩
  have e_NoFrame : Er K mg "NoFrame" := er_mk (PySem.W.mg_of X G g_NoFrame) x_NoFrame k_NoFrame b_NoFrame t_NoFrame
  have e_NoBoard : Er K mg "NoBoard" := er_mk (PySem.W.mg_of X G g_NoBoard) x_NoBoard k_NoBoard b_NoBoard t_NoBoard
  have e_NoNumber : Er K mg "NoNumber" := er_mk (PySem.W.mg_of X G g_NoNumber) x_NoNumber k_NoNumber b_NoNumber t_NoNumber
  have e_NoStep : Er K mg "NoStep" := er_mk (PySem.W.mg_of X G g_NoStep) x_NoStep k_NoStep b_NoStep t_NoStep
  have e_NoWay : Er K mg "NoWay" := er_mk (PySem.W.mg_of X G g_NoWay) x_NoWay k_NoWay b_NoWay t_NoWay
  have e_TooLong : Er K mg "TooLong" := er_mk (PySem.W.mg_of X G g_TooLong) x_TooLong k_TooLong b_TooLong t_TooLong
  have e_NoLess : Er K mg "NoLess" := er_mk (PySem.W.mg_of X G g_NoLess) x_NoLess k_NoLess b_NoLess t_NoLess
  have e_NoNote : Er K mg "NoNote" := er_mk (PySem.W.mg_of X G g_NoNote) x_NoNote k_NoNote b_NoNote t_NoNote
  have e_BoardError : mg "BoardError" = some (.ref (ErA mg "BoardError")) := er_g (PySem.W.mg_of X G g_BoardError)
  have w_NoStep : Wd K mg (ErA mg "NoStep") 3 := wd_mk (PySem.W.mg_of X G g_NoStep) ⟨xg_NoStep, xk_NoStep, b_NoStep, xd_NoStep, xa_NoStep, xn_all, xt_all, xm_NoStep⟩ (PySem.W.mg_of X G g_NoFrame) (PySem.W.mg_of X G g_NoBoard) (PySem.W.mg_of X G g_NoNumber) (PySem.W.mg_of X G g_NoStep) (PySem.W.mg_of X G g_NoWay) (PySem.W.mg_of X G g_TooLong) (PySem.W.mg_of X G g_NoLess) (PySem.W.mg_of X G g_NoNote) (PySem.W.mg_of X G g_BoardError) q0_NoStep q1_NoStep q2_NoStep q3_NoStep q4_NoStep q5_NoStep q6_NoStep q7_NoStep qv_NoStep qb_NoStep
  have F_asked_frame := fun_mk (st := s_asked_frame) l_asked_frame c_asked_frame p_asked_frame
  have b_asked_frame := F_asked_frame.binds (ps := ["ratios"]) fun _ _ _ _ _ _ us hl => match us, hl with | [_], _ => rfl
  have F_asked_board := fun_mk (st := s_asked_board) l_asked_board c_asked_board p_asked_board
  have b_asked_board := F_asked_board.binds (ps := ["ratios", "board"]) fun _ _ _ _ _ _ us hl => match us, hl with | [_, _], _ => rfl
  have F_goes := fun_mk (st := s_goes) l_goes c_goes p_goes
  have b_goes := F_goes.binds (ps := ["ratios", "board", "line", "up"]) fun _ _ _ _ _ _ us hl => match us, hl with | [_, _, _, _], _ => rfl
  have F_can := fun_mk (st := s_can) l_can c_can p_can
  have b_can := F_can.binds (ps := ["ratios", "board"]) fun _ _ _ _ _ _ us hl => match us, hl with | [_, _], _ => rfl
  have F_stepped := fun_mk (st := s_stepped) l_stepped c_stepped p_stepped
  have b_stepped := F_stepped.binds (ps := ["ratios", "board", "line", "up"]) fun _ _ _ _ _ _ us hl => match us, hl with | [_, _, _, _], _ => rfl
  have F_law_cell_at := fun_mk (st := s_law_cell_at) l_law_cell_at c_law_cell_at p_law_cell_at
  have b_law_cell_at := F_law_cell_at.binds (ps := ["script", "k"]) fun _ _ _ _ _ _ us hl => match us, hl with | [_, _], _ => rfl
  have F_law_whole := fun_mk (st := s_law_whole) l_law_whole c_law_whole p_law_whole
  have b_law_whole := F_law_whole.binds (ps := ["found"]) fun _ _ _ _ _ _ us hl => match us, hl with | [_], _ => rfl
  have F_law_frame_by := fun_mk (st := s_law_frame_by) l_law_frame_by c_law_frame_by p_law_frame_by
  have b_law_frame_by := F_law_frame_by.binds (ps := ["script"]) fun _ _ _ _ _ _ us hl => match us, hl with | [_], _ => rfl
  have F_law_board_by := fun_mk (st := s_law_board_by) l_law_board_by c_law_board_by p_law_board_by
  have b_law_board_by := F_law_board_by.binds (ps := ["script", "first", "ratios", "kind"]) fun _ _ _ _ _ _ us hl => match us, hl with | [_, _, _, _], _ => rfl
  have F_law_is_list := fun_mk (st := s_law_is_list) l_law_is_list c_law_is_list p_law_is_list
  have b_law_is_list := F_law_is_list.binds (ps := ["found", "due"]) fun _ _ _ _ _ _ us hl => match us, hl with | [_, _], _ => rfl
  have F_law_word_of := fun_mk (st := s_law_word_of) l_law_word_of c_law_word_of p_law_word_of
  have b_law_word_of := F_law_word_of.binds (ps := ["e"]) fun _ _ _ _ _ _ us hl => match us, hl with | [_], _ => rfl
  have F_law_due := fun_mk (st := s_law_due) l_law_due c_law_due p_law_due
  have b_law_due := F_law_due.binds (ps := ["ratios", "board"]) fun _ _ _ _ _ _ us hl => match us, hl with | [_, _], _ => rfl
  have F_law_alike := fun_mk (st := s_law_alike) l_law_alike c_law_alike p_law_alike
  have b_law_alike := F_law_alike.binds (ps := ["found", "due"]) fun _ _ _ _ _ _ us hl => match us, hl with | [_, _], _ => rfl
  have F_law_tried := fun_mk (st := s_law_tried) l_law_tried c_law_tried p_law_tried
  have b_law_tried := F_law_tried.binds (ps := ["ratios", "board", "line", "up"]) fun _ _ _ _ _ _ us hl => match us, hl with | [_, _, _, _], _ => rfl
  have F_law := fun_mk (st := s_law) l_law c_law p_law
  refine ⟨PySem.W.fnOf "law" "law" (defArgs s_law) (defBody s_law) (defScope s_law) .none kV_law dc_law pm_law an_law cd_law ct_law, fun s v => .of_eq rfl, fun base _ _ => ?_⟩
  have c_asked_frame : Callee l.prog w K mg base 1 "asked_frame" ["ratios"] (sp_asked_frame K mg) := Callee.mk' (ok_asked_frame F_asked_frame B (m_MOST := m_MOST) (e_NoFrame := e_NoFrame)) (PySem.W.mg_of X G a_asked_frame) p_asked_frame b_asked_frame
  have c_asked_board : Callee l.prog w K mg base 2 "asked_board" ["ratios", "board"] (sp_asked_board K mg) := Callee.mk' (ok_asked_board F_asked_board B (e_NoBoard := e_NoBoard) (c_asked_frame := c_asked_frame)) (PySem.W.mg_of X G a_asked_board) p_asked_board b_asked_board
  have c_goes : Callee l.prog w K mg base 1 "goes" ["ratios", "board", "line", "up"] (sp_goes K mg) := Callee.mk' (ok_goes F_goes B) (PySem.W.mg_of X G a_goes) p_goes b_goes
  have c_can : Callee l.prog w K mg base 3 "can" ["ratios", "board"] (sp_can K mg) := Callee.mk' (ok_can F_can B (c_asked_board := c_asked_board) (c_goes := c_goes)) (PySem.W.mg_of X G a_can) p_can b_can
  have c_stepped : Callee l.prog w K mg base 3 "stepped" ["ratios", "board", "line", "up"] (sp_stepped K mg) := Callee.mk' (ok_stepped F_stepped B (e_NoStep := e_NoStep) (c_asked_board := c_asked_board) (c_goes := c_goes)) (PySem.W.mg_of X G a_stepped) p_stepped b_stepped
  have c_law_cell_at : Callee l.prog w K mg base 1 "_law_cell_at" ["script", "k"] (sp_law_cell_at K mg) := Callee.mk' (ok_law_cell_at F_law_cell_at B) (PySem.W.mg_of X G a_law_cell_at) p_law_cell_at b_law_cell_at
  have c_law_whole : Callee l.prog w K mg base 1 "_law_whole" ["found"] (sp_law_whole K mg) := Callee.mk' (ok_law_whole F_law_whole B) (PySem.W.mg_of X G a_law_whole) p_law_whole b_law_whole
  have c_law_frame_by : Callee l.prog w K mg base 2 "_law_frame_by" ["script"] (sp_law_frame_by K mg) := Callee.mk' (ok_law_frame_by F_law_frame_by B (c_law_cell_at := c_law_cell_at)) (PySem.W.mg_of X G a_law_frame_by) p_law_frame_by b_law_frame_by
  have c_law_board_by : Callee l.prog w K mg base 2 "_law_board_by" ["script", "first", "ratios", "kind"] (sp_law_board_by K mg) := Callee.mk' (ok_law_board_by F_law_board_by B (c_law_cell_at := c_law_cell_at)) (PySem.W.mg_of X G a_law_board_by) p_law_board_by b_law_board_by
  have c_law_is_list : Callee l.prog w K mg base 2 "_law_is_list" ["found", "due"] (sp_law_is_list K mg) := Callee.mk' (ok_law_is_list F_law_is_list B (c_law_whole := c_law_whole)) (PySem.W.mg_of X G a_law_is_list) p_law_is_list b_law_is_list
  have c_law_word_of : CalleeE l.prog w K mg base 1 "_law_word_of" ["e"] (sp_law_word_of K mg) := CalleeE.mk' (ok_law_word_of F_law_word_of B (e_NoFrame := e_NoFrame) (e_NoBoard := e_NoBoard) (e_NoNumber := e_NoNumber) (e_NoStep := e_NoStep) (e_NoWay := e_NoWay) (e_TooLong := e_TooLong) (e_NoLess := e_NoLess) (e_NoNote := e_NoNote)) (PySem.W.mg_of X G a_law_word_of) p_law_word_of b_law_word_of
  have c_law_due : Callee l.prog w K mg base 1 "_law_due" ["ratios", "board"] (sp_law_due K mg) := Callee.mk' (ok_law_due F_law_due B) (PySem.W.mg_of X G a_law_due) p_law_due b_law_due
  have c_law_alike : Callee l.prog w K mg base 2 "_law_alike" ["found", "due"] (sp_law_alike K mg) := Callee.mk' (ok_law_alike F_law_alike B (c_law_whole := c_law_whole)) (PySem.W.mg_of X G a_law_alike) p_law_alike b_law_alike
  have c_law_tried : Callee l.prog w K mg base 4 "_law_tried" ["ratios", "board", "line", "up"] (sp_law_tried K mg) := Callee.mk' (ok_law_tried F_law_tried B (e_BoardError := e_BoardError) (w_NoStep := w_NoStep) (c_stepped := c_stepped) (c_law_word_of := c_law_word_of)) (PySem.W.mg_of X G a_law_tried) p_law_tried b_law_tried
  exact ok_law F_law B (c_law_frame_by := c_law_frame_by) (c_law_board_by := c_law_board_by) (c_law_due := c_law_due) (c_can := c_can) (c_law_tried := c_law_tried) (c_law_is_list := c_law_is_list) (c_law_cell_at := c_law_cell_at) (c_law_alike := c_law_alike)
end CB
open PySem PySem.W PyProof.Rows
set_option maxRecDepth 100000 in
set_option maxHeartbeats 0 in
theorem PySem.Challenge.cw_countboard_k05_steps_holds : PySem.Challenge.rw_countboard_k05_steps.Holds := by
  w_on; o_law; k_head; (case hw => w_witness2)
  k_fill
  refine L2.walk_of (l := PySem.Challenge.rw_countboard_k05_steps) (n := 63) (k := 5) (x := "script") (CX := fun w => L2.CX PySem.Challenge.rw_countboard_k05_steps.prog w) (sp := fun w => CB.sp_law _) rfl (by decide) rfl ⟨rfl, by decide, by decide⟩ (fun w h Y => PySem.W.kIn_of Y) ?F (fun _ _ a ns hl _ hS => ⟨a, ns, rfl, hS, hl, fun _ => rfl⟩) (CB.no_err _)
  case F =>
    intro w mg fa h KX G hmg
    refine' CB.all_mk KX G hmg ?z_len ?z_list ?z_range ?z_isinstance ?z_zip ?z_reversed ?z_sum ?z_all ?z_abs ?z_max ?z_min ?z_str ?z_int ?z_bool ?z_tuple ?z_ValueError ?g_MOST ?g_NoFrame ?x_NoFrame ?k_NoFrame ?b_NoFrame ?t_NoFrame ?g_NoBoard ?x_NoBoard ?k_NoBoard ?b_NoBoard ?t_NoBoard ?g_NoNumber ?x_NoNumber ?k_NoNumber ?b_NoNumber ?t_NoNumber ?g_NoStep ?x_NoStep ?k_NoStep ?b_NoStep ?t_NoStep ?g_NoWay ?x_NoWay ?k_NoWay ?b_NoWay ?t_NoWay ?g_TooLong ?x_TooLong ?k_TooLong ?b_TooLong ?t_TooLong ?g_NoLess ?x_NoLess ?k_NoLess ?b_NoLess ?t_NoLess ?g_NoNote ?x_NoNote ?k_NoNote ?b_NoNote ?t_NoNote ?g_BoardError ?xn_all ?xt_all ?xg_NoStep ?xk_NoStep ?xd_NoStep ?xa_NoStep ?xm_NoStep ?q0_NoStep ?q1_NoStep ?q2_NoStep ?q3_NoStep ?q4_NoStep ?q5_NoStep ?q6_NoStep ?q7_NoStep ?qv_NoStep ?qb_NoStep ?a_asked_frame ?l_asked_frame ?c_asked_frame ?p_asked_frame ?a_asked_board ?l_asked_board ?c_asked_board ?p_asked_board ?a_goes ?l_goes ?c_goes ?p_goes ?a_can ?l_can ?c_can ?p_can ?a_stepped ?l_stepped ?c_stepped ?p_stepped ?a_law_cell_at ?l_law_cell_at ?c_law_cell_at ?p_law_cell_at ?a_law_whole ?l_law_whole ?c_law_whole ?p_law_whole ?a_law_frame_by ?l_law_frame_by ?c_law_frame_by ?p_law_frame_by ?a_law_board_by ?l_law_board_by ?c_law_board_by ?p_law_board_by ?a_law_is_list ?l_law_is_list ?c_law_is_list ?p_law_is_list ?a_law_word_of ?l_law_word_of ?c_law_word_of ?p_law_word_of ?a_law_due ?l_law_due ?c_law_due ?p_law_due ?a_law_alike ?l_law_alike ?c_law_alike ?p_law_alike ?a_law_tried ?l_law_tried ?c_law_tried ?p_law_tried ?a_law ?l_law ?c_law ?p_law
    (case z_len => k_is)
    (case z_list => k_is)
    (case z_range => k_is)
    (case z_isinstance => k_is)
    (case z_zip => k_is)
    (case z_reversed => k_is)
    (case z_sum => k_is)
    (case z_all => k_is)
    (case z_abs => k_is)
    (case z_max => k_is)
    (case z_min => k_is)
    (case z_str => k_is)
    (case z_int => k_is)
    (case z_bool => k_is)
    (case z_tuple => k_is)
    (case z_ValueError => k_is)
    (case g_MOST => k_is)
    (case g_NoFrame => k_is)
    (case x_NoFrame => k_exc)
    (case k_NoFrame => k_is)
    (case b_NoFrame => k_is)
    (case t_NoFrame => k_is)
    (case g_NoBoard => k_is)
    (case x_NoBoard => k_exc)
    (case k_NoBoard => k_is)
    (case b_NoBoard => k_is)
    (case t_NoBoard => k_is)
    (case g_NoNumber => k_is)
    (case x_NoNumber => k_exc)
    (case k_NoNumber => k_is)
    (case b_NoNumber => k_is)
    (case t_NoNumber => k_is)
    (case g_NoStep => k_is)
    (case x_NoStep => k_exc)
    (case k_NoStep => k_is)
    (case b_NoStep => k_is)
    (case t_NoStep => k_is)
    (case g_NoWay => k_is)
    (case x_NoWay => k_exc)
    (case k_NoWay => k_is)
    (case b_NoWay => k_is)
    (case t_NoWay => k_is)
    (case g_TooLong => k_is)
    (case x_TooLong => k_exc)
    (case k_TooLong => k_is)
    (case b_TooLong => k_is)
    (case t_TooLong => k_is)
    (case g_NoLess => k_is)
    (case x_NoLess => k_exc)
    (case k_NoLess => k_is)
    (case b_NoLess => k_is)
    (case t_NoLess => k_is)
    (case g_NoNote => k_is)
    (case x_NoNote => k_exc)
    (case k_NoNote => k_is)
    (case b_NoNote => k_is)
    (case t_NoNote => k_is)
    (case g_BoardError => k_is)
    (case xn_all => k_is)
    (case xt_all => k_is)
    (case xg_NoStep => k_is)
    (case xk_NoStep => k_is)
    (case xd_NoStep => k_is)
    (case xa_NoStep => k_is)
    (case xm_NoStep => k_is)
    (case q0_NoStep => kit_is)
    (case q1_NoStep => kit_is)
    (case q2_NoStep => kit_is)
    (case q3_NoStep => kit_is)
    (case q4_NoStep => kit_is)
    (case q5_NoStep => kit_is)
    (case q6_NoStep => kit_is)
    (case q7_NoStep => kit_is)
    (case qv_NoStep => kit_is)
    (case qb_NoStep => kts_exm)
    (case a_asked_frame => k_is)
    (case l_asked_frame => k_is)
    (case c_asked_frame => k_is)
    (case p_asked_frame => k_is)
    (case a_asked_board => k_is)
    (case l_asked_board => k_is)
    (case c_asked_board => k_is)
    (case p_asked_board => k_is)
    (case a_goes => k_is)
    (case l_goes => k_is)
    (case c_goes => k_is)
    (case p_goes => k_is)
    (case a_can => k_is)
    (case l_can => k_is)
    (case c_can => k_is)
    (case p_can => k_is)
    (case a_stepped => k_is)
    (case l_stepped => k_is)
    (case c_stepped => k_is)
    (case p_stepped => k_is)
    (case a_law_cell_at => k_is)
    (case l_law_cell_at => k_is)
    (case c_law_cell_at => k_is)
    (case p_law_cell_at => k_is)
    (case a_law_whole => k_is)
    (case l_law_whole => k_is)
    (case c_law_whole => k_is)
    (case p_law_whole => k_is)
    (case a_law_frame_by => k_is)
    (case l_law_frame_by => k_is)
    (case c_law_frame_by => k_is)
    (case p_law_frame_by => k_is)
    (case a_law_board_by => k_is)
    (case l_law_board_by => k_is)
    (case c_law_board_by => k_is)
    (case p_law_board_by => k_is)
    (case a_law_is_list => k_is)
    (case l_law_is_list => k_is)
    (case c_law_is_list => k_is)
    (case p_law_is_list => k_is)
    (case a_law_word_of => k_is)
    (case l_law_word_of => k_is)
    (case c_law_word_of => k_is)
    (case p_law_word_of => k_is)
    (case a_law_due => k_is)
    (case l_law_due => k_is)
    (case c_law_due => k_is)
    (case p_law_due => k_is)
    (case a_law_alike => k_is)
    (case l_law_alike => k_is)
    (case c_law_alike => k_is)
    (case p_law_alike => k_is)
    (case a_law_tried => k_is)
    (case l_law_tried => k_is)
    (case c_law_tried => k_is)
    (case p_law_tried => k_is)
    (case a_law => k_is)
    (case l_law => k_is)
    (case c_law => k_is)
    (case p_law => k_is)
