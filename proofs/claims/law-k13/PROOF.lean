import PyProof.Rows.All
import Wide.All
import OpenK.AllK
import Wide.FinOn
import HandS.ForMost
import HandS.ForExc
import HandS.Wide
import HandS.IsInst
import HandS.RevRange
import HandS.Zip
import HandS.Deep
import HandS.Conv
import HandS.Rev
import PySem.Challenge.RW_countboard_k13_whole_parts
set_option Elab.async false
set_option linter.all false
set_option maxRecDepth 100000
set_option maxHeartbeats 4000000
namespace CB
open PySem
def top (i : Nat) : Stmt := PySem.Challenge.pw_countboard_k13_whole_parts.main.body.getD i (.Pass ⟨0, 0, 0, 0⟩)
end CB
namespace CB
open PySem PySem.Spec PyProof.Rows L2
/-! ### a def that stands at its name and keeps its promise; the built-in names; the classes of errors -/
structure Callee (P : Program) (w : World) (K : PySem.W.Frag) (mg : Str → Option Value) (base : Heap) (k : Nat) (x : Str) (ps : List Str) (sp : Sp) : Prop where
  ex : ∃ (f : Addr) (fd : FuncData), FnOk P w K mg base (L2.CX P w) k f fd ps sp ∧ mg x = some (.ref f) ∧ PySem.W.keepIn K (.ref f) = true ∧ Binds K fd ps []
def ErA (mg : Str → Option Value) (x : Str) : Addr := match mg x with
  | some (.ref a) => a
  | _ => 0
structure Er (K : PySem.W.Frag) (mg : Str → Option Value) (x : Str) : Prop where
  gC : mg x = some (.ref (ErA mg x))
  xP : PySem.W.excIn K (ErA mg x) [.type "ValueError", .type "Exception", .type "BaseException", .type "object"] "ValueError.__new__" = true
  kP : PySem.W.keepIn K (.ref (ErA mg x)) = true
  bP : PySem.W.subIn K (.ref (ErA mg x)) (.type "BaseException") = some true
  tP : PySem.W.typeIn K (.ref (ErA mg x)) = some (.type "type")
theorem er_mk {K : PySem.W.Frag} {mg : Str → Option Value} {x : Str} {C : Addr} (g : mg x = some (.ref C)) (x1 : PySem.W.excIn K C [.type "ValueError", .type "Exception", .type "BaseException", .type "object"] "ValueError.__new__" = true)
    (k : PySem.W.keepIn K (.ref C) = true) (b : PySem.W.subIn K (.ref C) (.type "BaseException") = some true) (t : PySem.W.typeIn K (.ref C) = some (.type "type")) : Er K mg x := by
  have e : ErA mg x = C := by unfold ErA; rw [g]
  exact ⟨by rw [e]; exact g, by rw [e]; exact x1, by rw [e]; exact k, by rw [e]; exact b, by rw [e]; exact t⟩
structure Bi (mg : Str → Option Value) : Prop where
  len : mg "len" = none
  list : mg "list" = none
  range : mg "range" = none
  isinstance : mg "isinstance" = none
  zip : mg "zip" = none
  reversed : mg "reversed" = none
  sum : mg "sum" = none
  all : mg "all" = none
  abs : mg "abs" = none
  max : mg "max" = none
  min : mg "min" = none
  str : mg "str" = none
  int : mg "int" = none
  bool : mg "bool" = none
  tuple : mg "tuple" = none
  ValueError : mg "ValueError" = none
section
variable {X : Cx}
theorem pe_f {W : WX} {j k : Nat} {x : Str} {ps : List Str} {sp : Sp} {e : Expr} {es : List Expr} {t : TA} {p pos : Pos} (c : Callee X.prog X.w X.K X.mg X.base k x ps sp) (hr : Room j X.A) (hk : k ≤ j) (tk : Takes X W)
    (ha : PA X (e :: es) t) (hg : Gl X x := by rfl) (hdb : (x == ("__debug__" : Str)) = false := by decide) (he : starEach (e :: es) X.env = (false, eval e X.env) :: starEach es X.env := by rfl) (hpl : (backTo pos (starEach es X.env)).any (·.1) = false := by rfl) :
    PE X (.Call (.Name x p) (e :: es) [] pos) (tCallS sp (WE W) t) := by
  obtain ⟨f, fd, F, hm, hkp, hb⟩ := c
  exact pe_callS F (hr.mono hk) hg hm hkp hb (fun σ => passAt tk σ) ha hdb he hpl
end
theorem ix_listK {X : Cx} (K : PySem.W.Frag) (h : X.K = K) : IxR X (rIxL K) := h ▸ ix_list
theorem ix_tupK {X : Cx} (K : PySem.W.Frag) (h : X.K = K) : IxR X (rIxT K) := h ▸ ix_tup
theorem Callee.mk' {P : Program} {w : World} {K : PySem.W.Frag} {mg : Str → Option Value} {base : Heap} {k : Nat} {x : Str} {ps : List Str} {sp : Sp} {f : Addr} {fd : FuncData} (F : FnOk P w K mg base (L2.CX P w) k f fd ps sp) (hm : mg x = some (.ref f)) (hk : PySem.W.keepIn K (.ref f) = true) (hb : Binds K fd ps []) :
    Callee P w K mg base k x ps sp := ⟨f, fd, F, hm, hk, hb⟩
/-! ### what a def tells: a number, a truth, a text, a new list -/
def TellV (H : Hp) (Q : VK) (v : V) : Prop := ∀ H', Same H H' → Q v H'
def TellL (H : Hp) (Q : VK) (xs : List V) : Prop := ∀ (H' : Hp) (p : Addr), Same H H' → H p = none → H' p = some (.lst xs) → Q (.ref p) H'
def Raise (mg : Str → Option Value) (x : Str) (H : Hp) (E : XK) : Prop := ∀ H', Same H H' → E (.ref (ErA mg x)) none H'
theorem same_upd {H : Hp} {p : Addr} {o : HO} (h : H p = none) : Same H (upd H p o) := fun b u e => by
  rw [upd_ne (ne_of_none e h)]
  exact e
theorem get_map {xs : List Int} {i : Nat} {x : V} (h : (xs.map V.int)[i]? = some x) : ∃ z, xs[i]? = some z ∧ x = .int z := by
  rw [List.getElem?_map] at h
  cases e : xs[i]? with
  | none => rw [e] at h; cases h
  | some z => rw [e] at h; exact ⟨z, rfl, (Option.some.inj h).symm⟩
theorem map_get {xs : List Int} {i : Nat} {z : Int} (h : xs[i]? = some z) : (xs.map V.int)[i]? = some (.int z) := by
  rw [List.getElem?_map, h]
  all_goals rfl
theorem ix_of {n : Nat} {z : Int} {j : Nat} (e : z = (j : Int)) (h : j < n) : ixN n z = some j := by
  subst e
  unfold ixN
  rw [if_pos (by omega), if_pos (by omega), Int.toNat_natCast]
theorem take_more {α : Type} {l : List α} {i : Nat} {x : α} (h : l[i]? = some x) : l.take (i + 1) = l.take i ++ [x] := by
  rw [List.take_add_one, h]
  all_goals rfl
theorem small64 {n : Nat} (h : n ≤ 100000) : n < sizeLine := Nat.lt_of_le_of_lt h (by decide)
theorem small64' {n : Nat} (h : n ≤ 100000) : n ≤ sizeLine := Nat.le_of_lt (small64 h)
theorem ite_t {A B : Prop} {c : Bool} (hc : c = true) (h : A) : if c = true then A else B := by
  rw [if_pos hc]
  exact h
theorem ite_f {A B : Prop} {c : Bool} (hc : c = false) (h : B) : if c = true then A else B := by
  rw [hc, if_neg Bool.false_ne_true]
  exact h
end CB
namespace CB
open PySem PySem.Spec PyProof.Rows L2
/-- what a frame is -/
def GF (rs : List Int) : Prop := rs.length ≤ 11 ∧ ∀ r ∈ rs, 2 ≤ r ∧ r ≤ 12
/-! ### the mathematics: worths -/
def prodL (l : List Int) : Int := l.foldl (· * ·) 1
def worthsL (rs : List Int) : List Int := (List.range (rs.length + 1)).map fun k => prodL (rs.take k)
theorem prodL_snoc (l : List Int) (r : Int) : prodL (l ++ [r]) = prodL l * r := by
  unfold prodL
  rw [List.foldl_append]
  rfl
theorem foldl_mul (l : List Int) (x : Int) : l.foldl (· * ·) x = x * l.foldl (· * ·) 1 := by
  induction l generalizing x with
  | nil => simp
  | cons a l ih =>
    rw [List.foldl_cons, List.foldl_cons, ih (x * a), ih (1 * a), Int.one_mul, Int.mul_assoc]
theorem prodL_cons (r : Int) (l : List Int) : prodL (r :: l) = r * prodL l := by
  unfold prodL
  rw [List.foldl_cons, Int.one_mul, foldl_mul]
theorem prodL_bound {l : List Int} (h : ∀ r ∈ l, 2 ≤ r ∧ r ≤ 12) : 1 ≤ prodL l ∧ prodL l ≤ ((12 ^ l.length : Nat) : Int) := by
  induction l with
  | nil => exact ⟨by decide, by decide⟩
  | cons a l ih =>
    obtain ⟨h1, h2⟩ := ih fun r hr => h r (List.mem_cons_of_mem _ hr)
    obtain ⟨h3, h4⟩ := h a List.mem_cons_self
    rw [prodL_cons, List.length_cons, Nat.pow_succ, Nat.mul_comm, Int.natCast_mul]
    refine ⟨?_, ?_⟩
    · have := Int.mul_le_mul (show (1 : Int) ≤ a by omega) h1 (by decide) (by omega)
      omega
    · exact Int.mul_le_mul h4 h2 (by omega) (by decide)
theorem prodL_lt {l : List Int} (h : ∀ r ∈ l, 2 ≤ r ∧ r ≤ 12) (hl : l.length ≤ 11) : 1 ≤ prodL l ∧ prodL l < 2 ^ 40 := by
  obtain ⟨h1, h2⟩ := prodL_bound h
  refine ⟨h1, ?_⟩
  have h3 : 12 ^ l.length ≤ 12 ^ 11 := Nat.pow_le_pow_right (by decide) hl
  have h4 : 12 ^ 11 < 2 ^ 40 := by decide
  omega
theorem abs_lt_pow {z : Int} {n : Nat} (h0 : 0 ≤ z) (h : z < 2 ^ n) : z.natAbs < 2 ^ n := by
  have e : (z.natAbs : Int) = z := Int.natAbs_of_nonneg h0
  have : (z.natAbs : Int) < ((2 ^ n : Nat) : Int) := by
    rw [e]
    simpa using h
  omega
theorem frame_gf (g : Nat → Int) (n : Nat) (hn : n ≤ 11) : GF ((List.range n).map fun i => 2 + g i % 11) := by
  refine ⟨by rw [List.length_map, List.length_range]; exact hn, fun r hr => ?_⟩
  obtain ⟨i, _, rfl⟩ := List.mem_map.mp hr
  omega
end CB
namespace CB
open PySem PySem.Spec PyProof.Rows L2
/-! ### the mathematics: boards -/
def W : List Int → List Int → Int
  | r :: rs, b :: bs => b + r * W rs bs
  | [], b :: _ => b
  | _, [] => 0
/-- a board's lines -/
def GB (rs bs : List Int) : Prop := bs.length = rs.length + 1 ∧ ∀ b ∈ bs, 0 ≤ b
theorem GB.tail {r b : Int} {rs bs : List Int} (h : GB (r :: rs) (b :: bs)) : GB rs bs := ⟨by have := h.1; simpa using this, fun x hx => h.2 x (List.mem_cons_of_mem _ hx)⟩
def BS (bs : List Int) : Prop := ∀ b ∈ bs, b < 2 ^ 200
def Rat (rs : List Int) : Prop := ∀ r ∈ rs, 2 ≤ r ∧ r ≤ 12
theorem Rat.tail {r : Int} {rs : List Int} (h : Rat (r :: rs)) : Rat rs := fun x hx => h x (List.mem_cons_of_mem _ hx)
theorem Rat.head {r : Int} {rs : List Int} (h : Rat (r :: rs)) : 2 ≤ r ∧ r ≤ 12 := h r List.mem_cons_self
/-- the plain board of n -/
def D : List Int → Int → List Int
  | [], n => [n]
  | r :: rs, n => n % r :: D rs (n / r)
theorem D_len (rs : List Int) (n : Int) : (D rs n).length = rs.length + 1 := by
  induction rs generalizing n with
  | nil => rfl
  | cons r rs ih => simp [D, ih]
/-- how often each line is raised -/
def R : List Int → List Int → Int → List Int
  | r :: rs, b :: bs, c => (b + c) / r :: R rs bs ((b + c) / r)
  | _, _, _ => []
theorem worths_cons (r : Int) (rs : List Int) : worthsL (r :: rs) = 1 :: (worthsL rs).map (r * ·) := by
  unfold worthsL
  rw [List.length_cons, List.range_succ_eq_map, List.map_cons, List.map_map, List.map_map]
  refine congr (congrArg _ rfl) (List.map_congr_left fun k _ => ?_)
  show prodL ((r :: rs).take (k + 1)) = r * prodL (rs.take k)
  rw [List.take_succ_cons, prodL_cons]
theorem zipW_map (r : Int) : ∀ bs os : List Int, (List.zipWith (· * ·) bs (os.map (r * ·))).sum = r * (List.zipWith (· * ·) bs os).sum
  | [], _ => by simp
  | _ :: _, [] => by simp
  | b :: bs, o :: os => by
    rw [List.map_cons, List.zipWith_cons_cons, List.zipWith_cons_cons, List.sum_cons, List.sum_cons, zipW_map r bs os, Int.mul_add, Int.mul_left_comm]
theorem W_sum : ∀ rs bs : List Int, bs.length = rs.length + 1 → (List.zipWith (· * ·) bs (worthsL rs)).sum = W rs bs
  | [], [b], _ => by simp [worthsL, prodL, W]
  | [], [], h => by cases h
  | [], _ :: _ :: _, h => by simp at h
  | _ :: _, [], h => by cases h
  | r :: rs, b :: bs, h => by
    rw [worths_cons, List.zipWith_cons_cons, List.sum_cons, zipW_map, W_sum rs bs (by simpa using h), Int.mul_one]
    rfl
theorem W_nonneg : ∀ (rs bs : List Int), Rat rs → (∀ b ∈ bs, 0 ≤ b) → 0 ≤ W rs bs
  | [], [], _, _ => by simp [W]
  | [], b :: _, _, h => h b List.mem_cons_self
  | _ :: _, [], _, _ => by simp [W]
  | r :: rs, b :: bs, hr, h => by
    have h1 := W_nonneg rs bs hr.tail fun x hx => h x (List.mem_cons_of_mem _ hx)
    have h2 := h b List.mem_cons_self
    have h3 := hr.head
    have h4 := Int.mul_nonneg (show (0 : Int) ≤ r by omega) h1
    show 0 ≤ b + r * W rs bs
    omega
theorem W_lt {B : Nat} : ∀ (rs bs : List Int), Rat rs → (∀ b ∈ bs, 0 ≤ b) → (∀ b ∈ bs, b < ((2 ^ B : Nat) : Int)) → W rs bs < ((13 ^ rs.length * 2 ^ B : Nat) : Int)
  | [], [], _, _, _ => by
    have : 0 < 2 ^ B := Nat.pow_pos (by decide)
    simp only [W, List.length_nil, Nat.pow_zero, Nat.one_mul]
    omega
  | [], b :: _, _, _, h => by
    have := h b List.mem_cons_self
    simp only [W, List.length_nil, Nat.pow_zero, Nat.one_mul]
    exact this
  | r :: rs, [], _, _, _ => by
    have : 0 < 13 ^ (r :: rs).length * 2 ^ B := Nat.mul_pos (Nat.pow_pos (by decide)) (Nat.pow_pos (by decide))
    simp only [W]
    omega
  | r :: rs, b :: bs, hr, h0, h => by
    have h1 := W_nonneg rs bs hr.tail fun x hx => h0 x (List.mem_cons_of_mem _ hx)
    have h2 := W_lt rs bs hr.tail (fun x hx => h0 x (List.mem_cons_of_mem _ hx)) fun x hx => h x (List.mem_cons_of_mem _ hx)
    have h3 := h b List.mem_cons_self
    have h4 := hr.head
    have h5 : r * W rs bs ≤ 12 * W rs bs := Int.mul_le_mul_of_nonneg_right h4.2 h1
    have h6 : 2 ^ B ≤ 13 ^ rs.length * 2 ^ B := Nat.le_mul_of_pos_left _ (Nat.pow_pos (by decide))
    have h7 : 13 ^ (r :: rs).length * 2 ^ B = 13 * (13 ^ rs.length * 2 ^ B) := by rw [List.length_cons, Nat.pow_succ, Nat.mul_comm (13 ^ rs.length) 13, Nat.mul_assoc]
    show b + r * W rs bs < _
    rw [h7]
    omega
theorem W_small {rs bs : List Int} (g : GF rs) (h0 : ∀ b ∈ bs, 0 ≤ b) (h : ∀ b ∈ bs, b < 2 ^ 200) : 0 ≤ W rs bs ∧ W rs bs < 2 ^ 250 := by
  refine ⟨W_nonneg rs bs g.2 h0, ?_⟩
  have h1 := W_lt (B := 200) rs bs g.2 h0 fun b hb => by have := h b hb; rw [Int.natCast_pow]; exact this
  have h2 : 13 ^ rs.length ≤ 13 ^ 11 := Nat.pow_le_pow_right (by decide) g.1
  have h3 : 13 ^ rs.length * 2 ^ 200 ≤ 13 ^ 11 * 2 ^ 200 := Nat.mul_le_mul_right _ h2
  have h4 : 13 ^ 11 * 2 ^ 200 < 2 ^ 250 := by decide
  have h5 : ((13 ^ rs.length * 2 ^ 200 : Nat) : Int) < ((2 ^ 250 : Nat) : Int) := by omega
  have h6 : ((2 ^ 250 : Nat) : Int) = 2 ^ 250 := by rw [Int.natCast_pow]; rfl
  rw [h6] at h5
  omega
theorem D_W : ∀ (rs : List Int) (n : Int), Rat rs → W rs (D rs n) = n
  | [], n, _ => rfl
  | r :: rs, n, h => by
    show n % r + r * W rs (D rs (n / r)) = n
    rw [D_W rs (n / r) h.tail]
    exact Int.emod_add_mul_ediv n r
theorem D_nonneg : ∀ (rs : List Int) (n : Int), Rat rs → 0 ≤ n → ∀ b ∈ D rs n, 0 ≤ b
  | [], n, _, h0, b, hb => by
    have : b = n := by simpa [D] using hb
    omega
  | r :: rs, n, h, h0, b, hb => by
    have h3 := h.head
    rcases List.mem_cons.mp hb with e | hb
    · rw [e]
      exact Int.emod_nonneg n (by omega)
    · exact D_nonneg rs (n / r) h.tail (Int.ediv_nonneg h0 (by omega)) b hb
theorem D_GB (rs : List Int) (n : Int) (h : Rat rs) (h0 : 0 ≤ n) : GB rs (D rs n) := ⟨D_len rs n, D_nonneg rs n h h0⟩
theorem D_le : ∀ (rs : List Int) (n : Int), Rat rs → 0 ≤ n → ∀ b ∈ D rs n, b ≤ n
  | [], n, _, h0, b, hb => by
    have : b = n := by simpa [D] using hb
    omega
  | r :: rs, n, h, h0, b, hb => by
    have h3 := h.head
    have h4 : n / r ≤ n := Int.ediv_le_self _ h0
    rcases List.mem_cons.mp hb with e | hb
    · rw [e]
      have := Int.emod_add_mul_ediv n r
      have h5 := Int.mul_nonneg (show (0 : Int) ≤ r by omega) (Int.ediv_nonneg h0 (show (0 : Int) ≤ r by omega))
      omega
    · have := D_le rs (n / r) h.tail (Int.ediv_nonneg h0 (by omega)) b hb
      omega
/-- fewer counters than its ratio on each line but the last -/
def Pl : List Int → List Int → Prop
  | r :: rs, b :: bs => b < r ∧ Pl rs bs
  | _, _ => True
theorem D_Pl : ∀ (rs : List Int) (n : Int), Rat rs → Pl rs (D rs n)
  | [], _, _ => trivial
  | r :: rs, n, h => by
    have h3 := h.head
    exact ⟨Int.emod_lt_of_pos n (by omega), D_Pl rs (n / r) h.tail⟩
/-- there is just one plain board of a worth -/
theorem D_uniq : ∀ (rs bs : List Int), Rat rs → GB rs bs → Pl rs bs → D rs (W rs bs) = bs
  | [], [b], _, _, _ => rfl
  | [], [], _, h, _ => by cases h.1
  | [], _ :: _ :: _, _, h, _ => by have := h.1; simp at this
  | _ :: _, [], _, h, _ => by cases h.1
  | r :: rs, b :: bs, hr, h, p => by
    have h3 := hr.head
    have h0 := h.2 b List.mem_cons_self
    have e1 : (b + r * W rs bs) % r = b := by
      rw [Int.add_mul_emod_self_left]
      exact Int.emod_eq_of_lt h0 p.1
    have e2 : (b + r * W rs bs) / r = W rs bs := by
      rw [Int.add_mul_ediv_left _ _ (by omega), Int.ediv_eq_zero_of_lt h0 p.1, Int.zero_add]
    show (b + r * W rs bs) % r :: D rs ((b + r * W rs bs) / r) = b :: bs
    rw [e1, e2, D_uniq rs bs hr.tail h.tail p.2]
theorem R_len : ∀ (rs bs : List Int) (c : Int), bs.length = rs.length + 1 → (R rs bs c).length = rs.length
  | [], [], _, _ => rfl
  | [], _ :: _, _, _ => rfl
  | _ :: _, [], _, h => by cases h
  | r :: rs, b :: bs, c, h => by
    show (R rs bs ((b + c) / r)).length + 1 = rs.length + 1
    rw [R_len rs bs _ (by simpa using h)]
end CB
namespace CB
open PySem PySem.Spec PyProof.Rows L2
theorem Pl_iff : ∀ rs bs : List Int, Pl rs bs ↔ ∀ (j : Nat) (r b : Int), rs[j]? = some r → bs[j]? = some b → b < r
  | [], bs => by simp [Pl]
  | r :: rs, [] => by simp [Pl]
  | r :: rs, b :: bs => by
    have ih := Pl_iff rs bs
    constructor
    · rintro ⟨h1, h2⟩ j r' b' hr hb
      cases j with
      | zero =>
        cases hr
        cases hb
        exact h1
      | succ j => exact ih.mp h2 j r' b' hr hb
    · intro h
      exact ⟨h 0 r b rfl rfl, ih.mpr fun j r' b' hr hb => h (j + 1) r' b' hr hb⟩
theorem bs_of20 {bs : List Int} (h : ∀ x ∈ bs, x < 10 ^ 20) : BS bs := fun b hb => by
  have h1 := h b hb
  have h2 : (10 : Int) ^ 20 < 2 ^ 200 := by decide
  omega
theorem and_true {a b : Bool} (h1 : a = true) (h2 : b = true) : (a && b) = true := by rw [h1, h2]; rfl
end CB
namespace CB
open PySem PySem.Spec PyProof.Rows L2
theorem W_step : ∀ (rs fs : List Int) (L : Nat) (r x y m : Int), fs.length = rs.length + 1 → rs[L]? = some r → fs[L]? = some x → fs[L + 1]? = some y → W rs ((fs.set (L + 1) (y - m)).set L (x + m * r)) = W rs fs
  | [], _, _, _, _, _, _, _, h, _, _ => by simp at h
  | r0 :: rs, [], _, _, _, _, _, h, _, _, _ => by cases h
  | r0 :: rs, [_], _, _, _, _, _, h, _, _, _ => by simp at h
  | r0 :: rs, f :: f2 :: fs, 0, r, x, y, m, h, hr, hx, hy => by
    cases hr
    cases hx
    cases hy
    show (f + m * r0) + r0 * W rs ((f2 - m) :: fs) = f + r0 * W rs (f2 :: fs)
    have e : W rs ((f2 - m) :: fs) = W rs (f2 :: fs) - m := by
      cases rs with
      | nil => rfl
      | cons s rs => show f2 - m + s * W rs fs = f2 + s * W rs fs - m; omega
    rw [e, Int.mul_sub, Int.mul_comm m r0]
    omega
  | r0 :: rs, f :: f2 :: fs, L + 1, r, x, y, m, h, hr, hx, hy => by
    have ih := W_step rs (f2 :: fs) L r x y m (by simpa using h) hr hx hy
    show f + r0 * W rs (((f2 :: fs).set (L + 1) (y - m)).set L (x + m * r)) = f + r0 * W rs (f2 :: fs)
    rw [ih]
theorem set_comm' {α : Type} {l : List α} {i j : Nat} {x y : α} (h : i ≠ j) : (l.set i x).set j y = (l.set j y).set i x := by
  refine List.ext_getElem? fun k => ?_
  rw [List.getElem?_set, List.getElem?_set, List.getElem?_set, List.getElem?_set]
  simp only [List.length_set]
  by_cases h1 : j = k <;> by_cases h2 : i = k
  · exact absurd (h2.trans h1.symm) h
  · simp [h1, h2]
  · simp [h1, h2]
  · simp [h1, h2]
theorem W_head (rs : List Int) (b c : Int) (bs : List Int) : W rs ((b + c) :: bs) = W rs (b :: bs) + c := by
  cases rs with
  | nil => rfl
  | cons r rs => show b + c + r * W rs bs = b + r * W rs bs + c; omega
/-- raising once for all on the lowest line -/
theorem D_carry (r : Int) (rs : List Int) (b b2 : Int) (bs : List Int) (h : 0 < r) : D (r :: rs) (W (r :: rs) (b :: b2 :: bs)) = b % r :: D rs (W rs ((b2 + b / r) :: bs)) := by
  show (b + r * W rs (b2 :: bs)) % r :: D rs ((b + r * W rs (b2 :: bs)) / r) = _
  rw [Int.add_mul_emod_self_left, Int.add_mul_ediv_left _ _ (by omega), W_head, Int.add_comm (b / r)]
theorem sumD : ∀ rs bs : List Int, Rat rs → GB rs bs → (D rs (W rs bs)).sum ≤ bs.sum ∧ ((D rs (W rs bs)).sum = bs.sum → D rs (W rs bs) = bs)
  | [], [b], _, _ => ⟨Int.le_refl _, fun _ => rfl⟩
  | [], [], _, h => by cases h.1
  | [], _ :: _ :: _, _, h => by have := h.1; simp at this
  | _ :: _, [], _, h => by cases h.1
  | _ :: _, [_], _, h => by have := h.1; simp at this
  | r :: rs, b :: b2 :: bs, hr, h => by
    have h3 := hr.head
    have hb := h.2 b List.mem_cons_self
    have hb2 := h.2 b2 (List.mem_cons_of_mem _ List.mem_cons_self)
    have hq : 0 ≤ b / r := Int.ediv_nonneg hb (by omega)
    have hg : GB rs ((b2 + b / r) :: bs) := ⟨by have := h.1; simpa using this, fun x hx => by
      rcases List.mem_cons.mp hx with e | hx
      · omega
      · exact h.2 x (List.mem_cons_of_mem _ (List.mem_cons_of_mem _ hx))⟩
    obtain ⟨i1, i2⟩ := sumD rs ((b2 + b / r) :: bs) hr.tail hg
    have e := Int.emod_add_mul_ediv b r
    have e2 : 2 * (b / r) ≤ r * (b / r) := Int.mul_le_mul_of_nonneg_right h3.1 hq
    rw [D_carry r rs b b2 bs (by omega)]
    rw [List.sum_cons] at i1 i2
    rw [List.sum_cons, List.sum_cons, List.sum_cons]
    refine ⟨by omega, fun hs => ?_⟩
    have hz : b / r = 0 := by omega
    rw [hz] at i2 hs e ⊢
    rw [Int.mul_zero, Int.add_zero] at e
    rw [Int.add_zero] at i2
    rw [Int.add_zero] at hs ⊢
    rw [i2 (by omega), e]
end CB
namespace CB
open PySem PySem.Spec PyProof.Rows L2
/-! ### equality of lists of numbers, of lists of such, of lists of steps -/
def dL (xs : List Int) : PyData := .list (xs.map .int)
def dStep (p : Int × Bool) : PyData := .tuple [.int p.1, .bool p.2]
theorem layAll {ds : List PyData} {n : Nat} (h : ∀ d ∈ ds, d.canLay0 = true ∧ d.depth ≤ n) : PyData.canLayAll0 ds = true ∧ PyData.depthAll ds ≤ n := by
  induction ds with
  | nil => exact ⟨rfl, by simp [PyData.depthAll]⟩
  | cons d ds ih =>
    obtain ⟨h1, h2⟩ := ih fun x hx => h x (List.mem_cons_of_mem _ hx)
    obtain ⟨h3, h4⟩ := h d List.mem_cons_self
    refine ⟨by simp [PyData.canLayAll0, h1, h3], ?_⟩
    simp only [PyData.depthAll]
    omega
theorem lay_int (i : Int) : (PyData.int i).canLay0 = true ∧ (PyData.int i).depth ≤ 0 := ⟨by simp [PyData.canLay0], by simp [PyData.depth]⟩
theorem lay_list {ds : List PyData} {n : Nat} (h : ∀ d ∈ ds, d.canLay0 = true ∧ d.depth ≤ n) : (PyData.list ds).canLay0 = true ∧ (PyData.list ds).depth ≤ n + 1 := by
  obtain ⟨h1, h2⟩ := layAll h
  refine ⟨by simpa [PyData.canLay0] using h1, ?_⟩
  simp only [PyData.depth]
  omega
theorem lay_dL (xs : List Int) : (dL xs).canLay0 = true ∧ (dL xs).depth ≤ 1 := lay_list (n := 0) fun d hd => by
  obtain ⟨i, _, rfl⟩ := List.mem_map.mp hd
  exact lay_int i
theorem lay_dStep (p : Int × Bool) : (dStep p).canLay0 = true ∧ (dStep p).depth ≤ 1 := ⟨by simp [dStep, PyData.canLay0, PyData.canLayAll0], by simp [dStep, PyData.depth, PyData.depthAll]⟩
theorem shaped_of {d : PyData} {n : Nat} (h : d.canLay0 = true ∧ d.depth ≤ n) (hn : n ≤ 64) : SeqAt.shaped d = true := by
  unfold SeqAt.shaped
  rw [h.1, Bool.true_and]
  exact decide_eq_true (Nat.le_trans h.2 hn)
theorem shaped_dL (xs : List Int) : SeqAt.shaped (dL xs) = true := shaped_of (lay_dL xs) (by decide)
theorem shaped_dLL (xss : List (List Int)) : SeqAt.shaped (.list (xss.map dL)) = true := shaped_of (lay_list (n := 1) fun d hd => by
  obtain ⟨xs, _, rfl⟩ := List.mem_map.mp hd
  exact lay_dL xs) (by decide)
theorem shaped_dStep (p : Int × Bool) : SeqAt.shaped (dStep p) = true := shaped_of (lay_dStep p) (by decide)
theorem shaped_dLT (ps : List (Int × Bool)) : SeqAt.shaped (.list (ps.map dStep)) = true := shaped_of (lay_list (n := 1) fun d hd => by
  obtain ⟨p, _, rfl⟩ := List.mem_map.mp hd
  exact lay_dStep p) (by decide)
theorem eqvAll_map {α : Type} [DecidableEq α] {f : α → PyData} (h : ∀ a b, PyData.eqv (f a) (f b) = decide (a = b)) : ∀ xs ys : List α, PyData.eqvAll (xs.map f) (ys.map f) = decide (xs = ys)
  | [], [] => by simp [PyData.eqvAll]
  | [], _ :: _ => by simp [PyData.eqvAll]
  | _ :: _, [] => by simp [PyData.eqvAll]
  | x :: xs, y :: ys => by
    simp only [List.map_cons, PyData.eqvAll, h, eqvAll_map h xs ys]
    by_cases e1 : x = y <;> by_cases e2 : xs = ys <;> simp [e1, e2]
theorem eqv_int (a b : Int) : PyData.eqv (.int a) (.int b) = decide (a = b) := by simp only [PyData.eqv]; exact Bool.beq_eq_decide_eq _ _
theorem eqv_dL (xs ys : List Int) : PyData.eqv (dL xs) (dL ys) = decide (xs = ys) := by
  unfold dL
  simp only [PyData.eqv]
  exact eqvAll_map eqv_int xs ys
theorem eqv_dLL (xs ys : List (List Int)) : PyData.eqv (.list (xs.map dL)) (.list (ys.map dL)) = decide (xs = ys) := by
  simp only [PyData.eqv]
  exact eqvAll_map eqv_dL xs ys
theorem eqv_dStep (p q : Int × Bool) : PyData.eqv (dStep p) (dStep q) = decide (p = q) := by
  obtain ⟨a, b⟩ := p
  obtain ⟨c, d⟩ := q
  unfold dStep
  simp only [PyData.eqv, PyData.eqvAll, Bool.and_true]
  by_cases e1 : a = c <;> by_cases e2 : b = d <;> simp [e1, e2]
theorem eqv_dLT (xs ys : List (Int × Bool)) : PyData.eqv (.list (xs.map dStep)) (.list (ys.map dStep)) = decide (xs = ys) := by
  simp only [PyData.eqv]
  exact eqvAll_map eqv_dStep xs ys
section
variable {K : PySem.W.Frag} {H : Hp}
theorem dpAll_int : ∀ xs : List Int, DpAll K H (xs.map V.int) (xs.map PyData.int)
  | [] => .nil
  | x :: xs => .cons (.int x) (dpAll_int xs)
theorem dp_L {a : Addr} {xs : List Int} (h : SqL K H a (xs.map V.int)) : Dp K H (.ref a) (dL xs) := .lst h (dpAll_int xs)
theorem dp_L2 {a p q : Addr} {xs ys : List Int} (h : SqL K H a [.ref p, .ref q]) (hp : SqL K H p (xs.map V.int)) (hq : SqL K H q (ys.map V.int)) : Dp K H (.ref a) (.list ([xs, ys].map dL)) :=
  .lst h (.cons (dp_L hp) (.cons (dp_L hq) .nil))
theorem dp_L3 {a p q r : Addr} {xs ys zs : List Int} (h : SqL K H a [.ref p, .ref q, .ref r]) (hp : SqL K H p (xs.map V.int)) (hq : SqL K H q (ys.map V.int)) (hr : SqL K H r (zs.map V.int)) : Dp K H (.ref a) (.list ([xs, ys, zs].map dL)) :=
  .lst h (.cons (dp_L hp) (.cons (dp_L hq) (.cons (dp_L hr) .nil)))
end
end CB
namespace CB
open PySem PySem.Spec PyProof.Rows L2
/-! ### a list that grows; walks over zip of any two lists -/
def Gr (H : Hp) (D : Addr) (out : List V) (i : Nat) (H' : Hp) : Prop := Same H H' ∧ H' D = some (.lst (out.take i))
theorem Gr.zero {H : Hp} {D : Addr} (out : List V) (h : H D = none) : Gr H D out 0 (upd H D (.lst [])) := ⟨same_upd h, upd_same⟩
theorem Gr.step {H H' H'' : Hp} {D : Addr} {out : List V} {i : Nat} {y : V} (g : Gr H D out i H') (h : H D = none) (hl : out.length ≤ 100000) (hy : out[i]? = some y) (s : Same H' H'') :
    H'' D = some (.lst (out.take i)) ∧ (out.take i).length < sizeLine ∧ Gr H D out (i + 1) (upd H'' D (.lst (out.take i ++ [y]))) := by
  refine ⟨s _ _ g.2, small64 (by rw [List.length_take]; omega), fun b o e => ?_, ?_⟩
  · rw [upd_ne (ne_of_none e h)]
    exact s _ _ (g.1 _ _ e)
  · rw [upd_same, take_more hy]
theorem Gr.done {H H' : Hp} {D : Addr} {out : List V} {i : Nat} (g : Gr H D out i H') (h : out.length ≤ i) : H' D = some (.lst out) := by
  have := g.2
  rw [List.take_of_length_le h] at this
  exact this
theorem lc_zip {K : PySem.W.Frag} {a b : Addr} {xs ys : List V} {g : TG} {tt : TT} {te : TE} {vs : List Nat} {σ : L2.St} {H1 : Hp} {D : Addr} {Qd : Hp → Prop} (n : Nat) (hn : n = min xs.length ys.length) (Pv : Nat → Hp → Prop) (h0 : Pv 0 (upd H1 D (.lst [])))
    (hq : ∀ i H, Pv i H → SqL K H a xs ∧ SqL K H b ys)
    (hs : ∀ (i : Nat) (x y : V) (T : Addr) (H : Hp), xs[i]? = some x → ys[i]? = some y → Pv i H → H T = none → g (.ref T) (wipe σ vs) (upd H T (.tup [x, y])) fun σ2 H2 => wipe σ2 vs = wipe σ vs ∧ tt σ2 H2 fun b H3 =>
      if b = true then te σ2 H3 fun y H4 => ∃ acc, H4 D = some (.lst acc) ∧ acc.length < sizeLine ∧ Pv (i + 1) (upd H4 D (.lst (acc ++ [y]))) else Pv (i + 1) H3) (hd : ∀ H, Pv n H → Qd H) :
    ∃ W : Nat → Nat → Hp → Prop, (∃ m, W 0 m (upd H1 D (.lst []))) ∧ ∀ i m H, W i m H →
      ((Itz K a b).stop i H ∧ Qd H) ∨ ((Itz K a b).go i H ∧ ∃ Nx : Hp → Prop, (∀ H', Nx H' → ∃ m', m' < m ∧ W (i + 1) m' H') ∧ ∀ x H', (Itz K a b).yld i H x H' → g x (wipe σ vs) H' fun σ2 H2 => wipe σ2 vs = wipe σ vs ∧ tt σ2 H2 fun b H3 =>
        if b = true then te σ2 H3 fun y H4 => ∃ acc, H4 D = some (.lst acc) ∧ acc.length < sizeLine ∧ Nx (upd H4 D (.lst (acc ++ [y]))) else Nx H3) := by
  refine ⟨fun i m H => m = n - i ∧ i ≤ n ∧ Pv i H, ⟨n, by simp, Nat.zero_le _, h0⟩, ?_⟩
  rintro i m H ⟨rfl, hi, p⟩
  obtain ⟨qx, qy⟩ := hq i H p
  by_cases hlt : i < n
  · have hl1 : i < xs.length := by omega
    have hl2 : i < ys.length := by omega
    refine .inr ⟨⟨xs, ys, _, _, qx, qy, List.getElem?_eq_getElem hl1, List.getElem?_eq_getElem hl2⟩, Pv (i + 1), fun H' p' => ⟨n - (i + 1), by omega, rfl, hlt, p'⟩, fun v H' y => ?_⟩
    obtain ⟨T, x', y', rfl, hT, rfl, f1, f2⟩ := y
    exact hs i x' y' T H (f1 xs qx) (f2 ys qy) p hT
  · have e : i = n := by omega
    subst e
    exact .inl ⟨⟨xs, ys, qx, qy, by omega⟩, hd H p⟩
theorem for_zip {K : PySem.W.Frag} {a b : Addr} {xs ys : List V} {g : TG} {tb : TS} {D : Ends} {σ : L2.St} {H : Hp} (n : Nat) (hn : n = min xs.length ys.length) (Pv : Nat → L2.St → Hp → Prop) (h0 : Pv 0 σ H) (hq : ∀ i σ H, Pv i σ H → SqL K H a xs ∧ SqL K H b ys)
    (hs : ∀ (i : Nat) (x y : V) (T : Addr) (σ : L2.St) (H : Hp), xs[i]? = some x → ys[i]? = some y → Pv i σ H → H T = none → g (.ref T) σ (upd H T (.tup [x, y])) fun σ2 H2 => tb { D with nx := Pv (i + 1), ct := Pv (i + 1), bk := D.nx } σ2 H2) (hd : ∀ σ H, Pv n σ H → D.nx σ H) :
    ∃ W : Nat → Nat → L2.St → Hp → Prop, (∃ m, W 0 m σ H) ∧ ∀ i m σ H, W i m σ H →
      ((Itz K a b).stop i H ∧ D.nx σ H) ∨ ((Itz K a b).go i H ∧ ∃ N : L2.St → Hp → Prop, (∀ σ' H', N σ' H' → ∃ m', m' < m ∧ W (i + 1) m' σ' H') ∧ ∀ v H', (Itz K a b).yld i H v H' → g v σ H' fun σ2 H2 => tb { D with nx := N, ct := N, bk := D.nx } σ2 H2) := by
  refine ⟨fun i m σ H => m = n - i ∧ i ≤ n ∧ Pv i σ H, ⟨n, rfl, Nat.zero_le _, h0⟩, ?_⟩
  rintro i m σ H ⟨rfl, hi, p⟩
  obtain ⟨qx, qy⟩ := hq i σ H p
  by_cases hlt : i < n
  · have hl1 : i < xs.length := by omega
    have hl2 : i < ys.length := by omega
    refine .inr ⟨⟨xs, ys, _, _, qx, qy, List.getElem?_eq_getElem hl1, List.getElem?_eq_getElem hl2⟩, Pv (i + 1), fun σ' H' p' => ⟨n - (i + 1), by omega, rfl, hlt, p'⟩, fun v H' y => ?_⟩
    obtain ⟨T, x', y', rfl, hT, rfl, f1, f2⟩ := y
    exact hs i x' y' T σ H (f1 xs qx) (f2 ys qy) p hT
  · have e : i = n := by omega
    subst e
    exact .inl ⟨⟨xs, ys, qx, qy, by omega⟩, hd σ H p⟩
end CB
namespace CB
open PySem PySem.Spec PyProof.Rows L2
theorem small20 {rs bs : List Int} (g : GF rs) (gb : GB rs bs) (hb : ∀ x ∈ bs, x < 10 ^ 20) : 0 ≤ W rs bs ∧ W rs bs < 2 ^ 150 := by
  refine ⟨W_nonneg rs bs g.2 gb.2, ?_⟩
  have h1 := W_lt (B := 70) rs bs g.2 gb.2 fun b hb' => by
    have h2 := hb b hb'
    have h3 : (10 : Int) ^ 20 < ((2 ^ 70 : Nat) : Int) := by decide
    omega
  have h2 : 13 ^ rs.length ≤ 13 ^ 11 := Nat.pow_le_pow_right (by decide) g.1
  have h3 : 13 ^ rs.length * 2 ^ 70 ≤ 13 ^ 11 * 2 ^ 70 := Nat.mul_le_mul_right _ h2
  have h4 : 13 ^ 11 * 2 ^ 70 < 2 ^ 150 := by decide
  omega
theorem D_150 {rs : List Int} {n : Int} (g : GF rs) (h0 : 0 ≤ n) (h1 : n < 2 ^ 150) : ∀ x ∈ D rs n, x < 2 ^ 150 := fun x hx => by
  have := D_le rs n g.2 h0 x hx
  omega
theorem two151 : (2 : Int) ^ 150 + 361 < 2 ^ 200 := by decide
end CB
namespace CB
open PySem PySem.Spec PyProof.Rows L2
/-- one of two numbers, by a remainder -/
theorem pick2 {x y z : Int} (h : z = 0 ∨ z = 1) : ∃ m, (m = x ∨ m = y) ∧ atI [V.int x, V.int y] z = some (.int m) := by
  rcases h with rfl | rfl
  · exact ⟨x, .inl rfl, rfl⟩
  · exact ⟨y, .inr rfl, rfl⟩
theorem mod2 (c : Int) : c % 2 = 0 ∨ c % 2 = 1 := by omega
theorem D_cons (rs : List Int) (n : Int) : ∃ y ys, D rs n = y :: ys := by
  cases rs with
  | nil => exact ⟨n, [], rfl⟩
  | cons r rs => exact ⟨_, _, rfl⟩
end CB
namespace CB
open PySem PySem.Spec PyProof.Rows L2
/-- what a def of two boards asks of them; P: what it tells of good ones -/
def Two (mg : Str → Option Value) (H : Hp) (E : XK) (rs bs cs : List Int) (P : Prop) : Prop :=
  (GF rs → GB rs bs → BS bs ∧ (GB rs cs → BS cs ∧ P) ∧ (¬ GB rs cs → Raise mg "NoBoard" H E)) ∧ (¬ GF rs → E (.ref (ErA mg "NoFrame")) none H) ∧ (GF rs → ¬ GB rs bs → E (.ref (ErA mg "NoBoard")) none H)
theorem Two.good {mg : Str → Option Value} {H : Hp} {E : XK} {rs bs cs : List Int} {P : Prop} (g : GF rs) (gb : GB rs bs) (gc : GB rs cs) (sb : BS bs) (sc : BS cs) (p : P) : Two mg H E rs bs cs P :=
  ⟨fun _ _ => ⟨sb, fun _ => ⟨sc, p⟩, fun z => absurd gc z⟩, fun z => absurd g z, fun _ z => absurd gb z⟩
end CB
namespace CB
open PySem PySem.Spec PyProof.Rows L2
abbrev s_asked_frame : Stmt := top 7
abbrev N_asked_frame : List Str := ["ratios", "ratio"]
theorem sc_asked_frame : FnScope N_asked_frame ["ratios"] (defScope s_asked_frame) := ⟨rfl, rfl, rfl, by decide +kernel, rfl, by decide +kernel, by decide +kernel⟩
end CB

namespace CB
open PySem PySem.Spec PyProof.Rows L2
def sp_asked_frame (K : PySem.W.Frag) (mg : Str → Option Value) : Sp := fun vs H Q E => ∃ (a : Addr) (rs : List Int), vs = [.ref a] ∧ SqL K H a (rs.map V.int) ∧
  (GF rs → Q .non H) ∧ (¬ GF rs → E (.ref (ErA mg "NoFrame")) none H)
section
variable {P : Program} {w : World} {K : PySem.W.Frag} {mg : Str → Option Value} {base : Heap}
theorem ok_asked_frame {f : Addr} {fd : FuncData} (F : Fun K "asked_frame" "asked_frame" s_asked_frame f fd) (B : Bi mg) (m_MOST : ∃ t, mg "MOST" = some (.int 11 t)) (e_NoFrame : Er K mg "NoFrame") :
    FnOk P w K mg base (L2.CX P w) 1 f fd ["ratios"] (sp_asked_frame K mg) := by
  obtain ⟨tM, m_MOST⟩ := m_MOST
  refine F.okX sc_asked_frame (fun vs H Q E h => ?_) (fun cdv A outer s H vs Q E hr h => ?_)
  · obtain ⟨a, rs, rfl, _⟩ := h
    rfl
  · obtain ⟨a, rs, rfl, hS, kG, kB⟩ := h
    have tk : Takes (cxOf (L2.CX P w) P w K mg base N_asked_frame "asked_frame" (defScope s_asked_frame) f cdv A outer s H E) (fun cls d _ H => E cls d H) := takes_of rfl rfl rfl rfl
    refine ⟨_, (pss_cons (ps_if (pt_cmpR op_gt (pe_callB call_len_seq (by rfl) B.len PySem.boot_len (pa_cons (pv 0) pa_nil)) (pe_glob (v := .int 11) (by rfl) m_MOST ⟨_, rfl⟩) (nomark _)) (pss_one (ps_raise rfl tk (pmk_own PySem.F.excBase_ValueError e_NoFrame.xP e_NoFrame.gC e_NoFrame.kP (raises_own e_NoFrame.bP e_NoFrame.tP) (by rfl)))) pss_nil)
  (pss_one (ps_for (passes_of rfl) rfl (pi_list (pv 0)) (pg_name (i := 1) sc_asked_frame.nd rfl (Or.inl rfl)) (pss_one (ps_if (pw_or (pt_cmpR op_lt (pv 1) pe_int (nomark _)) (pw_or1 (pt_cmpR op_gt (pv 1) pe_int (nomark _)))).pt (pss_one (ps_raise rfl tk (pmk_own PySem.F.excBase_ValueError e_NoFrame.xP e_NoFrame.gC e_NoFrame.kP (raises_own e_NoFrame.bP e_NoFrame.tP) (by rfl)))) pss_nil))))), ?_⟩
    refine ⟨_, rfl, a, _, rfl, .inl hS, _, _, rfl, rfl, _, rfl, ite2 (fun e => ?_) (fun e => ?_)⟩
    · refine kB fun g => ?_
      have e1 := of_decide_eq_true e
      rw [List.length_map] at e1
      have := g.1
      omega
    · have hl : rs.length ≤ 11 := by
        have e1 : ¬ (11 < ((rs.map V.int).length : Int)) := fun z => e (decide_eq_true z)
        rw [List.length_map] at e1
        omega
      refine ⟨_, rfl, a, rfl, ⟨_, hS⟩, for_list (K := K) (a := a) (xs := rs.map V.int) (fun i σ H' => ∃ v, σ = [some (.ref a), v] ∧ H' = H ∧ ∀ (j : Nat) (r : Int), j < i → rs[j]? = some r → 2 ≤ r ∧ r ≤ 12)
        ⟨none, rfl, rfl, fun j r hj => absurd hj (Nat.not_lt_zero _)⟩ (fun i σ H' _ ⟨_, _, e, _⟩ => by rw [e]; exact hS) ?_ ?_⟩
      · rintro i y σ H' hi ⟨v, rfl, rfl, hg⟩
        obtain ⟨z, hz, rfl⟩ := get_map hi
        have bad : ¬ (2 ≤ z ∧ z ≤ 12) → ¬ GF rs := fun h g => h (g.2 z (List.mem_of_getElem? hz))
        refine ⟨_, rfl, _, _, rfl, rfl, _, rfl, ite2 (fun e => ?_) (fun e => ?_)⟩
        · refine ite_t rfl (kB (bad ?_))
          have := of_decide_eq_true e
          omega
        · have h1 : ¬ z < 2 := fun q => e (decide_eq_true q)
          refine ⟨_, rfl, _, _, rfl, rfl, _, rfl, ite2 (fun e2 => ?_) (fun e2 => ?_)⟩
          · refine kB (bad ?_)
            have := of_decide_eq_true e2
            omega
          · have h2 : ¬ 12 < z := fun q => e2 (decide_eq_true q)
            refine ⟨_, rfl, rfl, fun j r hj hr => ?_⟩
            rcases Nat.lt_succ_iff_lt_or_eq.mp hj with q | q
            · exact hg j r q hr
            · subst q
              rw [hz] at hr
              cases hr
              omega
      · rintro σ H' ⟨v, rfl, rfl, hg⟩
        rw [List.length_map] at hg
        refine kG ⟨hl, fun r hr => ?_⟩
        obtain ⟨j, hj, e⟩ := List.getElem_of_mem hr
        exact hg j r hj (by rw [List.getElem?_eq_getElem hj, e])
end
end CB
namespace CB
open PySem PySem.Spec PyProof.Rows L2
abbrev s_asked_board : Stmt := top 8
abbrev N_asked_board : List Str := ["ratios", "board", "counters"]
theorem sc_asked_board : FnScope N_asked_board ["ratios", "board"] (defScope s_asked_board) := ⟨rfl, rfl, rfl, by decide +kernel, rfl, by decide +kernel, by decide +kernel⟩
end CB

namespace CB
open PySem PySem.Spec PyProof.Rows L2
def sp_asked_board (K : PySem.W.Frag) (mg : Str → Option Value) : Sp := fun vs H Q E => ∃ (a b : Addr) (rs bs : List Int), vs = [.ref a, .ref b] ∧ SqL K H a (rs.map V.int) ∧ SqL K H b (bs.map V.int) ∧
  (GF rs → GB rs bs → Q .non H) ∧ (¬ GF rs → E (.ref (ErA mg "NoFrame")) none H) ∧ (GF rs → ¬ GB rs bs → E (.ref (ErA mg "NoBoard")) none H)
section
variable {P : Program} {w : World} {K : PySem.W.Frag} {mg : Str → Option Value} {base : Heap}
theorem ok_asked_board {f : Addr} {fd : FuncData} (F : Fun K "asked_board" "asked_board" s_asked_board f fd) (B : Bi mg) (e_NoBoard : Er K mg "NoBoard") (c_asked_frame : Callee P w K mg base 1 "asked_frame" ["ratios"] (sp_asked_frame K mg)) :
    FnOk P w K mg base (L2.CX P w) 2 f fd ["ratios", "board"] (sp_asked_board K mg) := by
  refine F.okX sc_asked_board (fun vs H Q E h => ?_) (fun cdv A outer s H vs Q E hr h => ?_)
  · obtain ⟨a, b, rs, bs, rfl, _⟩ := h
    rfl
  · obtain ⟨a, b, rs, bs, rfl, hA, hB, kG, kF, kB⟩ := h
    have tk : Takes (cxOf (L2.CX P w) P w K mg base N_asked_board "asked_board" (defScope s_asked_board) f cdv A outer s H E) (fun cls d _ H => E cls d H) := takes_of rfl rfl rfl rfl
    refine ⟨_, (pss_cons (ps_expr (pe_f c_asked_frame hr (by decide) tk (pa_cons (pv 0) pa_nil)))
  (pss_cons (ps_if (pt_cmpR op_ne (pe_callB call_len_seq (by rfl) B.len PySem.boot_len (pa_cons (pv 1) pa_nil)) (pe_op op_add (pe_callB call_len_seq (by rfl) B.len PySem.boot_len (pa_cons (pv 0) pa_nil)) pe_int) (nomark _)) (pss_one (ps_raise rfl tk (pmk_own PySem.F.excBase_ValueError e_NoBoard.xP e_NoBoard.gC e_NoBoard.kP (raises_own e_NoBoard.bP e_NoBoard.tP) (by rfl)))) pss_nil)
  (pss_one (ps_for (passes_of rfl) rfl (pi_list (pv 1)) (pg_name (i := 2) sc_asked_board.nd rfl (Or.inl rfl)) (pss_one (ps_if (pt_cmpR op_lt (pv 2) pe_int (nomark _)) (pss_one (ps_raise rfl tk (pmk_own PySem.F.excBase_ValueError e_NoBoard.xP e_NoBoard.gC e_NoBoard.kP (raises_own e_NoBoard.bP e_NoBoard.tP) (by rfl)))) pss_nil)))))), ?_⟩
    refine ⟨_, rfl, a, rs, rfl, hA, fun g => ?_, kF⟩
    refine ⟨_, rfl, b, _, rfl, .inl hB, _, rfl, a, _, rfl, .inl hA, _, _, rfl, rfl, rfl, _, rfl, ?_⟩
    rw [List.length_map, List.length_map]
    by_cases hl : bs.length = rs.length + 1
    · refine ite_f (by simp [hl]) ?_
      refine ⟨_, rfl, b, rfl, ⟨_, hB⟩, for_list (K := K) (a := b) (xs := bs.map V.int) (fun i σ H' => ∃ v, σ = [some (.ref a), some (.ref b), v] ∧ H' = H ∧ ∀ (j : Nat) (r : Int), j < i → bs[j]? = some r → 0 ≤ r)
        ⟨none, rfl, rfl, fun j r hj => absurd hj (Nat.not_lt_zero _)⟩ (fun i σ H' _ ⟨_, _, e, _⟩ => by rw [e]; exact hB) ?_ ?_⟩
      · rintro i y σ H' hi ⟨v, rfl, rfl, hg⟩
        obtain ⟨z, hz, rfl⟩ := get_map hi
        refine ⟨_, rfl, _, _, rfl, rfl, _, rfl, ite2 (fun e => ?_) (fun e => ?_)⟩
        · refine kB g fun q => ?_
          have h1 := q.2 z (List.mem_of_getElem? hz)
          have := of_decide_eq_true e
          omega
        · have h1 : ¬ z < 0 := fun q => e (decide_eq_true q)
          refine ⟨_, rfl, rfl, fun j r hj hr => ?_⟩
          rcases Nat.lt_succ_iff_lt_or_eq.mp hj with q | q
          · exact hg j r q hr
          · subst q
            rw [hz] at hr
            cases hr
            omega
      · rintro σ H' ⟨v, rfl, rfl, hg⟩
        rw [List.length_map] at hg
        refine kG g ⟨hl, fun r hr => ?_⟩
        obtain ⟨j, hj, e⟩ := List.getElem_of_mem hr
        exact hg j r hj (by rw [List.getElem?_eq_getElem hj, e])
    · refine ite_t ?_ (kB g fun q => hl q.1)
      have : ¬ ((bs.length : Int) = (rs.length : Int) + 1) := by omega
      simp [this]
end
end CB
namespace CB
open PySem PySem.Spec PyProof.Rows L2
abbrev s_worths : Stmt := top 9
abbrev N_worths : List Str := ["ratios", "found", "ratio"]
theorem sc_worths : FnScope N_worths ["ratios"] (defScope s_worths) := ⟨rfl, rfl, rfl, by decide +kernel, rfl, by decide +kernel, by decide +kernel⟩
end CB

namespace CB
open PySem PySem.Spec PyProof.Rows L2
def sp_worths (K : PySem.W.Frag) (mg : Str → Option Value) : Sp := fun vs H Q E => ∃ (a : Addr) (rs : List Int), vs = [.ref a] ∧ SqL K H a (rs.map V.int) ∧
  (GF rs → TellL H Q ((worthsL rs).map V.int)) ∧ (¬ GF rs → E (.ref (ErA mg "NoFrame")) none H)
theorem worths_take (rs : List Int) (i : Nat) (h : i ≤ rs.length) : worthsL (rs.take i) = (List.range i).map (fun k => prodL (rs.take k)) ++ [prodL (rs.take i)] := by
  unfold worthsL
  rw [List.length_take, Nat.min_eq_left h, List.range_succ, List.map_append]
  congr 1
  · refine List.map_congr_left fun k hk => ?_
    rw [List.take_take, Nat.min_eq_left (Nat.le_of_lt (List.mem_range.mp hk))]
  · rw [List.map_singleton, List.take_take, Nat.min_self]
theorem worths_more (rs : List Int) (i : Nat) (r : Int) (h : rs[i]? = some r) : worthsL (rs.take (i + 1)) = worthsL (rs.take i) ++ [prodL (rs.take i) * r] := by
  obtain ⟨hi, _⟩ := List.getElem?_eq_some_iff.mp h
  rw [worths_take rs (i + 1) hi, worths_take rs i (Nat.le_of_lt hi), List.range_succ, List.map_append, List.map_singleton, take_more h, prodL_snoc]
theorem worths_len (rs : List Int) : (worthsL rs).length = rs.length + 1 := by
  unfold worthsL
  rw [List.length_map, List.length_range]
section
variable {P : Program} {w : World} {K : PySem.W.Frag} {mg : Str → Option Value} {base : Heap}
theorem ok_worths {f : Addr} {fd : FuncData} (F : Fun K "worths" "worths" s_worths f fd) (B : Bi mg) (c_asked_frame : Callee P w K mg base 1 "asked_frame" ["ratios"] (sp_asked_frame K mg)) :
    FnOk P w K mg base (L2.CX P w) 2 f fd ["ratios"] (sp_worths K mg) := by
  refine F.okX sc_worths (fun vs H Q E h => ?_) (fun cdv A outer s H vs Q E hr h => ?_)
  · obtain ⟨a, rs, rfl, _⟩ := h
    rfl
  · obtain ⟨a, rs, rfl, hS, kG, kB⟩ := h
    have tk : Takes (cxOf (L2.CX P w) P w K mg base N_worths "worths" (defScope s_worths) f cdv A outer s H E) (fun cls d _ H => E cls d H) := takes_of rfl rfl rfl rfl
    refine ⟨_, (pss_cons (ps_expr (pe_f c_asked_frame hr (by decide) tk (pa_cons (pv 0) pa_nil)))
  (pss_cons (ps_set (i := 1) sc_worths.nd rfl (Or.inl rfl) (pe_lst (pa_cons pe_int pa_nil)))
  (pss_cons (ps_for (passes_of rfl) rfl (pi_list (pv 0)) (pg_name (i := 2) sc_worths.nd rfl (Or.inl rfl)) (pss_one (ps_expr (pe_bm PySem.F.plainAttrs_list PySem.F.slot_list_append PySem.F.type_list_append mt_append (pv 1) (pa_cons (pe_op op_mulW (pe_ix ix_list (pv 1) (pe_un un_neg pe_int) (fun _ _ => rfl)) (pv 2)) pa_nil)))))
  (pss_one (ps_ret (pv 1)))))), ?_⟩
    refine ⟨.ref a, rfl, a, rs, rfl, hS, fun g => ?_, kB⟩
    refine ⟨by show 1 ≤ sizeLine; decide, fun p hp => ?_⟩
    have hpa : SqL K (upd H p (.lst [.int 1])) a (rs.map V.int) := (same_upd hp).seq hS
    refine ⟨_, rfl, a, rfl, ⟨_, hpa⟩, for_list (K := K) (a := a) (xs := rs.map V.int) (fun i σ H' => ∃ v, σ = [some (.ref a), some (.ref p), v] ∧ Same H H' ∧ H' p = some (.lst ((worthsL (rs.take i)).map V.int)))
        ⟨none, rfl, same_upd hp, upd_same⟩ (fun i σ H' _ ⟨_, _, e, _⟩ => e.seq hS) ?_ ?_⟩
    · rintro i y σ H' hi ⟨v, rfl, sm, hp'⟩
      obtain ⟨z, hz, rfl⟩ := get_map hi
      obtain ⟨hil, _⟩ := List.getElem?_eq_some_iff.mp hz
      have hil' : i ≤ 11 := by have := g.1; omega
      have e1 : (worthsL (rs.take i)).map V.int = ((List.range i).map (fun k => prodL (rs.take k))).map V.int ++ [.int (prodL (rs.take i))] := by
        rw [worths_take rs i (Nat.le_of_lt hil), List.map_append]
        all_goals rfl
      have gz := g.2 z (List.mem_of_getElem? hz)
      have gp := prodL_lt (l := rs.take i) (fun r hr => g.2 r (List.mem_of_mem_take hr)) (by rw [List.length_take]; omega)
      refine ⟨_, rfl, .inl ⟨rfl, _, SqL.of hp'⟩, _, rfl, _, rfl, p, _, -1, .int (prodL (rs.take i)), rfl, rfl, SqL.of hp', by rw [e1]; exact atI_last _ _, .int z, rfl, _, _, rfl, rfl, ?_, p, _, _, rfl, rfl, hp', ?_, ?_⟩
      · exact wide_mul (a := 40) (b := 40) (abs_lt_pow (by omega) gp.2) (abs_lt_pow (by omega) (by omega)) (by decide) (by decide) (by decide)
      · rw [List.length_map, worths_len, List.length_take]
        exact small64 (by omega)
      · refine ⟨some (.int z), rfl, fun b o e => ?_, ?_⟩
        · rw [upd_ne (ne_of_none e hp)]
          exact sm b o e
        · rw [upd_same, worths_more rs i z hz, List.map_append]
          all_goals rfl
    · rintro σ H' ⟨v, rfl, sm, hp'⟩
      rw [List.length_map, List.take_length] at hp'
      exact ⟨_, rfl, kG g H' p sm hp hp'⟩
end
end CB
namespace CB
open PySem PySem.Spec PyProof.Rows L2
abbrev s_worth : Stmt := top 10
abbrev N_worth : List Str := ["ratios", "board", "counters", "one"]
theorem sc_worth : FnScope N_worth ["ratios", "board"] (defScope s_worth) := ⟨rfl, rfl, rfl, by decide +kernel, rfl, by decide +kernel, by decide +kernel⟩
end CB

namespace CB
open PySem PySem.Spec PyProof.Rows L2
def sp_worth (K : PySem.W.Frag) (mg : Str → Option Value) : Sp := fun vs H Q E => ∃ (a b : Addr) (rs bs : List Int), vs = [.ref a, .ref b] ∧ SqL K H a (rs.map V.int) ∧ SqL K H b (bs.map V.int) ∧
  (GF rs → GB rs bs → BS bs ∧ TellV H Q (.int (W rs bs))) ∧ (¬ GF rs → E (.ref (ErA mg "NoFrame")) none H) ∧ (GF rs → ¬ GB rs bs → E (.ref (ErA mg "NoBoard")) none H)
section
variable {P : Program} {w : World} {K : PySem.W.Frag} {mg : Str → Option Value} {base : Heap}
theorem ok_worth {f : Addr} {fd : FuncData} (F : Fun K "worth" "worth" s_worth f fd) (B : Bi mg) (c_asked_board : Callee P w K mg base 2 "asked_board" ["ratios", "board"] (sp_asked_board K mg))
    (c_worths : Callee P w K mg base 2 "worths" ["ratios"] (sp_worths K mg)) :
    FnOk P w K mg base (L2.CX P w) 3 f fd ["ratios", "board"] (sp_worth K mg) := by
  refine F.okX sc_worth (fun vs H Q E h => ?_) (fun cdv A outer s H vs Q E hr h => ?_)
  · obtain ⟨a, b, rs, bs, rfl, _⟩ := h
    rfl
  · obtain ⟨a, b, rs, bs, rfl, hA, hB, kG, kF, kB⟩ := h
    have tk : Takes (cxOf (L2.CX P w) P w K mg base N_worth "worth" (defScope s_worth) f cdv A outer s H E) (fun cls d _ H => E cls d H) := takes_of rfl rfl rfl rfl
    refine ⟨_, (pss_cons (ps_expr (pe_f c_asked_board hr (by decide) tk (pa_cons (pv 0) (pa_cons (pv 1) pa_nil))))
  (pss_one (ps_ret (pe_callB (cr_sum rfl) (by rfl) B.sum (by decide +kernel) (pa_cons (pe_lc (own := [("counters", 2), ("one", 3)]) (g := gTup K 2 (gCons (gName 2) (gCons (gName 3) gNil))) (tt := tYes) rfl sc_worth.nd (pi_zip (by rfl) B.zip (pa_cons (pv 1) (pa_cons (pe_f c_worths hr (by decide) tk (pa_cons (pv 0) pa_nil)) pa_nil))) (blkOk_by (own := [("counters", 2), ("one", 3)]) (N := N_worth) (sc := defScope s_worth) (by decide +kernel)) (fun _ _ _ _ _ => pg_tup rfl (pgs_cons (pg_name (i := 2) sc_worth.nd rfl (Or.inl rfl)) (pgs_cons (pg_name (i := 3) sc_worth.nd rfl (Or.inl rfl)) pgs_nil))) (fun _ _ _ _ _ => pts_nil) (fun _ _ _ _ _ => (pe_op op_mulW (pv 2) (pv 3)))) pa_nil))))), ?_⟩
    refine ⟨_, rfl, _, rfl, a, b, rs, bs, rfl, hA, hB, fun g gb => ?_, kF, kB⟩
    obtain ⟨hs, k⟩ := kG g gb
    refine ⟨_, rfl, _, rfl, a, rs, rfl, hA, fun _ H1 p s1 n1 e1 => ?_, fun z => absurd g z⟩
    refine ⟨b, p, _, _, rfl, s1.seq hB, SqL.of e1, fun T hT => ?_⟩
    have hlen : bs.length = rs.length + 1 := gb.1
    have hl : (List.zipWith (· * ·) bs (worthsL rs)).length = rs.length + 1 := by rw [List.length_zipWith, worths_len]; omega
    refine lc_zip (K := K) (rs.length + 1) (by rw [List.length_map, List.length_map, worths_len]; omega) (Gr H1 T ((List.zipWith (· * ·) bs (worthsL rs)).map V.int)) (Gr.zero _ hT) (fun i H' gr => ⟨gr.1.seq (s1.seq hB), gr.1.seq (SqL.of e1)⟩) ?_ ?_
    · rintro i x y T' H' hx hy gr nT
      obtain ⟨z, hz, rfl⟩ := get_map hx
      obtain ⟨o, ho, rfl⟩ := get_map hy
      refine ⟨T', _, rfl, SqT.of upd_same, rfl, _, _, rfl, _, _, rfl, rfl, rfl, ?_⟩
      have ho' : ∃ k, k < rs.length + 1 ∧ o = prodL (rs.take k) := by
        have hm := List.mem_of_getElem? ho
        unfold worthsL at hm
        obtain ⟨k, hk, e⟩ := List.mem_map.mp hm
        exact ⟨k, List.mem_range.mp hk, e.symm⟩
      obtain ⟨k', hk', rfl⟩ := ho'
      have gp := prodL_lt (l := rs.take k') (fun r hr => g.2 r (List.mem_of_mem_take hr)) (by rw [List.length_take]; have := g.1; omega)
      have hz0 := gb.2 z (List.mem_of_getElem? hz)
      have hz1 := hs z (List.mem_of_getElem? hz)
      refine ⟨_, rfl, _, rfl, _, _, rfl, rfl, wide_mul (a := 200) (b := 40) (abs_lt_pow hz0 hz1) (abs_lt_pow (by omega) gp.2) (by decide) (by decide) (by decide), ?_⟩
      refine ⟨_, gr.step hT (by rw [List.length_map, hl]; have := g.1; omega) (map_get (z := z * prodL (rs.take k')) ?_) (same_upd nT)⟩
      rw [List.getElem?_zipWith, hz, ho]
    · intro H' gr
      refine ⟨T, _, rfl, SqL.of (gr.done (by rw [List.length_map, hl]; exact Nat.le_refl _)), ?_⟩
      rw [W_sum rs bs hlen]
      refine k H' fun b' o' e' => gr.1 _ _ (s1 _ _ e')
end
end CB
namespace CB
open PySem PySem.Spec PyProof.Rows L2
abbrev s_board_of : Stmt := top 11
abbrev N_board_of : List Str := ["ratios", "number", "found", "ratio"]
theorem sc_board_of : FnScope N_board_of ["ratios", "number"] (defScope s_board_of) := ⟨rfl, rfl, rfl, by decide +kernel, rfl, by decide +kernel, by decide +kernel⟩
end CB

namespace CB
open PySem PySem.Spec PyProof.Rows L2
def sp_board_of (K : PySem.W.Frag) (mg : Str → Option Value) : Sp := fun vs H Q E => ∃ (a : Addr) (n : Int) (rs : List Int), vs = [.ref a, .int n] ∧ SqL K H a (rs.map V.int) ∧
  (GF rs → 0 ≤ n → TellL H Q ((D rs n).map V.int)) ∧ (¬ GF rs → E (.ref (ErA mg "NoFrame")) none H) ∧ (GF rs → ¬ 0 ≤ n → E (.ref (ErA mg "NoNumber")) none H)
section
variable {P : Program} {w : World} {K : PySem.W.Frag} {mg : Str → Option Value} {base : Heap}
theorem ok_board_of {f : Addr} {fd : FuncData} (F : Fun K "board_of" "board_of" s_board_of f fd) (B : Bi mg) (e_NoNumber : Er K mg "NoNumber") (c_asked_frame : Callee P w K mg base 1 "asked_frame" ["ratios"] (sp_asked_frame K mg)) :
    FnOk P w K mg base (L2.CX P w) 2 f fd ["ratios", "number"] (sp_board_of K mg) := by
  refine F.okX sc_board_of (fun vs H Q E h => ?_) (fun cdv A outer s H vs Q E hr h => ?_)
  · obtain ⟨a, n, rs, rfl, _⟩ := h
    rfl
  · obtain ⟨a, n, rs, rfl, hA, kG, kF, kB⟩ := h
    have tk : Takes (cxOf (L2.CX P w) P w K mg base N_board_of "board_of" (defScope s_board_of) f cdv A outer s H E) (fun cls d _ H => E cls d H) := takes_of rfl rfl rfl rfl
    refine ⟨_, (pss_cons (ps_expr (pe_f c_asked_frame hr (by decide) tk (pa_cons (pv 0) pa_nil)))
  (pss_cons (ps_if (pt_cmpR op_lt (pv 1) pe_int (nomark _)) (pss_one (ps_raise rfl tk (pmk_own PySem.F.excBase_ValueError e_NoNumber.xP e_NoNumber.gC e_NoNumber.kP (raises_own e_NoNumber.bP e_NoNumber.tP) (by rfl)))) pss_nil)
  (pss_cons (ps_set (i := 2) sc_board_of.nd rfl (Or.inl rfl) (pe_lst pa_nil))
  (pss_cons (ps_for (passes_of rfl) rfl (pi_list (pv 0)) (pg_name (i := 3) sc_board_of.nd rfl (Or.inl rfl)) (pss_cons (ps_expr (pe_bm PySem.F.plainAttrs_list PySem.F.slot_list_append PySem.F.type_list_append mt_append (pv 2) (pa_cons (pe_op op_mod (pv 1) (pv 3)) pa_nil)))
  (pss_one (ps_set (i := 1) sc_board_of.nd rfl (Or.inl rfl) (pe_op op_fdiv (pv 1) (pv 3))))))
  (pss_cons (ps_expr (pe_bm PySem.F.plainAttrs_list PySem.F.slot_list_append PySem.F.type_list_append mt_append (pv 2) (pa_cons (pv 1) pa_nil)))
  (pss_one (ps_ret (pv 2)))))))), ?_⟩
    refine ⟨_, rfl, a, rs, rfl, hA, fun g => ?_, kF⟩
    refine ⟨_, rfl, _, _, rfl, rfl, _, rfl, ite2 (fun e => kB g (by have := of_decide_eq_true e; omega)) (fun e => ?_)⟩
    have h0 : 0 ≤ n := by
      have : ¬ n < 0 := fun q => e (decide_eq_true q)
      omega
    have k := kG g h0
    refine ⟨by show 0 ≤ sizeLine; decide, fun p hp => ?_⟩
    have hlen : ((D rs n).map V.int).length ≤ 100000 := by rw [List.length_map, D_len]; have := g.1; omega
    refine ⟨_, rfl, a, rfl, ⟨_, (same_upd hp).seq hA⟩, for_list (K := K) (a := a) (xs := rs.map V.int) (fun i σ H' => ∃ v m, σ = [some (.ref a), some (.int m), some (.ref p), v] ∧ Gr H p ((D rs n).map V.int) i H' ∧ ∃ l, D rs n = l ++ D (rs.drop i) m ∧ l.length = i)
        ⟨none, n, rfl, Gr.zero _ hp, [], rfl, rfl⟩ (fun i σ H' _ ⟨_, _, _, gr, _⟩ => gr.1.seq hA) ?_ ?_⟩
    · rintro i y σ H' hi ⟨v, m, rfl, gr, l, e1, e2⟩
      obtain ⟨z, hz, rfl⟩ := get_map hi
      have gz := g.2 z (List.mem_of_getElem? hz)
      have e3 : rs.drop i = z :: rs.drop (i + 1) := by
        obtain ⟨hl, e⟩ := List.getElem?_eq_some_iff.mp hz
        rw [List.drop_eq_getElem_cons hl, e]
      rw [e3] at e1
      have e4 : ((D rs n).map V.int)[i]? = some (.int (m % z)) := by
        refine map_get ?_
        rw [e1, List.getElem?_append_right (by omega), e2, Nat.sub_self]
        rfl
      have st := gr.step hp hlen e4 (Same.refl H')
      refine ⟨_, rfl, .inl ⟨rfl, _, SqL.of st.1⟩, _, rfl, _, rfl, _, _, rfl, rfl, (by show 0 < z; omega), p, _, _, rfl, rfl, st.1, st.2.1, ?_⟩
      refine ⟨_, rfl, _, rfl, _, _, rfl, rfl, ⟨by omega, by omega⟩, ?_⟩
      refine ⟨some (.int z), m / z, rfl, st.2.2, l ++ [m % z], ?_, by rw [List.length_append, e2]; rfl⟩
      rw [e1, List.append_assoc]
      rfl
    · rintro σ H' ⟨v, m, rfl, gr, l, e1, e2⟩
      rw [List.length_map] at gr e1 e2
      have e3 : D (rs.drop rs.length) m = [m] := by rw [List.drop_length]; rfl
      rw [e3] at e1
      have e4 : ((D rs n).map V.int)[rs.length]? = some (.int m) := by
        refine map_get ?_
        rw [e1, List.getElem?_append_right (by omega), e2, Nat.sub_self]
        rfl
      have st := gr.step hp hlen e4 (Same.refl H')
      refine ⟨_, rfl, .inl ⟨rfl, _, SqL.of st.1⟩, _, rfl, p, _, _, rfl, rfl, st.1, st.2.1, ?_⟩
      exact ⟨_, rfl, k _ p st.2.2.1 hp (st.2.2.done (by rw [List.length_map, D_len]; exact Nat.le_refl _))⟩
end
end CB
namespace CB
open PySem PySem.Spec PyProof.Rows L2
abbrev s_plain : Stmt := top 12
abbrev N_plain : List Str := ["ratios", "board"]
theorem sc_plain : FnScope N_plain ["ratios", "board"] (defScope s_plain) := ⟨rfl, rfl, rfl, by decide +kernel, rfl, by decide +kernel, by decide +kernel⟩
end CB

namespace CB
open PySem PySem.Spec PyProof.Rows L2
def sp_plain (K : PySem.W.Frag) (mg : Str → Option Value) : Sp := fun vs H Q E => ∃ (a b : Addr) (rs bs : List Int), vs = [.ref a, .ref b] ∧ SqL K H a (rs.map V.int) ∧ SqL K H b (bs.map V.int) ∧
  (GF rs → GB rs bs → BS bs ∧ TellL H Q ((D rs (W rs bs)).map V.int)) ∧ (¬ GF rs → E (.ref (ErA mg "NoFrame")) none H) ∧ (GF rs → ¬ GB rs bs → E (.ref (ErA mg "NoBoard")) none H)
section
variable {P : Program} {w : World} {K : PySem.W.Frag} {mg : Str → Option Value} {base : Heap}
theorem ok_plain {f : Addr} {fd : FuncData} (F : Fun K "plain" "plain" s_plain f fd) (B : Bi mg) (c_board_of : Callee P w K mg base 2 "board_of" ["ratios", "number"] (sp_board_of K mg)) (c_worth : Callee P w K mg base 3 "worth" ["ratios", "board"] (sp_worth K mg)) :
    FnOk P w K mg base (L2.CX P w) 4 f fd ["ratios", "board"] (sp_plain K mg) := by
  refine F.okX sc_plain (fun vs H Q E h => ?_) (fun cdv A outer s H vs Q E hr h => ?_)
  · obtain ⟨a, b, rs, bs, rfl, _⟩ := h
    rfl
  · obtain ⟨a, b, rs, bs, rfl, hA, hB, kG, kF, kB⟩ := h
    have tk : Takes (cxOf (L2.CX P w) P w K mg base N_plain "plain" (defScope s_plain) f cdv A outer s H E) (fun cls d _ H => E cls d H) := takes_of rfl rfl rfl rfl
    refine ⟨_, (pss_one (ps_ret (pe_f c_board_of hr (by decide) tk (pa_cons (pv 0) (pa_cons (pe_f c_worth hr (by decide) tk (pa_cons (pv 0) (pa_cons (pv 1) pa_nil))) pa_nil))))), ?_⟩
    refine ⟨_, rfl, _, rfl, _, rfl, a, b, rs, bs, rfl, hA, hB, fun g gb => ?_, kF, kB⟩
    obtain ⟨hs, k⟩ := kG g gb
    refine ⟨hs, fun H1 s1 => ⟨a, _, rs, rfl, s1.seq hA, fun _ _ H2 p s2 n2 e2 => k H2 p (s1.trans s2) (s1.free n2) e2, fun z => absurd g z, fun _ z => absurd (W_small g gb.2 hs).1 z⟩⟩
end
end CB
namespace CB
open PySem PySem.Spec PyProof.Rows L2
abbrev s_added : Stmt := top 14
abbrev N_added : List Str := ["ratios", "one", "other", "first"]
theorem sc_added : FnScope N_added ["ratios", "one", "other"] (defScope s_added) := ⟨rfl, rfl, rfl, by decide +kernel, rfl, by decide +kernel, by decide +kernel⟩
end CB

namespace CB
open PySem PySem.Spec PyProof.Rows L2
def sp_added (K : PySem.W.Frag) (mg : Str → Option Value) : Sp := fun vs H Q E => ∃ (a b c : Addr) (rs bs cs : List Int), vs = [.ref a, .ref b, .ref c] ∧ SqL K H a (rs.map V.int) ∧ SqL K H b (bs.map V.int) ∧ SqL K H c (cs.map V.int) ∧
  Two mg H E rs bs cs (TellL H Q ((D rs (W rs bs + W rs cs)).map V.int))
section
variable {P : Program} {w : World} {K : PySem.W.Frag} {mg : Str → Option Value} {base : Heap}
theorem ok_added {f : Addr} {fd : FuncData} (F : Fun K "added" "added" s_added f fd) (B : Bi mg) (c_worth : Callee P w K mg base 3 "worth" ["ratios", "board"] (sp_worth K mg)) (c_board_of : Callee P w K mg base 2 "board_of" ["ratios", "number"] (sp_board_of K mg)) :
    FnOk P w K mg base (L2.CX P w) 4 f fd ["ratios", "one", "other"] (sp_added K mg) := by
  refine F.okX sc_added (fun vs H Q E h => ?_) (fun cdv A outer s H vs Q E hr h => ?_)
  · obtain ⟨a, b, c, rs, bs, cs, rfl, _⟩ := h
    rfl
  · obtain ⟨a, b, c, rs, bs, cs, rfl, hA, hB, hC, k, kF, kB⟩ := h
    have tk : Takes (cxOf (L2.CX P w) P w K mg base N_added "added" (defScope s_added) f cdv A outer s H E) (fun cls d _ H => E cls d H) := takes_of rfl rfl rfl rfl
    refine ⟨_, (pss_cons (ps_set (i := 3) sc_added.nd rfl (Or.inl rfl) (pe_f c_worth hr (by decide) tk (pa_cons (pv 0) (pa_cons (pv 1) pa_nil))))
  (pss_one (ps_ret (pe_f c_board_of hr (by decide) tk (pa_cons (pv 0) (pa_cons (pe_op op_add (pv 3) (pe_f c_worth hr (by decide) tk (pa_cons (pv 0) (pa_cons (pv 2) pa_nil)))) pa_nil)))))), ?_⟩
    refine ⟨_, rfl, _, rfl, a, b, rs, bs, rfl, hA, hB, fun g gb => ?_, kF, kB⟩
    obtain ⟨sb, k1, k2⟩ := k g gb
    refine ⟨sb, fun H1 s1 => ?_⟩
    refine ⟨_, rfl, _, rfl, _, rfl, _, rfl, a, c, rs, cs, rfl, s1.seq hA, s1.seq hC, fun _ gc => ?_, fun z => absurd g z, fun _ z => k2 z H1 s1⟩
    obtain ⟨sc, kk⟩ := k1 gc
    refine ⟨sc, fun H2 s2 => ?_⟩
    have h1 := (W_small g gb.2 sb).1
    have h2 := (W_small g gc.2 sc).1
    have s02 := s1.trans s2
    refine ⟨_, _, rfl, rfl, a, _, rs, rfl, s02.seq hA, fun _ _ H3 p3 s3 n3 e3 => kk H3 p3 (s02.trans s3) (s02.free n3) e3, fun z => absurd g z, fun _ z => absurd (Int.add_nonneg h1 h2) z⟩
end
end CB
namespace CB
open PySem PySem.Spec PyProof.Rows L2
abbrev s_times : Stmt := top 15
abbrev N_times : List Str := ["ratios", "board", "number"]
theorem sc_times : FnScope N_times ["ratios", "board", "number"] (defScope s_times) := ⟨rfl, rfl, rfl, by decide +kernel, rfl, by decide +kernel, by decide +kernel⟩
end CB

namespace CB
open PySem PySem.Spec PyProof.Rows L2
def sp_times (K : PySem.W.Frag) (mg : Str → Option Value) : Sp := fun vs H Q E => ∃ (a b : Addr) (rs bs : List Int) (n : Int), vs = [.ref a, .ref b, .int n] ∧ SqL K H a (rs.map V.int) ∧ SqL K H b (bs.map V.int) ∧
  (GF rs → GB rs bs → (0 ≤ n → BS bs ∧ n < 2 ^ 200 ∧ TellL H Q ((D rs (W rs bs * n)).map V.int)) ∧ (¬ 0 ≤ n → E (.ref (ErA mg "NoNumber")) none H)) ∧ (¬ GF rs → E (.ref (ErA mg "NoFrame")) none H) ∧ (GF rs → ¬ GB rs bs → E (.ref (ErA mg "NoBoard")) none H)
section
variable {P : Program} {w : World} {K : PySem.W.Frag} {mg : Str → Option Value} {base : Heap}
theorem ok_times {f : Addr} {fd : FuncData} (F : Fun K "times" "times" s_times f fd) (B : Bi mg) (e_NoNumber : Er K mg "NoNumber") (c_asked_board : Callee P w K mg base 2 "asked_board" ["ratios", "board"] (sp_asked_board K mg))
    (c_worth : Callee P w K mg base 3 "worth" ["ratios", "board"] (sp_worth K mg)) (c_board_of : Callee P w K mg base 2 "board_of" ["ratios", "number"] (sp_board_of K mg)) :
    FnOk P w K mg base (L2.CX P w) 4 f fd ["ratios", "board", "number"] (sp_times K mg) := by
  refine F.okX sc_times (fun vs H Q E h => ?_) (fun cdv A outer s H vs Q E hr h => ?_)
  · obtain ⟨a, b, rs, bs, n, rfl, _⟩ := h
    rfl
  · obtain ⟨a, b, rs, bs, n, rfl, hA, hB, k, kF, kB⟩ := h
    have tk : Takes (cxOf (L2.CX P w) P w K mg base N_times "times" (defScope s_times) f cdv A outer s H E) (fun cls d _ H => E cls d H) := takes_of rfl rfl rfl rfl
    refine ⟨_, (pss_cons (ps_expr (pe_f c_asked_board hr (by decide) tk (pa_cons (pv 0) (pa_cons (pv 1) pa_nil))))
  (pss_cons (ps_if (pt_cmpR op_lt (pv 2) pe_int (nomark _)) (pss_one (ps_raise rfl tk (pmk_own PySem.F.excBase_ValueError e_NoNumber.xP e_NoNumber.gC e_NoNumber.kP (raises_own e_NoNumber.bP e_NoNumber.tP) (by rfl)))) pss_nil)
  (pss_one (ps_ret (pe_f c_board_of hr (by decide) tk (pa_cons (pv 0) (pa_cons (pe_op op_mulW (pe_f c_worth hr (by decide) tk (pa_cons (pv 0) (pa_cons (pv 1) pa_nil))) (pv 2)) pa_nil))))))), ?_⟩
    refine ⟨_, rfl, _, rfl, a, b, rs, bs, rfl, hA, hB, fun g gb => ?_, kF, kB⟩
    obtain ⟨k1, k2⟩ := k g gb
    refine ⟨_, rfl, _, _, rfl, rfl, _, rfl, ite2 (fun e => k2 (by have := of_decide_eq_true e; omega)) (fun e => ?_)⟩
    have h0 : 0 ≤ n := by
      have : ¬ n < 0 := fun q => e (decide_eq_true q)
      omega
    obtain ⟨sb, hn, kk⟩ := k1 h0
    obtain ⟨w0, w1⟩ := W_small g gb.2 sb
    refine ⟨_, rfl, _, rfl, _, rfl, a, b, rs, bs, rfl, hA, hB, fun _ _ => ⟨sb, fun H1 s1 => ?_⟩, fun z => absurd g z, fun _ z => absurd gb z⟩
    refine ⟨_, rfl, _, _, rfl, rfl, wide_mul (a := 250) (b := 200) (abs_lt_pow w0 w1) (abs_lt_pow h0 hn) (by decide) (by decide) (by decide), ?_⟩
    exact ⟨a, _, rs, rfl, s1.seq hA, fun _ _ H3 p3 s3 n3 e3 => kk H3 p3 (s1.trans s3) (s1.free n3) e3, fun z => absurd g z, fun _ z => absurd (Int.mul_nonneg w0 h0) z⟩
end
end CB
namespace CB
open PySem PySem.Spec PyProof.Rows L2
abbrev s_parted : Stmt := top 16
abbrev N_parted : List Str := ["ratios", "board", "number", "total"]
theorem sc_parted : FnScope N_parted ["ratios", "board", "number"] (defScope s_parted) := ⟨rfl, rfl, rfl, by decide +kernel, rfl, by decide +kernel, by decide +kernel⟩
end CB

namespace CB
open PySem PySem.Spec PyProof.Rows L2
def sp_parted (K : PySem.W.Frag) (mg : Str → Option Value) : Sp := fun vs H Q E => ∃ (a b : Addr) (rs bs : List Int) (n : Int), vs = [.ref a, .ref b, .int n] ∧ SqL K H a (rs.map V.int) ∧ SqL K H b (bs.map V.int) ∧
  (GF rs → GB rs bs → (1 ≤ n → BS bs ∧ n < 2 ^ 200 ∧ ∀ (H' : Hp) (p t : Addr), Same H H' → H p = none → H' p = some (.lst ((D rs (W rs bs / n)).map V.int)) → H' t = some (.tup [.ref p, .int (W rs bs % n)]) → Q (.ref t) H') ∧ (¬ 1 ≤ n → E (.ref (ErA mg "NoNumber")) none H)) ∧
  (¬ GF rs → E (.ref (ErA mg "NoFrame")) none H) ∧ (GF rs → ¬ GB rs bs → E (.ref (ErA mg "NoBoard")) none H)
section
variable {P : Program} {w : World} {K : PySem.W.Frag} {mg : Str → Option Value} {base : Heap}
theorem ok_parted {f : Addr} {fd : FuncData} (F : Fun K "parted" "parted" s_parted f fd) (B : Bi mg) (e_NoNumber : Er K mg "NoNumber") (c_asked_board : Callee P w K mg base 2 "asked_board" ["ratios", "board"] (sp_asked_board K mg))
    (c_worth : Callee P w K mg base 3 "worth" ["ratios", "board"] (sp_worth K mg)) (c_board_of : Callee P w K mg base 2 "board_of" ["ratios", "number"] (sp_board_of K mg)) :
    FnOk P w K mg base (L2.CX P w) 4 f fd ["ratios", "board", "number"] (sp_parted K mg) := by
  refine F.okX sc_parted (fun vs H Q E h => ?_) (fun cdv A outer s H vs Q E hr h => ?_)
  · obtain ⟨a, b, rs, bs, n, rfl, _⟩ := h
    rfl
  · obtain ⟨a, b, rs, bs, n, rfl, hA, hB, k, kF, kB⟩ := h
    have tk : Takes (cxOf (L2.CX P w) P w K mg base N_parted "parted" (defScope s_parted) f cdv A outer s H E) (fun cls d _ H => E cls d H) := takes_of rfl rfl rfl rfl
    refine ⟨_, (pss_cons (ps_expr (pe_f c_asked_board hr (by decide) tk (pa_cons (pv 0) (pa_cons (pv 1) pa_nil))))
  (pss_cons (ps_if (pt_cmpR op_lt (pv 2) pe_int (nomark _)) (pss_one (ps_raise rfl tk (pmk_own PySem.F.excBase_ValueError e_NoNumber.xP e_NoNumber.gC e_NoNumber.kP (raises_own e_NoNumber.bP e_NoNumber.tP) (by rfl)))) pss_nil)
  (pss_cons (ps_set (i := 3) sc_parted.nd rfl (Or.inl rfl) (pe_f c_worth hr (by decide) tk (pa_cons (pv 0) (pa_cons (pv 1) pa_nil))))
  (pss_one (ps_ret (pe_tup (pa_cons (pe_f c_board_of hr (by decide) tk (pa_cons (pv 0) (pa_cons (pe_op op_fdivW (pv 3) (pv 2)) pa_nil))) (pa_cons (pe_op op_mod (pv 3) (pv 2)) pa_nil)))))))), ?_⟩
    refine ⟨_, rfl, _, rfl, a, b, rs, bs, rfl, hA, hB, fun g gb => ?_, kF, kB⟩
    obtain ⟨k1, k2⟩ := k g gb
    refine ⟨_, rfl, _, _, rfl, rfl, _, rfl, ite2 (fun e => k2 (by have := of_decide_eq_true e; omega)) (fun e => ?_)⟩
    have h0 : 1 ≤ n := by
      have : ¬ n < 1 := fun q => e (decide_eq_true q)
      omega
    obtain ⟨sb, hn, kk⟩ := k1 h0
    obtain ⟨w0, w1⟩ := W_small g gb.2 sb
    refine ⟨_, rfl, _, rfl, a, b, rs, bs, rfl, hA, hB, fun _ _ => ⟨sb, fun H1 s1 => ?_⟩, fun z => absurd g z, fun _ z => absurd gb z⟩
    refine ⟨_, rfl, _, rfl, _, rfl, _, _, rfl, rfl, wide_div (b := 200) (by omega) (abs_lt_pow (by omega) hn) (by decide) (by decide), ?_⟩
    refine ⟨a, _, rs, rfl, s1.seq hA, fun _ _ H3 p3 s3 n3 e3 => ?_, fun z => absurd g z, fun _ z => absurd (Int.ediv_nonneg w0 (by omega)) z⟩
    refine ⟨_, rfl, _, rfl, _, _, rfl, rfl, (by show 0 < n; omega), by show 2 ≤ sizeLine; decide, fun t ht => ?_⟩
    exact kk _ p3 t ((s1.trans s3).trans (same_upd ht)) (s1.free n3) (by rw [upd_ne (ne_of_none e3 ht)]; exact e3) upd_same
end
end CB
namespace CB
open PySem PySem.Spec PyProof.Rows L2
abbrev s_law_cell_at : Stmt := top 18
abbrev N_law_cell_at : List Str := ["script", "k"]
theorem sc_law_cell_at : FnScope N_law_cell_at ["script", "k"] (defScope s_law_cell_at) := ⟨rfl, rfl, rfl, by decide +kernel, rfl, by decide +kernel, by decide +kernel⟩
end CB

namespace CB
open PySem PySem.Spec PyProof.Rows L2
def cell (ns : List Int) (k : Int) : Int := ns.getD k.toNat 0
def sp_law_cell_at (K : PySem.W.Frag) (_ : Str → Option Value) : Sp := fun vs H Q _ => ∃ (a : Addr) (ns : List Int) (k : Int), vs = [.ref a, .int k] ∧ SqL K H a (ns.map V.int) ∧ 0 ≤ k ∧ Q (.int (cell ns k)) H
section
variable {P : Program} {w : World} {K : PySem.W.Frag} {mg : Str → Option Value} {base : Heap}
theorem ok_law_cell_at {f : Addr} {fd : FuncData} (F : Fun K "_law_cell_at" "_law_cell_at" s_law_cell_at f fd) (B : Bi mg) : FnOk P w K mg base (L2.CX P w) 1 f fd ["script", "k"] (sp_law_cell_at K mg) := by
  refine F.okX sc_law_cell_at (fun vs H Q E h => ?_) (fun cdv A outer s H vs Q E hr h => ?_)
  · obtain ⟨a, ns, k, rfl, _⟩ := h
    rfl
  · obtain ⟨a, ns, k, rfl, hS, h0, q⟩ := h
    refine ⟨_, (pss_cons (ps_if (pt_cmpR op_lt (pv 1) (pe_callB call_len_seq (by rfl) B.len PySem.boot_len (pa_cons (pv 0) pa_nil)) (nomark _)) (pss_one (ps_ret (pe_ix ix_list (pv 0) (pv 1) (fun _ _ => rfl)))) pss_nil)
  (pss_one (ps_ret pe_int))), ?_⟩
    refine ⟨_, rfl, _, rfl, a, _, rfl, .inl hS, _, _, rfl, rfl, _, rfl, ite2 (fun e => ?_) (fun e => ?_)⟩
    · have e1 := of_decide_eq_true e
      rw [List.length_map] at e1
      have hk : k.toNat < ns.length := by omega
      refine ⟨_, rfl, _, rfl, a, _, _, .int (cell ns k), rfl, rfl, hS, ?_, q⟩
      refine at_of (j := k.toNat) (by omega) (map_get ?_)
      unfold cell
      rw [List.getElem?_eq_getElem hk, List.getD_eq_getElem?_getD, List.getElem?_eq_getElem hk]
      all_goals rfl
    · have hk : ¬ k.toNat < ns.length := fun z => e (decide_eq_true (by rw [List.length_map]; omega))
      have e0 : cell ns k = 0 := by
        unfold cell
        rw [List.getD_eq_getElem?_getD, List.getElem?_eq_none (by omega)]
        all_goals rfl
      rw [e0] at q
      exact q
end
end CB
namespace CB
open PySem PySem.Spec PyProof.Rows L2
abbrev s_law_whole : Stmt := top 19
abbrev N_law_whole : List Str := ["found"]
theorem sc_law_whole : FnScope N_law_whole ["found"] (defScope s_law_whole) := ⟨rfl, rfl, rfl, by decide +kernel, rfl, by decide +kernel, by decide +kernel⟩
end CB

namespace CB
open PySem PySem.Spec PyProof.Rows L2
def sp_law_whole (_ : PySem.W.Frag) (_ : Str → Option Value) : Sp := fun vs H Q _ => ∃ (k : Int), vs = [.int k] ∧ Q (.bl true) H
section
variable {P : Program} {w : World} {K : PySem.W.Frag} {mg : Str → Option Value} {base : Heap}
theorem ok_law_whole {f : Addr} {fd : FuncData} (F : Fun K "_law_whole" "_law_whole" s_law_whole f fd) (B : Bi mg) : FnOk P w K mg base (L2.CX P w) 1 f fd ["found"] (sp_law_whole K mg) := by
  refine F.okX sc_law_whole (fun vs H Q E h => ?_) (fun cdv A outer s H vs Q E hr h => ?_)
  · obtain ⟨k, rfl, _⟩ := h
    rfl
  · obtain ⟨k, rfl, q⟩ := h
    refine ⟨_, (pss_one (ps_ret (pe_and (pe_callB call_isi (by rfl) B.isinstance (by decide +kernel) (pa_cons (pv 0) (pa_cons (pe_bltn (v := .ty "int") (by rfl) B.int (by decide +kernel) rfl) pa_nil))) (pe_one (pe_not (pe_callB call_isi (by rfl) B.isinstance (by decide +kernel) (pa_cons (pv 0) (pa_cons (pe_bltn (v := .ty "bool") (by rfl) B.bool (by decide +kernel) rfl) pa_nil)))))))), ?_⟩
    refine ⟨_, rfl, _, _, .type "int", _, true, rfl, .ty _, .base (.int _), kit_ty (by decide +kernel), _, rfl, ite_t rfl ?_⟩
    exact ⟨_, rfl, _, _, .type "int", _, false, rfl, .ty _, .base (.int _), kit_ty (by decide +kernel), _, rfl, q⟩
end
end CB
namespace CB
open PySem PySem.Spec PyProof.Rows L2
abbrev s_law_frame_by : Stmt := top 20
abbrev N_law_frame_by : List Str := ["script", "lines", "k"]
theorem sc_law_frame_by : FnScope N_law_frame_by ["script"] (defScope s_law_frame_by) := ⟨rfl, rfl, rfl, by decide +kernel, rfl, by decide +kernel, by decide +kernel⟩
end CB

namespace CB
open PySem PySem.Spec PyProof.Rows L2
def sp_law_frame_by (K : PySem.W.Frag) (_ : Str → Option Value) : Sp := fun vs H Q _ => ∃ (a : Addr) (ns : List Int), vs = [.ref a] ∧ SqL K H a (ns.map V.int) ∧ ∀ rs : List Int, GF rs → TellL H Q (rs.map V.int)
section
variable {P : Program} {w : World} {K : PySem.W.Frag} {mg : Str → Option Value} {base : Heap}
theorem ok_law_frame_by {f : Addr} {fd : FuncData} (F : Fun K "_law_frame_by" "_law_frame_by" s_law_frame_by f fd) (B : Bi mg) (c_law_cell_at : Callee P w K mg base 1 "_law_cell_at" ["script", "k"] (sp_law_cell_at K mg)) :
    FnOk P w K mg base (L2.CX P w) 2 f fd ["script"] (sp_law_frame_by K mg) := by
  refine F.okX sc_law_frame_by (fun vs H Q E h => ?_) (fun cdv A outer s H vs Q E hr h => ?_)
  · obtain ⟨a, ns, rfl, _⟩ := h
    rfl
  · obtain ⟨a, ns, rfl, hS, k⟩ := h
    refine ⟨_, (pss_cons (ps_set (i := 1) sc_law_frame_by.nd rfl (Or.inl rfl) (pe_op op_mod (pe_f c_law_cell_at hr (by decide) takes0 (pa_cons (pv 0) (pa_cons pe_int pa_nil))) pe_int))
  (pss_cons (ps_if (pt_cmpR op_eq (pe_op op_mod (pe_op op_fdiv (pe_f c_law_cell_at hr (by decide) takes0 (pa_cons (pv 0) (pa_cons pe_int pa_nil))) pe_int) pe_int) pe_int (nomark _)) (pss_one (ps_set (i := 1) sc_law_frame_by.nd rfl (Or.inl rfl) (pe_op op_mod (pe_op op_fdiv (pe_f c_law_cell_at hr (by decide) takes0 (pa_cons (pv 0) (pa_cons pe_int pa_nil))) pe_int) pe_int))) pss_nil)
  (pss_one (ps_ret (pe_lc (own := [("k", 2)]) (g := gName 2) (tt := tYes) rfl sc_law_frame_by.nd (pi_range1 (by rfl) B.range (pa_cons (pv 1) pa_nil)) (blkOk_by (own := [("k", 2)]) (N := N_law_frame_by) (sc := defScope s_law_frame_by) (by decide +kernel)) (fun _ _ _ _ _ => pg_name (i := 2) sc_law_frame_by.nd rfl (Or.inl rfl)) (fun _ _ _ _ _ => pts_nil) (fun _ _ _ _ _ => (pe_op op_add pe_int (pe_op op_mod (pe_f c_law_cell_at hr (by decide) takes0 (pa_cons (pv 0) (pa_cons (pe_op op_add pe_int (pv 2)) pa_nil))) pe_int)))))))), ?_⟩
    -- the tail, whatever lines is
    have tail : ∀ (z : Int), 0 ≤ z → z ≤ 11 → tRet (tLc (iRng1 (tCons (tVar 1) tNil)) (gName 2) tYes (tOp (rI0 fun i j => .int (i + j)) (tC (.int 2)) (tOp (rI (fun _ j => 0 < j) fun i j => .int (i % j)) (tCallS (sp_law_cell_at K mg) (WE fun _ _ _ _ => False) (tCons (tVar 0) (tCons (tOp (rI0 fun i j => .int (i + j)) (tC (.int 2)) (tVar 2)) tNil))) (tC (.int 11)))) [2])
        { nx := fun _ H' => Q .non H', rt := Q } [some (.ref a), some (.int z), none] H := by
      intro z h0 h1
      refine ⟨_, rfl, _, rfl, by omega, by omega, fun D hD => ?_⟩
      refine lc_range (lo := 0) (n := z.toNat) (fun i H' => Same H H' ∧ H' D = some (.lst (((List.range i).map fun j : Nat => 2 + cell ns (2 + (0 + (j : Int))) % 11).map V.int))) ⟨same_upd hD, upd_same⟩ ?_ ?_
      · rintro i H' hi ⟨sm, hD'⟩
        refine ⟨rfl, .ref a, rfl, _, rfl, _, _, rfl, rfl, a, ns, _, rfl, sm.seq hS, by omega, _, _, rfl, rfl, (show (0 : Int) < 11 by decide), _, _, rfl, rfl, _, hD', ?_, fun b o e => ?_, ?_⟩
        · rw [List.length_map, List.length_map, List.length_range]
          exact small64 (by omega)
        · rw [upd_ne (ne_of_none e hD)]
          exact sm b o e
        · rw [upd_same, List.range_succ, List.map_append, List.map_append]
          all_goals rfl
      · rintro H' ⟨sm, hD'⟩
        exact k _ (frame_gf (fun j => cell ns (2 + (0 + (j : Int)))) z.toNat (by omega)) H' D sm hD hD'
    refine ⟨.ref a, rfl, a, ns, 0, rfl, hS, by decide, _, _, rfl, rfl, (show (0 : Int) < 6 by decide), ?_⟩
    refine ⟨.ref a, rfl, a, ns, 0, rfl, hS, by decide, _, _, rfl, rfl, ⟨by decide, by decide⟩, _, _, rfl, rfl, (show (0 : Int) < 4 by decide), rfl, _, rfl, ite2 (fun _ => ?_) (fun _ => ?_)⟩
    · refine ⟨.ref a, rfl, a, ns, 0, rfl, hS, by decide, _, _, rfl, rfl, ⟨by decide, by decide⟩, _, _, rfl, rfl, (show (0 : Int) < 12 by decide), ?_⟩
      exact tail _ (by omega) (by omega)
    · exact tail _ (by omega) (by omega)
end
end CB
namespace CB
open PySem PySem.Spec PyProof.Rows L2
abbrev s_law_board_by : Stmt := top 21
abbrev N_law_board_by : List Str := ["script", "first", "ratios", "kind", "board", "k", "cell"]
theorem sc_law_board_by : FnScope N_law_board_by ["script", "first", "ratios", "kind"] (defScope s_law_board_by) := ⟨rfl, rfl, rfl, by decide +kernel, rfl, by decide +kernel, by decide +kernel⟩
end CB

namespace CB
open PySem PySem.Spec PyProof.Rows L2
def sp_law_board_by (K : PySem.W.Frag) (_ : Str → Option Value) : Sp := fun vs H Q _ => ∃ (a b : Addr) (ns rs : List Int) (first kind : Int), vs = [.ref a, .int first, .ref b, .int kind] ∧ SqL K H a (ns.map V.int) ∧ SqL K H b (rs.map V.int) ∧ rs.length ≤ 11 ∧ 0 ≤ first ∧
  ∀ bs : List Int, GB rs bs → (∀ x ∈ bs, x < 10 ^ 20) → TellL H Q (bs.map V.int)
section
variable {P : Program} {w : World} {K : PySem.W.Frag} {mg : Str → Option Value} {base : Heap}
theorem ok_law_board_by {f : Addr} {fd : FuncData} (F : Fun K "_law_board_by" "_law_board_by" s_law_board_by f fd) (B : Bi mg) (c_law_cell_at : Callee P w K mg base 1 "_law_cell_at" ["script", "k"] (sp_law_cell_at K mg)) :
    FnOk P w K mg base (L2.CX P w) 2 f fd ["script", "first", "ratios", "kind"] (sp_law_board_by K mg) := by
  refine F.okX sc_law_board_by (fun vs H Q E h => ?_) (fun cdv A outer s H vs Q E hr h => ?_)
  · obtain ⟨a, b, ns, rs, first, kind, rfl, _⟩ := h
    rfl
  · obtain ⟨a, b, ns, rs, first, kind, rfl, hA, hB, hl, h0, k⟩ := h
    refine ⟨_, (pss_cons (ps_set (i := 4) sc_law_board_by.nd rfl (Or.inl rfl) (pe_lst pa_nil))
  (pss_cons (ps_for (passes_of rfl) rfl (pi_range1 (by rfl) B.range (pa_cons (pe_op op_add (pe_callB call_len_seq (by rfl) B.len PySem.boot_len (pa_cons (pv 2) pa_nil)) pe_int) pa_nil)) (pg_name (i := 5) sc_law_board_by.nd rfl (Or.inl rfl)) (pss_cons (ps_set (i := 6) sc_law_board_by.nd rfl (Or.inl rfl) (pe_f c_law_cell_at hr (by decide) takes0 (pa_cons (pv 0) (pa_cons (pe_op op_add (pv 1) (pv 5)) pa_nil))))
  (pss_one (ps_if (pt_cmpR op_eq (pv 3) pe_int (nomark _)) (pss_one (ps_expr (pe_bm PySem.F.plainAttrs_list PySem.F.slot_list_append PySem.F.type_list_append mt_append (pv 4) (pa_cons (pe_op op_mod (pv 6) pe_int) pa_nil)))) (pss_one (ps_if (pt_cmpR op_eq (pv 3) pe_int (nomark _)) (pss_one (ps_expr (pe_bm PySem.F.plainAttrs_list PySem.F.slot_list_append PySem.F.type_list_append mt_append (pv 4) (pa_cons (pe_op op_mod (pv 6) (pe_op op_pow pe_int pe_int)) pa_nil)))) (pss_one (ps_if (pt_cmpR op_eq (pv 3) pe_int (nomark _)) (pss_one (ps_expr (pe_bm PySem.F.plainAttrs_list PySem.F.slot_list_append PySem.F.type_list_append mt_append (pv 4) (pa_cons (pe_op op_mod (pv 6) pe_int) pa_nil)))) (pss_one (ps_expr (pe_bm PySem.F.plainAttrs_list PySem.F.slot_list_append PySem.F.type_list_append mt_append (pv 4) (pa_cons (pe_op op_mod (pv 6) pe_int) pa_nil))))))))))))
  (pss_one (ps_ret (pv 4))))), ?_⟩
    refine ⟨by show 0 ≤ sizeLine; decide, fun p hp => ?_⟩
    refine ⟨_, rfl, b, _, rfl, .inl ((same_upd hp).seq hB), _, _, rfl, rfl, _, rfl, by rw [List.length_map]; omega, by rw [List.length_map]; omega, ?_⟩
    rw [List.length_map, show ((rs.length : Int) + 1).toNat = rs.length + 1 by omega]
    refine for_range (fun i σ H' => ∃ (v u : Option V) (bs : List Int), σ = [some (.ref a), some (.int first), some (.ref b), some (.int kind), some (.ref p), v, u] ∧ Same H H' ∧ H' p = some (.lst (bs.map V.int)) ∧ bs.length = i ∧ (∀ x ∈ bs, 0 ≤ x ∧ x < 10 ^ 20))
      ⟨none, none, [], rfl, same_upd hp, upd_same, rfl, fun x hx => nomatch hx⟩ ?_ ?_
    · rintro i σ H' hi ⟨v, u, bs, rfl, sm, hP, hbl, hb⟩
      refine ⟨_, rfl, _, rfl, _, rfl, _, _, rfl, rfl, a, ns, _, rfl, sm.seq hA, by omega, ?_⟩
      have fin : ∀ (x : Int) (σ' : L2.St), 0 ≤ x → x < 10 ^ 20 → σ' = [some (.ref a), some (.int first), some (.ref b), some (.int kind), some (.ref p), some (.int (0 + (i : Int))), some (.int (cell ns (first + (0 + (i : Int)))))] →
          ∃ (v u : Option V) (bs' : List Int), σ' = [some (.ref a), some (.int first), some (.ref b), some (.int kind), some (.ref p), v, u] ∧ Same H (upd H' p (.lst (bs.map V.int ++ [.int x]))) ∧ (upd H' p (.lst (bs.map V.int ++ [.int x]))) p = some (.lst (bs'.map V.int)) ∧ bs'.length = i + 1 ∧ (∀ x ∈ bs', 0 ≤ x ∧ x < 10 ^ 20) := by
        intro x σ' hx0 hx1 e
        refine ⟨_, _, bs ++ [x], e, fun c o q => ?_, by rw [upd_same, List.map_append]; rfl, by rw [List.length_append, hbl]; rfl, fun y hy => ?_⟩
        · rw [upd_ne (ne_of_none q hp)]
          exact sm _ _ q
        · rcases List.mem_append.mp hy with hy | hy
          · exact hb y hy
          · rw [List.mem_singleton.mp hy]
            exact ⟨hx0, hx1⟩
      have hsz : (bs.map V.int).length < sizeLine := by rw [List.length_map]; exact small64 (by omega)
      refine ⟨_, rfl, rfl, _, rfl, ite2 (fun _ => ?_) (fun _ => ?_)⟩
      · refine ⟨_, rfl, .inl ⟨rfl, _, SqL.of hP⟩, _, rfl, _, _, rfl, rfl, (show (0 : Int) < 40 by decide), p, _, _, rfl, rfl, hP, hsz, ?_⟩
        exact fin _ _ (by omega) (by omega) rfl
      · refine ⟨_, rfl, rfl, _, rfl, ite2 (fun _ => ?_) (fun _ => ?_)⟩
        · refine ⟨_, rfl, .inl ⟨rfl, _, SqL.of hP⟩, _, rfl, _, _, rfl, rfl, ⟨by decide, by decide, by decide⟩, _, _, rfl, rfl, (by decide : (0 : Int) < 10 ^ (20 : Int).toNat), p, _, _, rfl, rfl, hP, hsz, ?_⟩
          exact fin _ _ (Int.emod_nonneg _ (by decide)) (Int.emod_lt_of_pos _ (by decide)) rfl
        · refine ⟨_, rfl, rfl, _, rfl, ite2 (fun _ => ?_) (fun _ => ?_)⟩
          · refine ⟨_, rfl, .inl ⟨rfl, _, SqL.of hP⟩, _, rfl, _, _, rfl, rfl, (show (0 : Int) < 3 by decide), p, _, _, rfl, rfl, hP, hsz, ?_⟩
            exact fin _ _ (by omega) (by omega) rfl
          · refine ⟨_, rfl, .inl ⟨rfl, _, SqL.of hP⟩, _, rfl, _, _, rfl, rfl, (show (0 : Int) < 13 by decide), p, _, _, rfl, rfl, hP, hsz, ?_⟩
            exact fin _ _ (by omega) (by omega) rfl
    · rintro σ H' ⟨v, u, bs, rfl, sm, hP, hbl, hb⟩
      exact ⟨_, rfl, k bs ⟨hbl, fun x hx => (hb x hx).1⟩ (fun x hx => (hb x hx).2) H' p sm hp hP⟩
end
end CB
namespace CB
open PySem PySem.Spec PyProof.Rows L2
abbrev s_law_is_list : Stmt := top 23
abbrev N_law_is_list : List Str := ["found", "due", "k"]
theorem sc_law_is_list : FnScope N_law_is_list ["found", "due"] (defScope s_law_is_list) := ⟨rfl, rfl, rfl, by decide +kernel, rfl, by decide +kernel, by decide +kernel⟩
end CB

namespace CB
open PySem PySem.Spec PyProof.Rows L2
def sp_law_is_list (K : PySem.W.Frag) (_ : Str → Option Value) : Sp := fun vs H Q _ => ∃ (a b : Addr) (xs : List Int), vs = [.ref a, .ref b] ∧ H a = some (.lst (xs.map V.int)) ∧ SqL K H b (xs.map V.int) ∧ xs.length ≤ 100000 ∧ Q (.bl true) H
section
variable {P : Program} {w : World} {K : PySem.W.Frag} {mg : Str → Option Value} {base : Heap}
theorem ok_law_is_list {f : Addr} {fd : FuncData} (F : Fun K "_law_is_list" "_law_is_list" s_law_is_list f fd) (B : Bi mg) (c_law_whole : Callee P w K mg base 1 "_law_whole" ["found"] (sp_law_whole K mg)) :
    FnOk P w K mg base (L2.CX P w) 2 f fd ["found", "due"] (sp_law_is_list K mg) := by
  refine F.okX sc_law_is_list (fun vs H Q E h => ?_) (fun cdv A outer s H vs Q E hr h => ?_)
  · obtain ⟨a, b, xs, rfl, _⟩ := h
    rfl
  · obtain ⟨a, b, xs, rfl, hA, hB, hl, q⟩ := h
    refine ⟨_, (pss_cons (ps_if (pw_or (pt_not (pt_val (pe_callB call_isi (by rfl) B.isinstance (by decide +kernel) (pa_cons (pv 0) (pa_cons (pe_bltn (v := .ty "list") (by rfl) B.list (by decide +kernel) rfl) pa_nil))))) (pw_or1 (pt_cmpR op_ne (pe_callB call_len_seq (by rfl) B.len PySem.boot_len (pa_cons (pv 0) pa_nil)) (pe_callB call_len_seq (by rfl) B.len PySem.boot_len (pa_cons (pv 1) pa_nil)) (nomark _)))).pt (pss_one (ps_ret pe_bl)) pss_nil)
  (pss_cons (ps_for (passes_of rfl) rfl (pi_range1 (by rfl) B.range (pa_cons (pe_callB call_len_seq (by rfl) B.len PySem.boot_len (pa_cons (pv 1) pa_nil)) pa_nil)) (pg_name (i := 2) sc_law_is_list.nd rfl (Or.inl rfl)) (pss_one (ps_if (pw_or (pt_not (pt_val (pe_f c_law_whole hr (by decide) takes0 (pa_cons (pe_ix ix_list (pv 0) (pv 2) (fun _ _ => rfl)) pa_nil)))) (pw_or1 (pt_cmpR op_ne (pe_ix ix_list (pv 0) (pv 2) (fun _ _ => rfl)) (pe_ix ix_list (pv 1) (pv 2) (fun _ _ => rfl)) (nomark _)))).pt (pss_one (ps_ret pe_bl)) pss_nil)))
  (pss_one (ps_ret pe_bl)))), ?_⟩
    refine ⟨_, rfl, _, _, .type "list", _, true, rfl, .ty _, .base (.lst hA), kit_ty (by decide +kernel), _, rfl, ite_f rfl ?_⟩
    refine ⟨_, rfl, a, _, rfl, .inl (SqL.of hA), _, rfl, b, _, rfl, .inl hB, rfl, _, rfl, ite_f (by simp) ?_⟩
    refine ⟨_, rfl, b, _, rfl, .inl hB, _, rfl, by rw [List.length_map]; omega, by rw [List.length_map]; omega, ?_⟩
    rw [List.length_map, Int.toNat_natCast]
    refine for_range (fun i σ H' => H' = H ∧ ∃ v, σ = [some (.ref a), some (.ref b), v]) ⟨rfl, none, rfl⟩ ?_ ?_
    · rintro i σ H' hi ⟨rfl, v, rfl⟩
      have h0 : xs[i]? = some xs[i] := List.getElem?_eq_getElem hi
      have h1 : atI (xs.map V.int) (0 + (i : Int)) = some (.int xs[i]) := at_of (j := i) (by omega) (map_get h0)
      refine ⟨_, rfl, _, rfl, a, _, _, _, rfl, rfl, SqL.of hA, h1, _, rfl, _, rfl, ite_f rfl ?_⟩
      refine ⟨_, rfl, _, rfl, a, _, _, _, rfl, rfl, SqL.of hA, h1, _, rfl, _, rfl, b, _, _, _, rfl, rfl, hB, h1, rfl, _, rfl, ite_f (by simp) ?_⟩
      exact ⟨rfl, _, rfl⟩
    · rintro σ H' ⟨rfl, v, rfl⟩
      exact q
end
end CB
namespace CB
open PySem PySem.Spec PyProof.Rows L2
abbrev s_law_worth : Stmt := top 22
abbrev N_law_worth : List Str := ["ratios", "board", "total", "k"]
theorem sc_law_worth : FnScope N_law_worth ["ratios", "board"] (defScope s_law_worth) := ⟨rfl, rfl, rfl, by decide +kernel, rfl, by decide +kernel, by decide +kernel⟩
end CB

namespace CB
open PySem PySem.Spec PyProof.Rows L2
def sp_law_worth (K : PySem.W.Frag) (_ : Str → Option Value) : Sp := fun vs H Q _ => ∃ (a b : Addr) (rs bs : List Int), vs = [.ref a, .ref b] ∧ SqL K H a (rs.map V.int) ∧ SqL K H b (bs.map V.int) ∧
  GF rs ∧ GB rs bs ∧ BS bs ∧ Q (.int (W rs bs)) H
section
variable {P : Program} {w : World} {K : PySem.W.Frag} {mg : Str → Option Value} {base : Heap}
theorem ok_law_worth {f : Addr} {fd : FuncData} (F : Fun K "_law_worth" "_law_worth" s_law_worth f fd) (B : Bi mg) : FnOk P w K mg base (L2.CX P w) 1 f fd ["ratios", "board"] (sp_law_worth K mg) := by
  refine F.okX sc_law_worth (fun vs H Q E h => ?_) (fun cdv A outer s H vs Q E hr h => ?_)
  · obtain ⟨a, b, rs, bs, rfl, _⟩ := h
    rfl
  · obtain ⟨a, b, rs, bs, rfl, hA, hB, g, gb, hs, q⟩ := h
    refine ⟨_, (pss_cons (ps_set (i := 2) sc_law_worth.nd rfl (Or.inl rfl) pe_int)
  (pss_cons (ps_for (passes_of rfl) rfl (pi_revR (by rfl) B.reversed (prg_1 (by rfl) B.range (pe_callB call_len_seq (by rfl) B.len PySem.boot_len (pa_cons (pv 1) pa_nil)))) (pg_name (i := 3) sc_law_worth.nd rfl (Or.inl rfl)) (pss_one (ps_set (i := 2) sc_law_worth.nd rfl (Or.inl rfl) (pe_op op_add (pe_op op_mulW (pv 2) (pe_ifExp (pt_cmpR op_lt (pv 3) (pe_callB call_len_seq (by rfl) B.len PySem.boot_len (pa_cons (pv 0) pa_nil)) (nomark _)) (pe_ix ix_list (pv 0) (pv 3) (fun _ _ => rfl)) pe_int)) (pe_ix ix_list (pv 1) (pv 3) (fun _ _ => rfl))))))
  (pss_one (ps_ret (pv 2))))), ?_⟩
    have hn := gb.1
    have g11 := g.1
    refine ⟨_, rfl, b, _, rfl, .inl hB, _, rfl, by decide, by decide, by rw [List.length_map]; omega, by rw [List.length_map]; omega, ?_⟩
    rw [List.length_map, hn]
    rw [show (((rs.length + 1 : Nat) : Int) - 0).toNat = rs.length + 1 by omega]
    refine for_rangeC (fun i σ H' => ∃ (v : Option V), σ = [some (.ref a), some (.ref b), some (.int (W (rs.drop (rs.length + 1 - i)) (bs.drop (rs.length + 1 - i)))), v] ∧ H' = H)
      ⟨none, ?_, rfl⟩ ?_ ?_
    · have e1 : rs.drop (rs.length + 1 - 0) = [] := List.drop_eq_nil_of_le (by omega)
      have e2 : bs.drop (rs.length + 1 - 0) = [] := List.drop_eq_nil_of_le (by omega)
      rw [e1, e2]
      rfl
    · rintro i σ H' hi ⟨v, rfl, rfl⟩
      obtain ⟨k, hk⟩ : ∃ k, k = rs.length - i := ⟨_, rfl⟩
      have ek : rs.length + 1 - i = k + 1 := by omega
      have ek2 : rs.length + 1 - (i + 1) = k := by omega
      rw [ek, ek2]
      have ex : (0 + (((rs.length + 1 : Nat) : Int) - 0).toNat - 1 + ((i : Nat) : Int) * -1) = (k : Int) := by omega
      have ex' : (0 : Int) + ((rs.length + 1 : Nat) : Int) - 1 + ((i : Nat) : Int) * -1 = (k : Int) := by omega
      rw [ex']
      have hkb : k < bs.length := by omega
      have eb : bs.drop k = bs[k] :: bs.drop (k + 1) := List.drop_eq_getElem_cons hkb
      have hb : atI (bs.map V.int) (k : Int) = some (.int bs[k]) := atI_nat (map_get (List.getElem?_eq_getElem hkb))
      have w0 : 0 ≤ W (rs.drop (k + 1)) (bs.drop (k + 1)) ∧ W (rs.drop (k + 1)) (bs.drop (k + 1)) < 2 ^ 250 :=
        W_small ⟨by rw [List.length_drop]; omega, fun r hr => g.2 r (List.mem_of_mem_drop hr)⟩ (fun x hx => gb.2 x (List.mem_of_mem_drop hx)) (fun x hx => hs x (List.mem_of_mem_drop hx))
      refine ⟨_, rfl, _, rfl, _, rfl, a, _, rfl, .inl hA, _, _, rfl, rfl, _, rfl, ?_⟩
      rw [List.length_map]
      by_cases c : k < rs.length
      · have er : rs.drop k = rs[k] :: rs.drop (k + 1) := List.drop_eq_getElem_cons c
        have gz := g.2 rs[k] (List.getElem_mem c)
        refine ite_t (decide_eq_true (by omega)) ⟨_, rfl, _, rfl, a, _, _, _, rfl, rfl, hA, atI_nat (map_get (List.getElem?_eq_getElem c)), _, _, rfl, rfl, ?_, ?_⟩
        · exact wide_mul (a := 250) (b := 40) (abs_lt_pow w0.1 w0.2) (abs_lt_pow (by omega) (by omega)) (by decide) (by decide) (by decide)
        · refine ⟨_, rfl, _, rfl, b, _, _, _, rfl, rfl, hB, hb, _, _, rfl, rfl, some (.int (k : Int)), ?_, rfl⟩
          rw [er, eb]
          show [some (V.ref a), some (V.ref b), some (V.int (W (rs.drop (k + 1)) (bs.drop (k + 1)) * rs[k] + bs[k])), some (V.int (k : Int))] = [some (V.ref a), some (V.ref b), some (V.int (bs[k] + rs[k] * W (rs.drop (k + 1)) (bs.drop (k + 1)))), _]
          rw [Int.mul_comm rs[k], Int.add_comm]
      · have er : rs.drop k = [] := List.drop_eq_nil_of_le (by omega)
        have er' : rs.drop (k + 1) = [] := List.drop_eq_nil_of_le (by omega)
        have eb' : bs.drop (k + 1) = [] := List.drop_eq_nil_of_le (by omega)
        refine ite_f (decide_eq_false (by omega)) ⟨_, _, rfl, rfl, ?_, ?_⟩
        · exact wide_mul (a := 250) (b := 40) (abs_lt_pow w0.1 w0.2) (by decide) (by decide) (by decide) (by decide)
        · refine ⟨_, rfl, _, rfl, b, _, _, _, rfl, rfl, hB, hb, _, _, rfl, rfl, some (.int (k : Int)), ?_, rfl⟩
          rw [er, eb, er', eb']
          show [some (V.ref a), some (V.ref b), some (V.int (0 * 1 + bs[k])), some (V.int (k : Int))] = [some (V.ref a), some (V.ref b), some (V.int bs[k]), _]
          rw [Int.zero_mul, Int.zero_add]
    · rintro σ H' ⟨v, rfl, rfl⟩
      rw [Nat.sub_self]
      exact ⟨_, rfl, q⟩
end
end CB
namespace CB
open PySem PySem.Spec PyProof.Rows L2
theorem no_err (P : Program) (w : World) (H : Hp) (s : Shared) (e : Value) (s' : Shared) : L2.CX P w [] H s (fun _ _ _ => False) e s' → False := fun h => by
  obtain ⟨_, _, _, _, _, _, _, _, _, _, _, _, z⟩ := h
  exact z
end CB
namespace CB
open PySem PySem.Spec PyProof.Rows L2
abbrev s_law : Stmt := top 24
abbrev N_law : List Str := ["script", "ratios", "board", "number", "handed", "found", "one", "left", "again", "k"]
theorem sc_law : FnScope N_law ["script"] (defScope s_law) := ⟨rfl, rfl, rfl, by decide +kernel, rfl, by decide +kernel, by decide +kernel⟩
end CB

namespace CB
open PySem PySem.Spec PyProof.Rows L2
def sp_law (K : PySem.W.Frag) : Sp := fun vs H Q _ => ∃ (a : Addr) (ns : List Int), vs = [.ref a] ∧ SqL K H a (ns.map V.int) ∧ ns.length ≤ 63 ∧ ∀ H', Q (.bl true) H'
section
variable {P : Program} {w : World} {K : PySem.W.Frag} {mg : Str → Option Value} {base : Heap}
theorem ok_law {f : Addr} {fd : FuncData} (F : Fun K "law" "law" s_law f fd) (B : Bi mg) (c_law_frame_by : Callee P w K mg base 2 "_law_frame_by" ["script"] (sp_law_frame_by K mg))
    (c_law_board_by : Callee P w K mg base 2 "_law_board_by" ["script", "first", "ratios", "kind"] (sp_law_board_by K mg)) (c_law_cell_at : Callee P w K mg base 1 "_law_cell_at" ["script", "k"] (sp_law_cell_at K mg))
    (c_parted : Callee P w K mg base 4 "parted" ["ratios", "board", "number"] (sp_parted K mg)) (c_added : Callee P w K mg base 4 "added" ["ratios", "one", "other"] (sp_added K mg)) (c_times : Callee P w K mg base 4 "times" ["ratios", "board", "number"] (sp_times K mg))
    (c_board_of : Callee P w K mg base 2 "board_of" ["ratios", "number"] (sp_board_of K mg)) (c_plain : Callee P w K mg base 4 "plain" ["ratios", "board"] (sp_plain K mg))
    (c_law_whole : Callee P w K mg base 1 "_law_whole" ["found"] (sp_law_whole K mg)) (c_law_worth : Callee P w K mg base 1 "_law_worth" ["ratios", "board"] (sp_law_worth K mg))
    (c_law_is_list : Callee P w K mg base 2 "_law_is_list" ["found", "due"] (sp_law_is_list K mg)) :
    FnOk P w K mg base (L2.CX P w) 5 f fd ["script"] (sp_law K) := by
  refine F.okX sc_law (fun vs H Q E h => ?_) (fun cdv A outer s H vs Q E hr h => ?_)
  · obtain ⟨a, ns, rfl, _⟩ := h
    rfl
  · obtain ⟨a, ns, rfl, hS, _, q⟩ := h
    refine ⟨_, (pss_cons (ps_set (i := 1) sc_law.nd rfl (Or.inr rfl) (pe_f c_law_frame_by hr (by decide) takes0 (pa_cons (pv 0) pa_nil)))
  (pss_cons (ps_set (i := 2) sc_law.nd rfl (Or.inl rfl) (pe_f c_law_board_by hr (by decide) takes0 (pa_cons (pv 0) (pa_cons pe_int (pa_cons (pv 1) (pa_cons (pe_op op_mod (pe_f c_law_cell_at hr (by decide) takes0 (pa_cons (pv 0) (pa_cons pe_int pa_nil))) pe_int) pa_nil))))))
  (pss_cons (ps_set (i := 3) sc_law.nd rfl (Or.inl rfl) (pe_op op_add pe_int (pe_op op_mod (pe_f c_law_cell_at hr (by decide) takes0 (pa_cons (pv 0) (pa_cons pe_int pa_nil))) (pe_ix ix_list (pe_lst (pa_cons pe_int (pa_cons (pe_op op_sub (pe_op op_pow pe_int pe_int) pe_int) pa_nil))) (pe_op op_mod (pe_f c_law_cell_at hr (by decide) takes0 (pa_cons (pv 0) (pa_cons pe_int pa_nil))) pe_int) (fun _ _ => rfl)))))
  (pss_cons (ps_set (i := 4) sc_law.nd rfl (Or.inl rfl) (pe_callTy call_list_of (by rfl) B.list (by decide +kernel) (pa_cons (pv 2) pa_nil)))
  (pss_cons (ps_set (i := 5) sc_law.nd rfl (Or.inl rfl) (pe_f c_parted hr (by decide) takes0 (pa_cons (pe_callTy call_list_of (by rfl) B.list (by decide +kernel) (pa_cons (pv 1) pa_nil)) (pa_cons (pv 4) (pa_cons (pv 3) pa_nil)))))
  (pss_cons (ps_if (pw_or (pt_not (pt_val (pe_callB call_isi (by rfl) B.isinstance (by decide +kernel) (pa_cons (pv 5) (pa_cons (pe_bltn (v := .ty "tuple") (by rfl) B.tuple (by decide +kernel) rfl) pa_nil))))) (pw_or (pt_cmpR op_ne (pe_callB call_len_seq (by rfl) B.len PySem.boot_len (pa_cons (pv 5) pa_nil)) pe_int (nomark _)) (pw_or1 (pt_cmpR (op_neD hr.units) (pv 4) (pv 2) (nomark _))))).pt (pss_one (ps_ret pe_bl)) pss_nil)
  (pss_cons (ps_asg (pv 5) (pg_tup rfl (pgs_cons (pg_name (i := 6) sc_law.nd rfl (Or.inr rfl)) (pgs_cons (pg_name (i := 7) sc_law.nd rfl (Or.inl rfl)) pgs_nil))))
  (pss_cons (ps_if (pw_or (pt_not (pt_val (pe_f c_law_is_list hr (by decide) takes0 (pa_cons (pv 6) (pa_cons (pe_callTy call_list_of (by rfl) B.list (by decide +kernel) (pa_cons (pv 6) pa_nil)) pa_nil))))) (pw_or (pt_cmpR op_ne (pe_callB call_len_seq (by rfl) B.len PySem.boot_len (pa_cons (pv 6) pa_nil)) (pe_callB call_len_seq (by rfl) B.len PySem.boot_len (pa_cons (pv 2) pa_nil)) (nomark _)) (pw_or1 (pt_cmpR op_lt (pe_callB (cr_min rfl) (by rfl) B.min (by decide +kernel) (pa_cons (pv 6) pa_nil)) pe_int (nomark _))))).pt (pss_one (ps_ret pe_bl)) pss_nil)
  (pss_cons (ps_if (pt_cmpR op_gt (pe_callB call_len_seq (by rfl) B.len PySem.boot_len (pa_cons (pe_lc (own := [("k", 9)]) (g := gName 9) rfl sc_law.nd (pi_range1 (by rfl) B.range (pa_cons (pe_callB call_len_seq (by rfl) B.len PySem.boot_len (pa_cons (pv 1) pa_nil)) pa_nil)) (blkOk_by (own := [("k", 9)]) (N := N_law) (sc := defScope s_law) (by decide +kernel)) (fun _ _ _ _ _ => pg_name (i := 9) sc_law.nd rfl (Or.inl rfl)) (fun _ _ _ _ _ => (pts_one (pt_cmpR op_ge (pe_ix (ix_listK K rfl) (pv 6) (pv 9) (fun _ _ => rfl)) (pe_ix (ix_listK K rfl) (pv 1) (pv 9) (fun _ _ => rfl)) (nomark _)))) (fun _ _ _ _ _ => (pv 9))) pa_nil)) pe_int (nomark _)) (pss_one (ps_ret pe_bl)) pss_nil)
  (pss_cons (ps_if (pw_or (pt_not (pt_val (pe_f c_law_whole hr (by decide) takes0 (pa_cons (pv 7) pa_nil)))) (pw_or (pt_cmpR op_lt (pv 7) pe_int (nomark _)) (pw_or1 (pt_cmpR op_ge (pv 7) (pv 3) (nomark _))))).pt (pss_one (ps_ret pe_bl)) pss_nil)
  (pss_cons (ps_if (pt_cmpR op_ne (pe_op op_add (pe_op op_mulW (pe_f c_law_worth hr (by decide) takes0 (pa_cons (pv 1) (pa_cons (pv 6) pa_nil))) (pv 3)) (pv 7)) (pe_f c_law_worth hr (by decide) takes0 (pa_cons (pv 1) (pa_cons (pv 2) pa_nil))) (nomark _)) (pss_one (ps_ret pe_bl)) pss_nil)
  (pss_cons (ps_set (i := 8) sc_law.nd rfl (Or.inl rfl) (pe_f c_added hr (by decide) takes0 (pa_cons (pv 1) (pa_cons (pe_f c_times hr (by decide) takes0 (pa_cons (pv 1) (pa_cons (pv 6) (pa_cons (pv 3) pa_nil)))) (pa_cons (pe_f c_board_of hr (by decide) takes0 (pa_cons (pv 1) (pa_cons (pv 7) pa_nil))) pa_nil)))))
  (pss_cons (ps_asg (pe_op op_add (pe_ix ix_list (pv 6) pe_int (fun _ _ => rfl)) pe_int) (pg_sub (pv 6) pe_int set_list))
  (pss_one (ps_ret (pe_and (pe_cmpR (op_eqD hr.units) (pv 8) (pe_f c_plain hr (by decide) takes0 (pa_cons (pv 1) (pa_cons (pv 2) pa_nil))) (nomark _)) (pe_one (pe_cmpR (op_eqD hr.units) (pv 4) (pv 2) (nomark _))))))))))))))))))), ?_⟩
    refine ⟨.ref a, rfl, a, ns, rfl, hS, fun rs g H1 p1 s1 n1 e1 => ?_⟩
    refine ⟨_, rfl, _, rfl, _, rfl, a, ns, 1, rfl, s1.seq hS, by decide, _, _, rfl, rfl, (show (0 : Int) < 4 by decide), ?_⟩
    refine ⟨a, p1, ns, rs, 13, _, rfl, s1.seq hS, SqL.of e1, g.1, by decide, fun bs gb hb H2 p2 s2 n2 e2 => ?_⟩
    have hbs := bs_of20 hb
    have hbn := gb.1
    have g11 := g.1
    obtain ⟨hw0, hw1⟩ := small20 g gb hb
    have s02 := s1.trans s2
    have k1 := s2 _ _ e1
    -- number
    refine ⟨_, rfl, a, ns, 40, rfl, s02.seq hS, by decide, ?_⟩
    refine ⟨_, _, rfl, rfl, ⟨by decide, by decide, by decide⟩, _, _, rfl, rfl, by show 2 ≤ sizeLine; decide, fun x1 y1 => ?_⟩
    have t1 := same_upd (o := .lst [V.int 30, V.int (10 ^ (20 : Int).toNat - 1)]) y1
    have f1 := t1 _ _ k1
    have f2 := t1 _ _ e2
    have f3 := upd_same (H := H2) (a := x1) (o := .lst [V.int 30, V.int (10 ^ (20 : Int).toNat - 1)])
    have s03 := s02.trans t1
    generalize upd H2 x1 (.lst [V.int 30, V.int (10 ^ (20 : Int).toNat - 1)]) = H3 at f1 f2 f3 s03
    obtain ⟨m, hm, hat⟩ := pick2 (x := 30) (y := 10 ^ (20 : Int).toNat - 1) (mod2 (cell ns 41))
    have hm0 : 0 < m ∧ m ≤ 10 ^ 20 := by
      rcases hm with rfl | rfl
      · decide
      · decide
    refine ⟨_, rfl, a, ns, 41, rfl, s03.seq hS, by decide, _, _, rfl, rfl, (show (0 : Int) < 2 by decide), x1, _, _, _, rfl, rfl, SqL.of f3, hat, _, _, rfl, rfl, hm0.1, _, _, rfl, rfl, ?_⟩
    obtain ⟨n, en⟩ : ∃ n, n = 1 + cell ns 40 % m := ⟨_, rfl⟩
    have hn1 : 1 ≤ n := by
      have := Int.emod_nonneg (cell ns 40) (show m ≠ 0 by omega)
      omega
    have hn2 : n < 2 ^ 200 := by
      have h1 := Int.emod_lt_of_pos (cell ns 40) hm0.1
      have h2 : (10 : Int) ^ 20 + 1 < 2 ^ 200 := by decide
      omega
    show tSeq _ _ _ [some (V.ref a), some (V.ref p1), some (V.ref p2), some (V.int (1 + cell ns 40 % m)), none, none, none, none, none, none] H3
    rw [← en]
    -- handed
    refine ⟨_, rfl, p2, _, rfl, .inl (SqL.of f2), fun x2 y2 => ?_⟩
    have t2 := same_upd (o := .lst (bs.map V.int)) y2
    refine ⟨_, rfl, p1, _, rfl, .inl (SqL.of (t2 _ _ f1)), fun x3 y3 => ?_⟩
    have t3 := same_upd (o := .lst (rs.map V.int)) y3
    have t23 := t2.trans t3
    have f4 := t3 _ _ (upd_same (H := H3) (a := x2) (o := .lst (bs.map V.int)))
    refine ⟨_, rfl, _, rfl, x3, x2, rs, bs, n, rfl, SqL.of upd_same, SqL.of f4, fun _ _ => ⟨fun _ => ⟨hbs, hn2, fun H4 p4 t4 s4 n4 e4 et => ?_⟩, fun z => absurd hn1 z⟩, fun z => absurd g z, fun _ z => absurd gb z⟩
    have s34 := t23.trans s4
    have g1 := s34 _ _ f1
    have g2 := s34 _ _ f2
    have g5 := s4 _ _ f4
    obtain ⟨X, hX⟩ : ∃ X, X = W rs bs / n := ⟨_, rfl⟩
    have hX0 : 0 ≤ X := by rw [hX]; exact Int.ediv_nonneg hw0 (by omega)
    have hX1 : X ≤ W rs bs := by rw [hX]; exact Int.ediv_le_self _ hw0
    have hsum := Int.emod_add_mul_ediv (W rs bs) n
    have hl0 : 0 ≤ W rs bs % n := Int.emod_nonneg _ (by omega)
    have hl1 : W rs bs % n < n := Int.emod_lt_of_pos _ (by omega)
    rw [← hX] at e4 hsum
    have gd := D_GB rs X g.2 hX0
    have hdl := D_len rs X
    have hBd : BS (D rs X) := fun x hx => by
      have h1 := D_le rs X g.2 hX0 x hx
      have h2 : (2 : Int) ^ 150 < 2 ^ 200 := by decide
      omega
    -- the first tests
    refine ⟨_, rfl, _, _, .type "tuple", _, true, rfl, .ty _, .base (.tup et), kit_ty (by decide +kernel), _, rfl, ite_f rfl ?_⟩
    refine ⟨_, rfl, t4, _, rfl, .inr (SqT.of et), rfl, _, rfl, ite_f rfl ?_⟩
    refine ⟨_, rfl, _, rfl, _, _, dp_L (SqL.of g5), dp_L (SqL.of g2), shaped_dL _, shaped_dL _, _, rfl, ite_f (by rw [eqv_dL]; simp) ?_⟩
    -- one, left
    refine ⟨_, rfl, t4, _, rfl, SqT.of et, rfl, _, _, rfl, _, _, rfl, rfl, ?_⟩
    refine ⟨_, rfl, _, rfl, p4, _, rfl, .inl (SqL.of e4), fun x5 y5 => ?_⟩
    have t5 := same_upd (o := .lst ((D rs X).map V.int)) y5
    refine ⟨p4, x5, _, rfl, t5 _ _ e4, SqL.of upd_same, by omega, _, rfl, ite_f rfl ?_⟩
    have h1 := t5 _ _ g1
    have h2 := t5 _ _ g2
    have h4 := t5 _ _ e4
    have h5 := t5 _ _ g5
    have d1 : p1 ≠ p4 := ne_of_none (t23 _ _ f1) n4
    have d2 : p2 ≠ p4 := ne_of_none (t23 _ _ f2) n4
    have d5 : x2 ≠ p4 := ne_of_none f4 n4
    generalize upd H4 x5 (.lst ((D rs X).map V.int)) = H5 at h1 h2 h4 h5
    refine ⟨_, rfl, p4, _, rfl, .inl (SqL.of h4), _, rfl, p2, _, rfl, .inl (SqL.of h2), rfl, _, rfl, ite_f (by rw [List.length_map, List.length_map, hdl, hbn]; simp) ?_⟩
    refine ⟨_, rfl, p4, _, rfl, SqL.of h4, by omega, fun mn hmn _ => ?_⟩
    have hmn0 := gd.2 mn hmn
    refine ⟨_, _, rfl, rfl, _, rfl, ite_f (decide_eq_false (by omega)) ?_⟩
    refine ⟨_, rfl, p1, _, rfl, .inl (SqL.of h1), _, rfl, by rw [List.length_map]; omega, by rw [List.length_map]; omega, fun T hT => ?_⟩
    rw [List.length_map, Int.toNat_natCast]
    refine lc_range (lo := 0) (n := rs.length) (fun i H' => Same H5 H' ∧ H' T = some (.lst [])) ⟨same_upd hT, upd_same⟩ ?_ ?_
    · rintro i H' hi ⟨sm, hk⟩
      have hib : i < (D rs X).length := by omega
      have a1 : atI (rs.map V.int) (0 + (i : Int)) = some (.int rs[i]) := at_of (j := i) (by omega) (map_get (List.getElem?_eq_getElem hi))
      have a2 : atI ((D rs X).map V.int) (0 + (i : Int)) = some (.int (D rs X)[i]) := at_of (j := i) (by omega) (map_get (List.getElem?_eq_getElem hib))
      have hpl := (Pl_iff _ _).mp (D_Pl rs X g.2) i _ _ (List.getElem?_eq_getElem hi) (List.getElem?_eq_getElem hib)
      refine ⟨rfl, _, rfl, _, rfl, p4, _, _, _, rfl, rfl, SqL.of (sm _ _ h4), a2, _, rfl, _, rfl, p1, _, _, _, rfl, rfl, SqL.of (sm _ _ h1), a1, _, _, rfl, rfl, _, rfl, ite_f (decide_eq_false (by omega)) ?_⟩
      exact ⟨sm, hk⟩
    · rintro H6 ⟨s6, hk⟩
      refine ⟨T, _, rfl, .inl (SqL.of hk), _, _, rfl, rfl, _, rfl, ite_f rfl ?_⟩
      have v1 := s6 _ _ h1
      have v2 := s6 _ _ h2
      have v4 := s6 _ _ h4
      have v5 := s6 _ _ h5
      -- left
      refine ⟨_, rfl, _, rfl, _, rfl, ite_f rfl ?_⟩
      refine ⟨_, rfl, _, _, rfl, rfl, _, rfl, ite_f (decide_eq_false (by omega)) ?_⟩
      refine ⟨_, rfl, _, rfl, _, _, rfl, rfl, _, rfl, ite_f (decide_eq_false (by omega)) ?_⟩
      -- the worths
      have hXn0 : 0 ≤ X * n := Int.mul_nonneg hX0 (by omega)
      refine ⟨_, rfl, _, rfl, p1, p4, rs, _, rfl, SqL.of v1, SqL.of v4, g, gd, hBd, ?_⟩
      rw [D_W rs X g.2]
      refine ⟨_, rfl, _, _, rfl, rfl, wide_mul (a := 200) (b := 200) (abs_lt_pow hX0 (by have h2 : (2 : Int) ^ 150 < 2 ^ 200 := (by decide); omega)) (abs_lt_pow (by omega) hn2) (by decide) (by decide) (by decide), _, rfl, _, _, rfl, rfl, ?_⟩
      have hmc := Int.mul_comm X n
      refine ⟨_, rfl, _, rfl, p1, p2, rs, bs, rfl, SqL.of v1, SqL.of v2, g, gb, hbs, rfl, _, rfl, ite_f ?_ ?_⟩
      · have e : X * n + W rs bs % n = W rs bs := by omega
        show (!decide (V.int (X * n + W rs bs % n) = V.int (W rs bs))) = false
        rw [e]
        simp
      · -- again
        refine ⟨_, rfl, _, rfl, _, rfl, _, rfl, p1, p4, rs, _, n, rfl, SqL.of v1, SqL.of v4, fun _ _ => ⟨fun _ => ⟨hBd, hn2, fun H7 p7 s7 n7 e7 => ?_⟩, fun z => absurd (show 0 ≤ n by omega) z⟩, fun z => absurd g z, fun _ z => absurd gd z⟩
        rw [D_W rs X g.2] at e7
        refine ⟨_, rfl, _, rfl, p1, _, rs, rfl, SqL.of (s7 _ _ v1), fun _ _ H8 p8 s8 n8 e8 => ?_, fun z => absurd g z, fun _ z => absurd hl0 z⟩
        have s78 := s7.trans s8
        have gxn := D_GB rs (X * n) g.2 hXn0
        have gl := D_GB rs (W rs bs % n) g.2 hl0
        have hBxn : BS (D rs (X * n)) := fun x hx => by
          have h1 := D_le rs (X * n) g.2 hXn0 x hx
          have h2 : (2 : Int) ^ 150 < 2 ^ 200 := by decide
          omega
        have hBl : BS (D rs (W rs bs % n)) := fun x hx => by
          have h1 := D_le rs (W rs bs % n) g.2 hl0 x hx
          omega
        refine ⟨p1, p7, p8, rs, _, _, rfl, SqL.of (s78 _ _ v1), SqL.of (s8 _ _ e7), SqL.of e8, Two.good g gxn gl hBxn hBl (fun H9 p9 s9 n9 e9 => ?_)⟩
        rw [D_W rs _ g.2, D_W rs _ g.2, show X * n + W rs bs % n = W rs bs by omega] at e9
        have s79 := s78.trans s9
        have w1 := s79 _ _ v1
        have w2 := s79 _ _ v2
        have w4 := s79 _ _ v4
        have w5 := s79 _ _ v5
        -- one[0] = one[0] + 1
        obtain ⟨y, ys, hy⟩ := D_cons rs X
        refine ⟨_, rfl, p4, _, 0, .int y, rfl, rfl, SqL.of w4, at_of (j := 0) rfl (by rw [hy]; rfl), _, _, rfl, rfl, _, rfl, p4, _, 0, 0, rfl, rfl, w4, ix_of rfl (by rw [List.length_map]; omega), ?_⟩
        have d9 : p4 ≠ p9 := ne_of_none (s78 _ _ v4) n9
        have z1 : (upd H9 p4 (.lst (((D rs X).map V.int).set 0 (V.int (y + 1))))) p1 = some (.lst (rs.map V.int)) := by rw [upd_ne d1]; exact w1
        have z2 : (upd H9 p4 (.lst (((D rs X).map V.int).set 0 (V.int (y + 1))))) p2 = some (.lst (bs.map V.int)) := by rw [upd_ne d2]; exact w2
        have z5 : (upd H9 p4 (.lst (((D rs X).map V.int).set 0 (V.int (y + 1))))) x2 = some (.lst (bs.map V.int)) := by rw [upd_ne d5]; exact w5
        have z9 : (upd H9 p4 (.lst (((D rs X).map V.int).set 0 (V.int (y + 1))))) p9 = some (.lst ((D rs (W rs bs)).map V.int)) := by rw [upd_ne d9.symm]; exact e9
        generalize upd H9 p4 (.lst (((D rs X).map V.int).set 0 (V.int (y + 1)))) = H10 at z1 z2 z5 z9
        refine ⟨_, rfl, _, rfl, _, rfl, p1, p2, rs, bs, rfl, SqL.of z1, SqL.of z2, fun _ _ => ⟨hbs, fun H11 p11 s11 n11 e11 => ?_⟩, fun z => absurd g z, fun _ z => absurd gb z⟩
        refine ⟨_, _, dp_L (SqL.of (s11 _ _ z9)), dp_L (SqL.of e11), shaped_dL _, shaped_dL _, _, rfl, ite_t (by rw [eqv_dL]; simp) ?_⟩
        refine ⟨_, rfl, _, rfl, _, _, dp_L (SqL.of (s11 _ _ z5)), dp_L (SqL.of (s11 _ _ z2)), shaped_dL _, shaped_dL _, ?_⟩
        rw [eqv_dL, decide_eq_true rfl]
        exact q _
end
end CB
namespace CB
open PySem PySem.Spec PyProof.Rows L2
theorem all_mk {l : PySem.W.OpenLaw} {w : World} {K : PySem.W.Frag} {h : Heap} {mg : Str → Option Value} {fa : Addr} (X : K.In h) (G : h.Ns mainGlobals mg) (hfa : mg "law" = some (.ref fa))
    {t_MOST : Tok}
    {C_NoFrame : Addr}
    {C_NoBoard : Addr}
    {C_NoNumber : Addr}
    {f_asked_frame : Addr} {od_asked_frame an_asked_frame : Option Addr} {sl_asked_frame : Array (Option Value)} {oc_asked_frame kV_asked_frame dc_asked_frame pm_asked_frame cd_asked_frame ct_asked_frame : Value}
    {f_asked_board : Addr} {od_asked_board an_asked_board : Option Addr} {sl_asked_board : Array (Option Value)} {oc_asked_board kV_asked_board dc_asked_board pm_asked_board cd_asked_board ct_asked_board : Value}
    {f_worths : Addr} {od_worths an_worths : Option Addr} {sl_worths : Array (Option Value)} {oc_worths kV_worths dc_worths pm_worths cd_worths ct_worths : Value}
    {f_worth : Addr} {od_worth an_worth : Option Addr} {sl_worth : Array (Option Value)} {oc_worth kV_worth dc_worth pm_worth cd_worth ct_worth : Value}
    {f_board_of : Addr} {od_board_of an_board_of : Option Addr} {sl_board_of : Array (Option Value)} {oc_board_of kV_board_of dc_board_of pm_board_of cd_board_of ct_board_of : Value}
    {f_plain : Addr} {od_plain an_plain : Option Addr} {sl_plain : Array (Option Value)} {oc_plain kV_plain dc_plain pm_plain cd_plain ct_plain : Value}
    {f_added : Addr} {od_added an_added : Option Addr} {sl_added : Array (Option Value)} {oc_added kV_added dc_added pm_added cd_added ct_added : Value}
    {f_times : Addr} {od_times an_times : Option Addr} {sl_times : Array (Option Value)} {oc_times kV_times dc_times pm_times cd_times ct_times : Value}
    {f_parted : Addr} {od_parted an_parted : Option Addr} {sl_parted : Array (Option Value)} {oc_parted kV_parted dc_parted pm_parted cd_parted ct_parted : Value}
    {f_law_cell_at : Addr} {od_law_cell_at an_law_cell_at : Option Addr} {sl_law_cell_at : Array (Option Value)} {oc_law_cell_at kV_law_cell_at dc_law_cell_at pm_law_cell_at cd_law_cell_at ct_law_cell_at : Value}
    {f_law_whole : Addr} {od_law_whole an_law_whole : Option Addr} {sl_law_whole : Array (Option Value)} {oc_law_whole kV_law_whole dc_law_whole pm_law_whole cd_law_whole ct_law_whole : Value}
    {f_law_frame_by : Addr} {od_law_frame_by an_law_frame_by : Option Addr} {sl_law_frame_by : Array (Option Value)} {oc_law_frame_by kV_law_frame_by dc_law_frame_by pm_law_frame_by cd_law_frame_by ct_law_frame_by : Value}
    {f_law_board_by : Addr} {od_law_board_by an_law_board_by : Option Addr} {sl_law_board_by : Array (Option Value)} {oc_law_board_by kV_law_board_by dc_law_board_by pm_law_board_by cd_law_board_by ct_law_board_by : Value}
    {f_law_worth : Addr} {od_law_worth an_law_worth : Option Addr} {sl_law_worth : Array (Option Value)} {oc_law_worth kV_law_worth dc_law_worth pm_law_worth cd_law_worth ct_law_worth : Value}
    {f_law_is_list : Addr} {od_law_is_list an_law_is_list : Option Addr} {sl_law_is_list : Array (Option Value)} {oc_law_is_list kV_law_is_list dc_law_is_list pm_law_is_list cd_law_is_list ct_law_is_list : Value}
    {f_law : Addr} {od_law an_law : Option Addr} {sl_law : Array (Option Value)} {oc_law kV_law dc_law pm_law cd_law ct_law : Value}
    (z_len : PySem.W.nsIn K mainGlobals "len" = some none)
    (z_list : PySem.W.nsIn K mainGlobals "list" = some none)
    (z_range : PySem.W.nsIn K mainGlobals "range" = some none)
    (z_isinstance : PySem.W.nsIn K mainGlobals "isinstance" = some none)
    (z_zip : PySem.W.nsIn K mainGlobals "zip" = some none)
    (z_reversed : PySem.W.nsIn K mainGlobals "reversed" = some none)
    (z_sum : PySem.W.nsIn K mainGlobals "sum" = some none)
    (z_all : PySem.W.nsIn K mainGlobals "all" = some none)
    (z_abs : PySem.W.nsIn K mainGlobals "abs" = some none)
    (z_max : PySem.W.nsIn K mainGlobals "max" = some none)
    (z_min : PySem.W.nsIn K mainGlobals "min" = some none)
    (z_str : PySem.W.nsIn K mainGlobals "str" = some none)
    (z_int : PySem.W.nsIn K mainGlobals "int" = some none)
    (z_bool : PySem.W.nsIn K mainGlobals "bool" = some none)
    (z_tuple : PySem.W.nsIn K mainGlobals "tuple" = some none)
    (z_ValueError : PySem.W.nsIn K mainGlobals "ValueError" = some none)
    (g_MOST : PySem.W.nsIn K mainGlobals "MOST" = some (some (.int 11 t_MOST)))
    (g_NoFrame : PySem.W.nsIn K mainGlobals "NoFrame" = some (some (.ref C_NoFrame)))
    (x_NoFrame : PySem.W.excIn K C_NoFrame [.type "ValueError", .type "Exception", .type "BaseException", .type "object"] "ValueError.__new__" = true)
    (k_NoFrame : PySem.W.keepIn K (.ref C_NoFrame) = true)
    (b_NoFrame : PySem.W.subIn K (.ref C_NoFrame) (.type "BaseException") = some true)
    (t_NoFrame : PySem.W.typeIn K (.ref C_NoFrame) = some (.type "type"))
    (g_NoBoard : PySem.W.nsIn K mainGlobals "NoBoard" = some (some (.ref C_NoBoard)))
    (x_NoBoard : PySem.W.excIn K C_NoBoard [.type "ValueError", .type "Exception", .type "BaseException", .type "object"] "ValueError.__new__" = true)
    (k_NoBoard : PySem.W.keepIn K (.ref C_NoBoard) = true)
    (b_NoBoard : PySem.W.subIn K (.ref C_NoBoard) (.type "BaseException") = some true)
    (t_NoBoard : PySem.W.typeIn K (.ref C_NoBoard) = some (.type "type"))
    (g_NoNumber : PySem.W.nsIn K mainGlobals "NoNumber" = some (some (.ref C_NoNumber)))
    (x_NoNumber : PySem.W.excIn K C_NoNumber [.type "ValueError", .type "Exception", .type "BaseException", .type "object"] "ValueError.__new__" = true)
    (k_NoNumber : PySem.W.keepIn K (.ref C_NoNumber) = true)
    (b_NoNumber : PySem.W.subIn K (.ref C_NoNumber) (.type "BaseException") = some true)
    (t_NoNumber : PySem.W.typeIn K (.ref C_NoNumber) = some (.type "type"))
    (a_asked_frame : PySem.W.nsIn K mainGlobals "asked_frame" = some (some (.ref f_asked_frame)))
    (l_asked_frame : K.lookup f_asked_frame = some ⟨oc_asked_frame, od_asked_frame, .func (PySem.W.fnOf "asked_frame" "asked_frame" (defArgs s_asked_frame) (defBody s_asked_frame) (defScope s_asked_frame) .none kV_asked_frame dc_asked_frame pm_asked_frame an_asked_frame cd_asked_frame ct_asked_frame), sl_asked_frame⟩)
    (c_asked_frame : PySem.W.codeIn K cd_asked_frame "asked_frame" = true)
    (p_asked_frame : PySem.W.keepIn K (.ref f_asked_frame) = true)
    (a_asked_board : PySem.W.nsIn K mainGlobals "asked_board" = some (some (.ref f_asked_board)))
    (l_asked_board : K.lookup f_asked_board = some ⟨oc_asked_board, od_asked_board, .func (PySem.W.fnOf "asked_board" "asked_board" (defArgs s_asked_board) (defBody s_asked_board) (defScope s_asked_board) .none kV_asked_board dc_asked_board pm_asked_board an_asked_board cd_asked_board ct_asked_board), sl_asked_board⟩)
    (c_asked_board : PySem.W.codeIn K cd_asked_board "asked_board" = true)
    (p_asked_board : PySem.W.keepIn K (.ref f_asked_board) = true)
    (a_worths : PySem.W.nsIn K mainGlobals "worths" = some (some (.ref f_worths)))
    (l_worths : K.lookup f_worths = some ⟨oc_worths, od_worths, .func (PySem.W.fnOf "worths" "worths" (defArgs s_worths) (defBody s_worths) (defScope s_worths) .none kV_worths dc_worths pm_worths an_worths cd_worths ct_worths), sl_worths⟩)
    (c_worths : PySem.W.codeIn K cd_worths "worths" = true)
    (p_worths : PySem.W.keepIn K (.ref f_worths) = true)
    (a_worth : PySem.W.nsIn K mainGlobals "worth" = some (some (.ref f_worth)))
    (l_worth : K.lookup f_worth = some ⟨oc_worth, od_worth, .func (PySem.W.fnOf "worth" "worth" (defArgs s_worth) (defBody s_worth) (defScope s_worth) .none kV_worth dc_worth pm_worth an_worth cd_worth ct_worth), sl_worth⟩)
    (c_worth : PySem.W.codeIn K cd_worth "worth" = true)
    (p_worth : PySem.W.keepIn K (.ref f_worth) = true)
    (a_board_of : PySem.W.nsIn K mainGlobals "board_of" = some (some (.ref f_board_of)))
    (l_board_of : K.lookup f_board_of = some ⟨oc_board_of, od_board_of, .func (PySem.W.fnOf "board_of" "board_of" (defArgs s_board_of) (defBody s_board_of) (defScope s_board_of) .none kV_board_of dc_board_of pm_board_of an_board_of cd_board_of ct_board_of), sl_board_of⟩)
    (c_board_of : PySem.W.codeIn K cd_board_of "board_of" = true)
    (p_board_of : PySem.W.keepIn K (.ref f_board_of) = true)
    (a_plain : PySem.W.nsIn K mainGlobals "plain" = some (some (.ref f_plain)))
    (l_plain : K.lookup f_plain = some ⟨oc_plain, od_plain, .func (PySem.W.fnOf "plain" "plain" (defArgs s_plain) (defBody s_plain) (defScope s_plain) .none kV_plain dc_plain pm_plain an_plain cd_plain ct_plain), sl_plain⟩)
    (c_plain : PySem.W.codeIn K cd_plain "plain" = true)
    (p_plain : PySem.W.keepIn K (.ref f_plain) = true)
    (a_added : PySem.W.nsIn K mainGlobals "added" = some (some (.ref f_added)))
    (l_added : K.lookup f_added = some ⟨oc_added, od_added, .func (PySem.W.fnOf "added" "added" (defArgs s_added) (defBody s_added) (defScope s_added) .none kV_added dc_added pm_added an_added cd_added ct_added), sl_added⟩)
    (c_added : PySem.W.codeIn K cd_added "added" = true)
    (p_added : PySem.W.keepIn K (.ref f_added) = true)
    (a_times : PySem.W.nsIn K mainGlobals "times" = some (some (.ref f_times)))
    (l_times : K.lookup f_times = some ⟨oc_times, od_times, .func (PySem.W.fnOf "times" "times" (defArgs s_times) (defBody s_times) (defScope s_times) .none kV_times dc_times pm_times an_times cd_times ct_times), sl_times⟩)
    (c_times : PySem.W.codeIn K cd_times "times" = true)
    (p_times : PySem.W.keepIn K (.ref f_times) = true)
    (a_parted : PySem.W.nsIn K mainGlobals "parted" = some (some (.ref f_parted)))
    (l_parted : K.lookup f_parted = some ⟨oc_parted, od_parted, .func (PySem.W.fnOf "parted" "parted" (defArgs s_parted) (defBody s_parted) (defScope s_parted) .none kV_parted dc_parted pm_parted an_parted cd_parted ct_parted), sl_parted⟩)
    (c_parted : PySem.W.codeIn K cd_parted "parted" = true)
    (p_parted : PySem.W.keepIn K (.ref f_parted) = true)
    (a_law_cell_at : PySem.W.nsIn K mainGlobals "_law_cell_at" = some (some (.ref f_law_cell_at)))
    (l_law_cell_at : K.lookup f_law_cell_at = some ⟨oc_law_cell_at, od_law_cell_at, .func (PySem.W.fnOf "_law_cell_at" "_law_cell_at" (defArgs s_law_cell_at) (defBody s_law_cell_at) (defScope s_law_cell_at) .none kV_law_cell_at dc_law_cell_at pm_law_cell_at an_law_cell_at cd_law_cell_at ct_law_cell_at), sl_law_cell_at⟩)
    (c_law_cell_at : PySem.W.codeIn K cd_law_cell_at "_law_cell_at" = true)
    (p_law_cell_at : PySem.W.keepIn K (.ref f_law_cell_at) = true)
    (a_law_whole : PySem.W.nsIn K mainGlobals "_law_whole" = some (some (.ref f_law_whole)))
    (l_law_whole : K.lookup f_law_whole = some ⟨oc_law_whole, od_law_whole, .func (PySem.W.fnOf "_law_whole" "_law_whole" (defArgs s_law_whole) (defBody s_law_whole) (defScope s_law_whole) .none kV_law_whole dc_law_whole pm_law_whole an_law_whole cd_law_whole ct_law_whole), sl_law_whole⟩)
    (c_law_whole : PySem.W.codeIn K cd_law_whole "_law_whole" = true)
    (p_law_whole : PySem.W.keepIn K (.ref f_law_whole) = true)
    (a_law_frame_by : PySem.W.nsIn K mainGlobals "_law_frame_by" = some (some (.ref f_law_frame_by)))
    (l_law_frame_by : K.lookup f_law_frame_by = some ⟨oc_law_frame_by, od_law_frame_by, .func (PySem.W.fnOf "_law_frame_by" "_law_frame_by" (defArgs s_law_frame_by) (defBody s_law_frame_by) (defScope s_law_frame_by) .none kV_law_frame_by dc_law_frame_by pm_law_frame_by an_law_frame_by cd_law_frame_by ct_law_frame_by), sl_law_frame_by⟩)
    (c_law_frame_by : PySem.W.codeIn K cd_law_frame_by "_law_frame_by" = true)
    (p_law_frame_by : PySem.W.keepIn K (.ref f_law_frame_by) = true)
    (a_law_board_by : PySem.W.nsIn K mainGlobals "_law_board_by" = some (some (.ref f_law_board_by)))
    (l_law_board_by : K.lookup f_law_board_by = some ⟨oc_law_board_by, od_law_board_by, .func (PySem.W.fnOf "_law_board_by" "_law_board_by" (defArgs s_law_board_by) (defBody s_law_board_by) (defScope s_law_board_by) .none kV_law_board_by dc_law_board_by pm_law_board_by an_law_board_by cd_law_board_by ct_law_board_by), sl_law_board_by⟩)
    (c_law_board_by : PySem.W.codeIn K cd_law_board_by "_law_board_by" = true)
    (p_law_board_by : PySem.W.keepIn K (.ref f_law_board_by) = true)
    (a_law_worth : PySem.W.nsIn K mainGlobals "_law_worth" = some (some (.ref f_law_worth)))
    (l_law_worth : K.lookup f_law_worth = some ⟨oc_law_worth, od_law_worth, .func (PySem.W.fnOf "_law_worth" "_law_worth" (defArgs s_law_worth) (defBody s_law_worth) (defScope s_law_worth) .none kV_law_worth dc_law_worth pm_law_worth an_law_worth cd_law_worth ct_law_worth), sl_law_worth⟩)
    (c_law_worth : PySem.W.codeIn K cd_law_worth "_law_worth" = true)
    (p_law_worth : PySem.W.keepIn K (.ref f_law_worth) = true)
    (a_law_is_list : PySem.W.nsIn K mainGlobals "_law_is_list" = some (some (.ref f_law_is_list)))
    (l_law_is_list : K.lookup f_law_is_list = some ⟨oc_law_is_list, od_law_is_list, .func (PySem.W.fnOf "_law_is_list" "_law_is_list" (defArgs s_law_is_list) (defBody s_law_is_list) (defScope s_law_is_list) .none kV_law_is_list dc_law_is_list pm_law_is_list an_law_is_list cd_law_is_list ct_law_is_list), sl_law_is_list⟩)
    (c_law_is_list : PySem.W.codeIn K cd_law_is_list "_law_is_list" = true)
    (p_law_is_list : PySem.W.keepIn K (.ref f_law_is_list) = true)
    (a_law : PySem.W.nsIn K mainGlobals "law" = some (some (.ref f_law)))
    (l_law : K.lookup f_law = some ⟨oc_law, od_law, .func (PySem.W.fnOf "law" "law" (defArgs s_law) (defBody s_law) (defScope s_law) .none kV_law dc_law pm_law an_law cd_law ct_law), sl_law⟩)
    (c_law : PySem.W.codeIn K cd_law "law" = true)
    (p_law : PySem.W.keepIn K (.ref f_law) = true) :
    ∃ fd : FuncData, (∀ (s : Shared) (v : Value), BindsTo s fd ⟨[v], []⟩ [("script", v)]) ∧ ∀ base : Heap, K.In base → base.Ns mainGlobals mg → FnOk l.prog w K mg base (L2.CX l.prog w) 5 fa fd ["script"] (sp_law K) := by
  have e := hfa.symm.trans (PySem.W.mg_of X G a_law)
  cases e
  have B : Bi mg := ⟨PySem.W.mg_none_of X G z_len, PySem.W.mg_none_of X G z_list, PySem.W.mg_none_of X G z_range, PySem.W.mg_none_of X G z_isinstance, PySem.W.mg_none_of X G z_zip, PySem.W.mg_none_of X G z_reversed, PySem.W.mg_none_of X G z_sum, PySem.W.mg_none_of X G z_all, PySem.W.mg_none_of X G z_abs, PySem.W.mg_none_of X G z_max, PySem.W.mg_none_of X G z_min, PySem.W.mg_none_of X G z_str, PySem.W.mg_none_of X G z_int, PySem.W.mg_none_of X G z_bool, PySem.W.mg_none_of X G z_tuple, PySem.W.mg_none_of X G z_ValueError⟩
  have m_MOST : ∃ t, mg "MOST" = some (.int 11 t) := ⟨_, PySem.W.mg_of X G g_MOST⟩
  have e_NoFrame : Er K mg "NoFrame" := er_mk (PySem.W.mg_of X G g_NoFrame) x_NoFrame k_NoFrame b_NoFrame t_NoFrame
  have e_NoBoard : Er K mg "NoBoard" := er_mk (PySem.W.mg_of X G g_NoBoard) x_NoBoard k_NoBoard b_NoBoard t_NoBoard
  have e_NoNumber : Er K mg "NoNumber" := er_mk (PySem.W.mg_of X G g_NoNumber) x_NoNumber k_NoNumber b_NoNumber t_NoNumber
  have F_asked_frame := fun_mk (st := s_asked_frame) l_asked_frame c_asked_frame p_asked_frame
  have b_asked_frame := F_asked_frame.binds (ps := ["ratios"]) fun _ _ _ _ _ _ us hl => match us, hl with | [_], _ => rfl
  have F_asked_board := fun_mk (st := s_asked_board) l_asked_board c_asked_board p_asked_board
  have b_asked_board := F_asked_board.binds (ps := ["ratios", "board"]) fun _ _ _ _ _ _ us hl => match us, hl with | [_, _], _ => rfl
  have F_worths := fun_mk (st := s_worths) l_worths c_worths p_worths
  have b_worths := F_worths.binds (ps := ["ratios"]) fun _ _ _ _ _ _ us hl => match us, hl with | [_], _ => rfl
  have F_worth := fun_mk (st := s_worth) l_worth c_worth p_worth
  have b_worth := F_worth.binds (ps := ["ratios", "board"]) fun _ _ _ _ _ _ us hl => match us, hl with | [_, _], _ => rfl
  have F_board_of := fun_mk (st := s_board_of) l_board_of c_board_of p_board_of
  have b_board_of := F_board_of.binds (ps := ["ratios", "number"]) fun _ _ _ _ _ _ us hl => match us, hl with | [_, _], _ => rfl
  have F_plain := fun_mk (st := s_plain) l_plain c_plain p_plain
  have b_plain := F_plain.binds (ps := ["ratios", "board"]) fun _ _ _ _ _ _ us hl => match us, hl with | [_, _], _ => rfl
  have F_added := fun_mk (st := s_added) l_added c_added p_added
  have b_added := F_added.binds (ps := ["ratios", "one", "other"]) fun _ _ _ _ _ _ us hl => match us, hl with | [_, _, _], _ => rfl
  have F_times := fun_mk (st := s_times) l_times c_times p_times
  have b_times := F_times.binds (ps := ["ratios", "board", "number"]) fun _ _ _ _ _ _ us hl => match us, hl with | [_, _, _], _ => rfl
  have F_parted := fun_mk (st := s_parted) l_parted c_parted p_parted
  have b_parted := F_parted.binds (ps := ["ratios", "board", "number"]) fun _ _ _ _ _ _ us hl => match us, hl with | [_, _, _], _ => rfl
  have F_law_cell_at := fun_mk (st := s_law_cell_at) l_law_cell_at c_law_cell_at p_law_cell_at
  have b_law_cell_at := F_law_cell_at.binds (ps := ["script", "k"]) fun _ _ _ _ _ _ us hl => match us, hl with | [_, _], _ => rfl
  have F_law_whole := fun_mk (st := s_law_whole) l_law_whole c_law_whole p_law_whole
  have b_law_whole := F_law_whole.binds (ps := ["found"]) fun _ _ _ _ _ _ us hl => match us, hl with | [_], _ => rfl
  have F_law_frame_by := fun_mk (st := s_law_frame_by) l_law_frame_by c_law_frame_by p_law_frame_by
  have b_law_frame_by := F_law_frame_by.binds (ps := ["script"]) fun _ _ _ _ _ _ us hl => match us, hl with | [_], _ => rfl
  have F_law_board_by := fun_mk (st := s_law_board_by) l_law_board_by c_law_board_by p_law_board_by
  have b_law_board_by := F_law_board_by.binds (ps := ["script", "first", "ratios", "kind"]) fun _ _ _ _ _ _ us hl => match us, hl with | [_, _, _, _], _ => rfl
  have F_law_worth := fun_mk (st := s_law_worth) l_law_worth c_law_worth p_law_worth
  have b_law_worth := F_law_worth.binds (ps := ["ratios", "board"]) fun _ _ _ _ _ _ us hl => match us, hl with | [_, _], _ => rfl
  have F_law_is_list := fun_mk (st := s_law_is_list) l_law_is_list c_law_is_list p_law_is_list
  have b_law_is_list := F_law_is_list.binds (ps := ["found", "due"]) fun _ _ _ _ _ _ us hl => match us, hl with | [_, _], _ => rfl
  have F_law := fun_mk (st := s_law) l_law c_law p_law
  refine ⟨PySem.W.fnOf "law" "law" (defArgs s_law) (defBody s_law) (defScope s_law) .none kV_law dc_law pm_law an_law cd_law ct_law, fun s v => .of_eq rfl, fun base _ _ => ?_⟩
  have c_asked_frame : Callee l.prog w K mg base 1 "asked_frame" ["ratios"] (sp_asked_frame K mg) := Callee.mk' (ok_asked_frame F_asked_frame B (m_MOST := m_MOST) (e_NoFrame := e_NoFrame)) (PySem.W.mg_of X G a_asked_frame) p_asked_frame b_asked_frame
  have c_asked_board : Callee l.prog w K mg base 2 "asked_board" ["ratios", "board"] (sp_asked_board K mg) := Callee.mk' (ok_asked_board F_asked_board B (e_NoBoard := e_NoBoard) (c_asked_frame := c_asked_frame)) (PySem.W.mg_of X G a_asked_board) p_asked_board b_asked_board
  have c_worths : Callee l.prog w K mg base 2 "worths" ["ratios"] (sp_worths K mg) := Callee.mk' (ok_worths F_worths B (c_asked_frame := c_asked_frame)) (PySem.W.mg_of X G a_worths) p_worths b_worths
  have c_worth : Callee l.prog w K mg base 3 "worth" ["ratios", "board"] (sp_worth K mg) := Callee.mk' (ok_worth F_worth B (c_asked_board := c_asked_board) (c_worths := c_worths)) (PySem.W.mg_of X G a_worth) p_worth b_worth
  have c_board_of : Callee l.prog w K mg base 2 "board_of" ["ratios", "number"] (sp_board_of K mg) := Callee.mk' (ok_board_of F_board_of B (e_NoNumber := e_NoNumber) (c_asked_frame := c_asked_frame)) (PySem.W.mg_of X G a_board_of) p_board_of b_board_of
  have c_plain : Callee l.prog w K mg base 4 "plain" ["ratios", "board"] (sp_plain K mg) := Callee.mk' (ok_plain F_plain B (c_board_of := c_board_of) (c_worth := c_worth)) (PySem.W.mg_of X G a_plain) p_plain b_plain
  have c_added : Callee l.prog w K mg base 4 "added" ["ratios", "one", "other"] (sp_added K mg) := Callee.mk' (ok_added F_added B (c_worth := c_worth) (c_board_of := c_board_of)) (PySem.W.mg_of X G a_added) p_added b_added
  have c_times : Callee l.prog w K mg base 4 "times" ["ratios", "board", "number"] (sp_times K mg) := Callee.mk' (ok_times F_times B (e_NoNumber := e_NoNumber) (c_asked_board := c_asked_board) (c_board_of := c_board_of) (c_worth := c_worth)) (PySem.W.mg_of X G a_times) p_times b_times
  have c_parted : Callee l.prog w K mg base 4 "parted" ["ratios", "board", "number"] (sp_parted K mg) := Callee.mk' (ok_parted F_parted B (e_NoNumber := e_NoNumber) (c_asked_board := c_asked_board) (c_worth := c_worth) (c_board_of := c_board_of)) (PySem.W.mg_of X G a_parted) p_parted b_parted
  have c_law_cell_at : Callee l.prog w K mg base 1 "_law_cell_at" ["script", "k"] (sp_law_cell_at K mg) := Callee.mk' (ok_law_cell_at F_law_cell_at B) (PySem.W.mg_of X G a_law_cell_at) p_law_cell_at b_law_cell_at
  have c_law_whole : Callee l.prog w K mg base 1 "_law_whole" ["found"] (sp_law_whole K mg) := Callee.mk' (ok_law_whole F_law_whole B) (PySem.W.mg_of X G a_law_whole) p_law_whole b_law_whole
  have c_law_frame_by : Callee l.prog w K mg base 2 "_law_frame_by" ["script"] (sp_law_frame_by K mg) := Callee.mk' (ok_law_frame_by F_law_frame_by B (c_law_cell_at := c_law_cell_at)) (PySem.W.mg_of X G a_law_frame_by) p_law_frame_by b_law_frame_by
  have c_law_board_by : Callee l.prog w K mg base 2 "_law_board_by" ["script", "first", "ratios", "kind"] (sp_law_board_by K mg) := Callee.mk' (ok_law_board_by F_law_board_by B (c_law_cell_at := c_law_cell_at)) (PySem.W.mg_of X G a_law_board_by) p_law_board_by b_law_board_by
  have c_law_worth : Callee l.prog w K mg base 1 "_law_worth" ["ratios", "board"] (sp_law_worth K mg) := Callee.mk' (ok_law_worth F_law_worth B) (PySem.W.mg_of X G a_law_worth) p_law_worth b_law_worth
  have c_law_is_list : Callee l.prog w K mg base 2 "_law_is_list" ["found", "due"] (sp_law_is_list K mg) := Callee.mk' (ok_law_is_list F_law_is_list B (c_law_whole := c_law_whole)) (PySem.W.mg_of X G a_law_is_list) p_law_is_list b_law_is_list
  exact ok_law F_law B (c_law_frame_by := c_law_frame_by) (c_law_board_by := c_law_board_by) (c_parted := c_parted) (c_added := c_added) (c_law_worth := c_law_worth) (c_times := c_times) (c_board_of := c_board_of) (c_law_cell_at := c_law_cell_at) (c_law_is_list := c_law_is_list) (c_law_whole := c_law_whole) (c_plain := c_plain)
end CB
open PySem PySem.W PyProof.Rows
set_option maxRecDepth 100000 in
set_option maxHeartbeats 0 in
theorem PySem.Challenge.cw_countboard_k13_whole_parts_holds : PySem.Challenge.rw_countboard_k13_whole_parts.Holds := by
  w_on; o_law; k_head; (case hw => w_witness2)
  k_fill
  refine L2.walk_of (l := PySem.Challenge.rw_countboard_k13_whole_parts) (n := 63) (k := 5) (x := "script") (CX := fun w => L2.CX PySem.Challenge.rw_countboard_k13_whole_parts.prog w) (sp := fun w => CB.sp_law _) rfl (by decide) rfl ⟨rfl, by decide, by decide⟩ (fun w h Y => PySem.W.kIn_of Y) ?F (fun _ _ a ns hl _ hS => ⟨a, ns, rfl, hS, hl, fun _ => rfl⟩) (CB.no_err _)
  case F =>
    intro w mg fa h KX G hmg
    refine' CB.all_mk KX G hmg ?z_len ?z_list ?z_range ?z_isinstance ?z_zip ?z_reversed ?z_sum ?z_all ?z_abs ?z_max ?z_min ?z_str ?z_int ?z_bool ?z_tuple ?z_ValueError ?g_MOST ?g_NoFrame ?x_NoFrame ?k_NoFrame ?b_NoFrame ?t_NoFrame ?g_NoBoard ?x_NoBoard ?k_NoBoard ?b_NoBoard ?t_NoBoard ?g_NoNumber ?x_NoNumber ?k_NoNumber ?b_NoNumber ?t_NoNumber ?a_asked_frame ?l_asked_frame ?c_asked_frame ?p_asked_frame ?a_asked_board ?l_asked_board ?c_asked_board ?p_asked_board ?a_worths ?l_worths ?c_worths ?p_worths ?a_worth ?l_worth ?c_worth ?p_worth ?a_board_of ?l_board_of ?c_board_of ?p_board_of ?a_plain ?l_plain ?c_plain ?p_plain ?a_added ?l_added ?c_added ?p_added ?a_times ?l_times ?c_times ?p_times ?a_parted ?l_parted ?c_parted ?p_parted ?a_law_cell_at ?l_law_cell_at ?c_law_cell_at ?p_law_cell_at ?a_law_whole ?l_law_whole ?c_law_whole ?p_law_whole ?a_law_frame_by ?l_law_frame_by ?c_law_frame_by ?p_law_frame_by ?a_law_board_by ?l_law_board_by ?c_law_board_by ?p_law_board_by ?a_law_worth ?l_law_worth ?c_law_worth ?p_law_worth ?a_law_is_list ?l_law_is_list ?c_law_is_list ?p_law_is_list ?a_law ?l_law ?c_law ?p_law
    (case z_len => k_is)
    (case z_list => k_is)
    (case z_range => k_is)
    (case z_isinstance => k_is)
    (case z_zip => k_is)
    (case z_reversed => k_is)
    (case z_sum => k_is)
    (case z_all => k_is)
    (case z_abs => k_is)
    (case z_max => k_is)
    (case z_min => k_is)
    (case z_str => k_is)
    (case z_int => k_is)
    (case z_bool => k_is)
    (case z_tuple => k_is)
    (case z_ValueError => k_is)
    (case g_MOST => k_is)
    (case g_NoFrame => k_is)
    (case x_NoFrame => k_exc)
    (case k_NoFrame => k_is)
    (case b_NoFrame => k_is)
    (case t_NoFrame => k_is)
    (case g_NoBoard => k_is)
    (case x_NoBoard => k_exc)
    (case k_NoBoard => k_is)
    (case b_NoBoard => k_is)
    (case t_NoBoard => k_is)
    (case g_NoNumber => k_is)
    (case x_NoNumber => k_exc)
    (case k_NoNumber => k_is)
    (case b_NoNumber => k_is)
    (case t_NoNumber => k_is)
    (case a_asked_frame => k_is)
    (case l_asked_frame => k_is)
    (case c_asked_frame => k_is)
    (case p_asked_frame => k_is)
    (case a_asked_board => k_is)
    (case l_asked_board => k_is)
    (case c_asked_board => k_is)
    (case p_asked_board => k_is)
    (case a_worths => k_is)
    (case l_worths => k_is)
    (case c_worths => k_is)
    (case p_worths => k_is)
    (case a_worth => k_is)
    (case l_worth => k_is)
    (case c_worth => k_is)
    (case p_worth => k_is)
    (case a_board_of => k_is)
    (case l_board_of => k_is)
    (case c_board_of => k_is)
    (case p_board_of => k_is)
    (case a_plain => k_is)
    (case l_plain => k_is)
    (case c_plain => k_is)
    (case p_plain => k_is)
    (case a_added => k_is)
    (case l_added => k_is)
    (case c_added => k_is)
    (case p_added => k_is)
    (case a_times => k_is)
    (case l_times => k_is)
    (case c_times => k_is)
    (case p_times => k_is)
    (case a_parted => k_is)
    (case l_parted => k_is)
    (case c_parted => k_is)
    (case p_parted => k_is)
    (case a_law_cell_at => k_is)
    (case l_law_cell_at => k_is)
    (case c_law_cell_at => k_is)
    (case p_law_cell_at => k_is)
    (case a_law_whole => k_is)
    (case l_law_whole => k_is)
    (case c_law_whole => k_is)
    (case p_law_whole => k_is)
    (case a_law_frame_by => k_is)
    (case l_law_frame_by => k_is)
    (case c_law_frame_by => k_is)
    (case p_law_frame_by => k_is)
    (case a_law_board_by => k_is)
    (case l_law_board_by => k_is)
    (case c_law_board_by => k_is)
    (case p_law_board_by => k_is)
    (case a_law_worth => k_is)
    (case l_law_worth => k_is)
    (case c_law_worth => k_is)
    (case p_law_worth => k_is)
    (case a_law_is_list => k_is)
    (case l_law_is_list => k_is)
    (case c_law_is_list => k_is)
    (case p_law_is_list => k_is)
    (case a_law => k_is)
    (case l_law => k_is)
    (case c_law => k_is)
    (case p_law => k_is)
