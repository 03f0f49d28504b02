import PyProof.Rows.All
import Wide.All
import OpenK.AllK
import Wide.FinOn
import HandS.ForList
import HandS.Wide
import HandS.IsInst
import HandS.Codes
import PySem.Challenge.RW_rootcourt_k05_whole_order_of_fractions
set_option Elab.async false
set_option linter.all false
set_option maxRecDepth 100000
set_option maxHeartbeats 4000000
namespace Law05
/-! ### plain laws of fractions -/
/-- n / d is t / b in lowest terms -/
structure Low (t b n d : Int) : Prop where
  pos : 0 < d
  co : Int.gcd n d = 1
  ex : ∃ g, 0 < g ∧ t = g * n ∧ b = g * d
theorem gcd_pos {t b : Int} (hb : 0 < b) : 0 < (Int.gcd t b : Int) := by
  have : 0 < Int.gcd t b := Int.gcd_pos_of_ne_zero_right t (by omega)
  omega
theorem low_of (t : Int) {b : Int} (hb : 0 < b) : Low t b (t / (Int.gcd t b : Int)) (b / (Int.gcd t b : Int)) := by
  have hg := gcd_pos (t := t) hb
  have e1 : t = (Int.gcd t b : Int) * (t / (Int.gcd t b : Int)) := (Int.mul_ediv_cancel' (Int.gcd_dvd_left t b)).symm
  have e2 : b = (Int.gcd t b : Int) * (b / (Int.gcd t b : Int)) := (Int.mul_ediv_cancel' (Int.gcd_dvd_right t b)).symm
  refine ⟨?_, ?_, _, hg, e1, e2⟩
  · exact Int.ediv_pos_of_pos_of_dvd hb (by omega) (Int.gcd_dvd_right t b)
  · exact Int.gcd_ediv_gcd_ediv_gcd (by omega)
theorem le_mul_abs {g n : Int} (hg : 0 < g) : n.natAbs ≤ (g * n).natAbs := by
  rw [Int.natAbs_mul]
  exact Nat.le_mul_of_pos_left _ (by omega)
theorem Low.top {t b n d : Int} (h : Low t b n d) : n.natAbs ≤ t.natAbs := by
  obtain ⟨g, hg, e, _⟩ := h.ex
  rw [e]
  exact le_mul_abs hg
theorem Low.bot {t b n d : Int} (h : Low t b n d) : d.natAbs ≤ b.natAbs := by
  obtain ⟨g, hg, _, e⟩ := h.ex
  rw [e]
  exact le_mul_abs hg
/-- one turn of the while of either gcd -/
theorem gcd_turn (x y : Int) : Int.gcd y (x % y) = Int.gcd x y := by
  rw [Int.emod_def, Int.gcd_comm x y]
  simp
/-- less by multiplying across, over two ways of writing the same fractions -/
theorem Low.lt {A B C D a b c d : Int} (h : Low A B a b) (k : Low C D c d) : (a * d < c * b) ↔ (A * D < C * B) := by
  obtain ⟨g, hg, rfl, rfl⟩ := h.ex
  obtain ⟨e, he, rfl, rfl⟩ := k.ex
  have e1 : g * a * (e * d) = (g * e) * (a * d) := by grind
  have e2 : e * c * (g * b) = (g * e) * (c * b) := by grind
  rw [e1, e2]
  exact (Int.mul_lt_mul_left (Int.mul_pos hg he)).symm
theorem pos_scale {k x y : Int} (hk : 0 < k) {X Y : Int} (e : X - Y = k * (x - y)) : X < Y ↔ x < y := by
  have h1 : X < Y ↔ k * (x - y) < k * 0 := by rw [← e]; omega
  rw [h1, Int.mul_lt_mul_left hk]; omega
theorem plus_lt {n1 d1 n2 d2 n3 d3 : Int} (h3 : 0 < d3) :
    ((n1 * d3 + n3 * d1) * (d2 * d3) < (n2 * d3 + n3 * d2) * (d1 * d3)) ↔ (n1 * d2 < n2 * d1) :=
  pos_scale (k := d3 * d3) (Int.mul_pos h3 h3) (by grind)
theorem times_lt {n1 d1 n2 d2 n3 d3 : Int} (h3 : 0 < d3) (h : 0 < n3) :
    ((n1 * n3) * (d2 * d3) < (n2 * n3) * (d1 * d3)) ↔ (n1 * d2 < n2 * d1) :=
  pos_scale (k := n3 * d3) (Int.mul_pos h h3) (by grind)
theorem times_gt {n1 d1 n2 d2 n3 d3 : Int} (h3 : 0 < d3) (h : n3 < 0) :
    ((n2 * n3) * (d1 * d3) < (n1 * n3) * (d2 * d3)) ↔ (n1 * d2 < n2 * d1) :=
  pos_scale (k := (-n3) * d3) (Int.mul_pos (by omega) h3) (by grind)
theorem part_lt {n1 d1 n3 d3 : Int} (h1 : 0 < d1) :
    ((n1 * d3 + n3 * d1) * d1 < n1 * (d1 * d3)) ↔ n3 < 0 :=
  pos_scale (k := d1 * d1) (x := n3) (y := 0) (Int.mul_pos h1 h1) (by grind)
theorem trans_lt {n1 d1 n2 d2 n3 d3 : Int} (h1 : 0 < d1) (h2 : 0 < d2) (h3 : 0 < d3) (a : n1 * d3 < n3 * d1) (b : n3 * d2 < n2 * d3) : n1 * d2 < n2 * d1 := by
  have a' := Int.mul_lt_mul_of_pos_right a h2
  have b' := Int.mul_lt_mul_of_pos_right b h1
  have : d3 * (n1 * d2) < d3 * (n2 * d1) := by grind
  exact (Int.mul_lt_mul_left h3).1 this
theorem dvd_of_co {d n m : Int} (c : Int.gcd n d = 1) (h : d ∣ n * m) : d ∣ m := by
  have c' : Nat.Coprime d.natAbs n.natAbs := by
    rw [Nat.coprime_comm]
    exact c
  have h' : d.natAbs ∣ n.natAbs * m.natAbs := by
    rw [← Int.natAbs_mul]
    exact Int.natAbs_dvd_natAbs.2 h
  exact Int.natAbs_dvd_natAbs.1 (c'.dvd_of_dvd_mul_left h')
theorem same_of {n1 d1 n2 d2 : Int} (h1 : 0 < d1) (h2 : 0 < d2) (c1 : Int.gcd n1 d1 = 1) (c2 : Int.gcd n2 d2 = 1) (e : n1 * d2 = n2 * d1) : n1 = n2 ∧ d1 = d2 := by
  have a : d1 ∣ d2 := dvd_of_co c1 ⟨n2, by rw [e, Int.mul_comm]⟩
  have b : d2 ∣ d1 := dvd_of_co c2 ⟨n1, by rw [← e, Int.mul_comm]⟩
  have ed : d1 = d2 := by
    have x := Int.le_of_dvd h2 a
    have y := Int.le_of_dvd h1 b
    omega
  subst ed
  exact ⟨Int.eq_of_mul_eq_mul_right (by omega) e, rfl⟩
/-- of two just one is less, or they are the same -/
theorem just_one {n1 d1 n2 d2 : Int} (h1 : 0 < d1) (h2 : 0 < d2) (c1 : Int.gcd n1 d1 = 1) (c2 : Int.gcd n2 d2 = 1) :
    (if decide (n1 * d2 < n2 * d1) = true then (1 : Int) else 0) + (if decide (n2 * d1 < n1 * d2) = true then 1 else 0) + (if (decide (n1 = n2) && decide (d1 = d2)) = true then 1 else 0) = 1 := by
  by_cases a : n1 * d2 < n2 * d1
  · have b : ¬ n2 * d1 < n1 * d2 := by omega
    have c : ¬ (n1 = n2 ∧ d1 = d2) := fun ⟨e, f⟩ => by subst e f; omega
    simp [a, b, c]
  · by_cases b : n2 * d1 < n1 * d2
    · have c : ¬ (n1 = n2 ∧ d1 = d2) := fun ⟨e, f⟩ => by subst e f; omega
      simp [a, b, c]
    · have c := same_of h1 h2 c1 c2 (by omega)
      simp [c]
theorem plus_keeps {n1 d1 n2 d2 n3 d3 a b c d : Int} (h3 : 0 < d3) (h : Low (n1 * d3 + n3 * d1) (d1 * d3) a b) (k : Low (n2 * d3 + n3 * d2) (d2 * d3) c d) : (a * d < c * b) ↔ (n1 * d2 < n2 * d1) :=
  (h.lt k).trans (plus_lt h3)
theorem times_keeps {n1 d1 n2 d2 n3 d3 a b c d : Int} (h3 : 0 < d3) (p : 0 < n3) (h : Low (n1 * n3) (d1 * d3) a b) (k : Low (n2 * n3) (d2 * d3) c d) : (a * d < c * b) ↔ (n1 * d2 < n2 * d1) :=
  (h.lt k).trans (times_lt h3 p)
theorem times_turns {n1 d1 n2 d2 n3 d3 a b c d : Int} (h3 : 0 < d3) (p : n3 < 0) (h : Low (n2 * n3) (d2 * d3) a b) (k : Low (n1 * n3) (d1 * d3) c d) : (a * d < c * b) ↔ (n1 * d2 < n2 * d1) :=
  (h.lt k).trans (times_gt h3 p)
theorem low_self {n d : Int} (h : 0 < d) (c : Int.gcd n d = 1) : Low n d n d := ⟨h, c, 1, by decide, by omega, by omega⟩
theorem plus_part {n1 d1 n3 d3 a b : Int} (h1 : 0 < d1) (c1 : Int.gcd n1 d1 = 1) (h : Low (n1 * d3 + n3 * d1) (d1 * d3) a b) : (a * d1 < n1 * b) ↔ n3 < 0 :=
  (h.lt (low_self h1 c1)).trans (part_lt h1)
/-- the sign, as the program reckons it -/
def sg (n : Int) : Int := if n > 0 then 1 else if n < 0 then -1 else 0
theorem sg_sign (n : Int) : sg n = n.sign := by
  unfold sg
  split
  · rw [Int.sign_eq_one_of_pos (by omega)]
  · split
    · rw [Int.sign_eq_neg_one_of_neg (by omega)]
    · rw [show n = 0 by omega]; rfl
theorem sg_low {t b n d : Int} (h : Low t b n d) : sg n = sg t := by
  obtain ⟨g, hg, rfl, _⟩ := h.ex
  rw [sg_sign, sg_sign, Int.sign_mul, Int.sign_eq_one_of_pos hg, Int.one_mul]
theorem sg_mul (m n : Int) : sg (m * n) = sg m * sg n := by
  rw [sg_sign, sg_sign, sg_sign, Int.sign_mul]
theorem sg_law (n : Int) : (if decide (n > 0) = true then (1 : Int) else 0) - (if decide (n < 0) = true then 1 else 0) = sg n := by
  unfold sg
  by_cases a : n > 0
  · have b : ¬ n < 0 := by omega
    simp [a, b]
  · by_cases b : n < 0 <;> simp [a, b]
end Law05

namespace Law05
open PySem PySem.Spec PyProof.Rows L2
/-! ### the text by places -/
def at' (i : Nat) : Stmt := PySem.Challenge.pw_rootcourt_k05_whole_order_of_fractions.main.body.getD i (.Pass ⟨0, 0, 0, 0⟩)
abbrev sDiv : Stmt := at' 4
abbrev sFra : Stmt := at' 6
abbrev sPlu : Stmt := at' 7
abbrev sTim : Stmt := at' 8
abbrev sLes : Stmt := at' 9
abbrev sSig : Stmt := at' 10
abbrev sCel : Stmt := at' 12
abbrev sGcd : Stmt := at' 14
abbrev sRat : Stmt := at' 15
abbrev sDra : Stmt := at' 16
abbrev sSgn : Stmt := at' 17
abbrev sLaw : Stmt := at' 18
theorem scDiv : FnScope ["one", "other"] ["one", "other"] (defScope sDiv) := ⟨rfl, rfl, rfl, by decide +kernel, rfl, by decide +kernel, by decide +kernel⟩
theorem scFra : FnScope ["top", "bottom", "shared_part"] ["top", "bottom"] (defScope sFra) := ⟨rfl, rfl, rfl, by decide +kernel, rfl, by decide +kernel, by decide +kernel⟩
theorem scPlu : FnScope ["one", "other"] ["one", "other"] (defScope sPlu) := ⟨rfl, rfl, rfl, by decide +kernel, rfl, by decide +kernel, by decide +kernel⟩
theorem scTim : FnScope ["one", "other"] ["one", "other"] (defScope sTim) := ⟨rfl, rfl, rfl, by decide +kernel, rfl, by decide +kernel, by decide +kernel⟩
theorem scLes : FnScope ["one", "other"] ["one", "other"] (defScope sLes) := ⟨rfl, rfl, rfl, by decide +kernel, rfl, by decide +kernel, by decide +kernel⟩
theorem scSig : FnScope ["one"] ["one"] (defScope sSig) := ⟨rfl, rfl, rfl, by decide +kernel, rfl, by decide +kernel, by decide +kernel⟩
theorem scCel : FnScope ["_law_script", "_law_k"] ["_law_script", "_law_k"] (defScope sCel) := ⟨rfl, rfl, rfl, by decide +kernel, rfl, by decide +kernel, by decide +kernel⟩
theorem scGcd : FnScope ["_law_one", "_law_other"] ["_law_one", "_law_other"] (defScope sGcd) := ⟨rfl, rfl, rfl, by decide +kernel, rfl, by decide +kernel, by decide +kernel⟩
theorem scRat : FnScope ["_law_top", "_law_bottom", "_law_part"] ["_law_top", "_law_bottom"] (defScope sRat) := ⟨rfl, rfl, rfl, by decide +kernel, rfl, by decide +kernel, by decide +kernel⟩
theorem scDra : FnScope ["_law_cell", "_law_other", "_law_far", "_law_top"] ["_law_cell", "_law_other"] (defScope sDra) := ⟨rfl, rfl, rfl, by decide +kernel, rfl, by decide +kernel, by decide +kernel⟩
theorem scSgn : FnScope ["_law_found"] ["_law_found"] (defScope sSgn) := ⟨rfl, rfl, rfl, by decide +kernel, rfl, by decide +kernel, by decide +kernel⟩
theorem scLaw : FnScope ["_law_script", "_law_one", "_law_other", "_law_third", "_law_found"] ["_law_script"] (defScope sLaw) := ⟨rfl, rfl, rfl, by decide +kernel, rfl, by decide +kernel, by decide +kernel⟩
/-! ### sizes -/
/-- x has less than k bits -/
def Bd (k : Nat) (x : Int) : Prop := x.natAbs < 2 ^ k
theorem Bd.mono {a b : Nat} {x : Int} (h : Bd a x) (l : a ≤ b) : Bd b x := Nat.lt_of_lt_of_le h (Nat.pow_le_pow_right (by decide) l)
theorem Bd.mul {a b : Nat} {x y : Int} (h : Bd a x) (k : Bd b y) : Bd (a + b) (x * y) := wide_lt h k
theorem Bd.add {a : Nat} {x y : Int} (h : Bd a x) (k : Bd a y) : Bd (a + 1) (x + y) := by
  have h1 : x.natAbs < 2 ^ a := h
  have h2 : y.natAbs < 2 ^ a := k
  show (x + y).natAbs < 2 ^ (a + 1)
  rw [Nat.pow_succ]
  omega
theorem Bd.le {a : Nat} {x y : Int} (h : Bd a x) (l : y.natAbs ≤ x.natAbs) : Bd a y := Nat.lt_of_le_of_lt l h
theorem Bd.w {a b : Nat} {x y : Int} (h : Bd a x) (k : Bd b y) (h0 : 0 < a := by decide) (h1 : 0 < b := by decide) (h2 : a + b ≤ 1000000 := by decide) : CMulW x y := wide_mul h k h0 h1 h2
theorem Bd.d {b : Nat} {x y : Int} (h : 0 < y) (k : Bd b y) (h0 : 0 < b := by decide) (h1 : b ≤ 9000 := by decide) : CDivW x y := wide_div h k h0 h1
/-- a fraction as the law draws it -/
structure Small (n d : Int) : Prop where
  pos : 0 < d
  co : Int.gcd n d = 1
  bt : Bd 200 n
  bb : Bd 200 d
/-! ### the promises -/
theorem keepT {K : PySem.W.Frag} {H H' : Hp} {a : Addr} {xs : List V} (e : Same H H') (h : SqT K H a xs) : SqT K H' a xs := by
  rcases h with (h | ⟨o, h⟩) | h
  · exact .inl (.inl (e _ _ h))
  · exact .inl (.inr ⟨o, e _ _ h⟩)
  · exact .inr h
theorem same_new {H : Hp} {p : Addr} {o : HO} (h : H p = none) : Same H (upd H p o) := fun b x e => by
  rw [upd_ne (ne_of_none e h)]
  exact e
/-- at a stands the fraction n / d -/
abbrev Fr (K : PySem.W.Frag) (H : Hp) (a : Addr) (n d : Int) : Prop := SqT K H a [.int n, .int d]
/-- a new fraction comes back -/
def Back (K : PySem.W.Frag) (H : Hp) (Q : VK) (G : Int → Int → Prop) : Prop := ∀ p n d H', G n d → Same H H' → Fr K H' p n d → Q (.ref p) H'
def spGcd : Sp := fun vs H Q _ => ∃ a b : Int, vs = [.int a, .int b] ∧ Q (.int (Int.gcd a b : Int)) H
def spFra (K : PySem.W.Frag) : Sp := fun vs H Q _ => ∃ t b : Int, vs = [.int t, .int b] ∧ 0 < b ∧ Bd 500 t ∧ Bd 500 b ∧ Back K H Q (Low t b)
def spPlu (K : PySem.W.Frag) : Sp := fun vs H Q _ => ∃ (a b : Addr) (n d m e : Int), vs = [.ref a, .ref b] ∧ Fr K H a n d ∧ Fr K H b m e ∧ Small n d ∧ Small m e ∧ Back K H Q (Low (n * e + m * d) (d * e))
def spTim (K : PySem.W.Frag) : Sp := fun vs H Q _ => ∃ (a b : Addr) (n d m e : Int), vs = [.ref a, .ref b] ∧ Fr K H a n d ∧ Fr K H b m e ∧ Small n d ∧ Small m e ∧ Back K H Q (Low (n * m) (d * e))
def spLes (K : PySem.W.Frag) : Sp := fun vs H Q _ => ∃ (a b : Addr) (n d m e : Int), vs = [.ref a, .ref b] ∧ Fr K H a n d ∧ Fr K H b m e ∧ Bd 500 n ∧ Bd 500 d ∧ Bd 500 m ∧ Bd 500 e ∧ Q (.bl (decide (n * e < m * d))) H
def spSig (K : PySem.W.Frag) : Sp := fun vs H Q _ => ∃ (a : Addr) (n d : Int), vs = [.ref a] ∧ Fr K H a n d ∧ Q (.int (sg n)) H
def spCel (K : PySem.W.Frag) : Sp := fun vs H Q _ => ∃ (a : Addr) (ns : List Int) (k : Int), vs = [.ref a, .int k] ∧ SqL K H a (ns.map V.int) ∧ 0 ≤ k ∧ ∀ z : Int, Q (.int z) H
def spDra (K : PySem.W.Frag) : Sp := fun vs H Q _ => ∃ c o : Int, vs = [.int c, .int o] ∧ Back K H Q Small
def spSgn : Sp := fun vs H Q _ => ∃ n : Int, vs = [.int n] ∧ Q (.int (sg n)) H
def spLaw (K : PySem.W.Frag) : Sp := fun vs H Q _ => ∃ (a : Addr) (ns : List Int), vs = [.ref a] ∧ SqL K H a (ns.map V.int) ∧ ns.length ≤ 63 ∧ ∀ H', Q (.bl true) H'
/-! ### readings that come often -/
theorem q_top {K : PySem.W.Frag} {σ : L2.St} {H : Hp} {Q : VK} {i : Nat} {a : Addr} {n d : Int} (e : σ[i]? = some (some (.ref a))) (h : Fr K H a n d) (q : Q (.int n) H) : tOp (rIxT K) (tVar i) (tC (.int 0)) σ H Q :=
  ⟨_, e, a, _, 0, _, rfl, rfl, h, atI_nat (j := 0) rfl, q⟩
theorem q_bot {K : PySem.W.Frag} {σ : L2.St} {H : Hp} {Q : VK} {i : Nat} {a : Addr} {n d : Int} (e : σ[i]? = some (some (.ref a))) (h : Fr K H a n d) (q : Q (.int d) H) : tOp (rIxT K) (tVar i) (tC (.int 1)) σ H Q :=
  ⟨_, e, a, _, 1, _, rfl, rfl, h, atI_nat (j := 1) rfl, q⟩
theorem iteP {c A B : Prop} [Decidable c] (hc : c) (h : A) : if c then A else B := by
  rw [if_pos hc]
  exact h
theorem abs_gcd (a b : Int) : Int.gcd (if a < 0 then -a else a) (if b < 0 then -b else b) = Int.gcd a b := by
  split <;> split <;> simp
theorem abs_nn (a : Int) : 0 ≤ if a < 0 then -a else a := by
  split <;> omega
theorem gcd_end {x y g : Int} (hx : 0 ≤ x) (hy : y = 0) (h : (Int.gcd x y : Int) = g) : x = g := by
  subst hy
  rw [← h, Int.gcd_zero_right]
  omega
theorem gcd_next {x y g : Int} (h : (Int.gcd x y : Int) = g) : (Int.gcd y (x % y) : Int) = g := by
  rw [gcd_turn]
  exact h
section
variable {P : Program} {w : World} {K : PySem.W.Frag} {mg : Str → Option Value} {base : Heap}
/-! ### the two gcds -/
theorem ok_div {f : Addr} {fd : FuncData} {k : Nat} (F : Fun K "divisor" "divisor" sDiv f fd) (ma : mg "abs" = none) : FnOk P w K mg base CX0 (k + 1) f fd ["one", "other"] spGcd := by
  refine F.ok scDiv (fun vs H Q E h => ?_) (fun cdv A outer s H vs Q E hr h => ?_)
  · obtain ⟨a, b, rfl, _⟩ := h
    rfl
  · obtain ⟨a, b, rfl, q⟩ := h
    refine ⟨_, pss_cons (ps_set (i := 0) scDiv.nd rfl (.inl rfl) (pe_callB call_abs (by rfl) ma (by decide +kernel) (pa_cons (pv 0) pa_nil)))
      (pss_cons (ps_set (i := 1) scDiv.nd rfl (.inl rfl) (pe_callB call_abs (by rfl) ma (by decide +kernel) (pa_cons (pv 1) pa_nil)))
      (pss_cons (ps_while PassesOwn.never (pt_cmpR op_gt (pv 1) pe_int (nomark _))
        (pss_one (ps_par (i := 0) (j := 1) (by rfl) scDiv.nd rfl rfl (by decide) rfl rfl (pa_cons (pv 1) (pa_cons (pe_op op_mod (pv 0) (pv 1)) pa_nil)) (by rfl))))
      (pss_one (ps_ret (pv 0))))), ?_⟩
    refine ⟨.int a, rfl, a, rfl, .int b, rfl, b, rfl, ?_⟩
    refine ⟨fun m σ H2 => ∃ x y : Int, σ = [some (.int x), some (.int y)] ∧ 0 ≤ x ∧ 0 ≤ y ∧ (Int.gcd x y : Int) = (Int.gcd a b : Int) ∧ H2 = H ∧ m = y.toNat,
      ⟨_, _, _, rfl, abs_nn a, abs_nn b, congrArg Int.ofNat (abs_gcd a b), rfl, rfl⟩, fun m σ H2 hW => ?_⟩
    obtain ⟨x, y, rfl, hx, hy, hg, rfl, rfl⟩ := hW
    refine ⟨.int y, rfl, y, 0, rfl, rfl, _, rfl, ite2 (fun hd => ?_) (fun hd => ?_)⟩
    · have h0 : 0 < y := of_decide_eq_true hd
      have h1 := Int.emod_nonneg x (show y ≠ 0 by omega)
      have h2 := Int.emod_lt_of_pos x h0
      refine ⟨fun σ' H' => σ' = [some (.int y), some (.int (x % y))] ∧ H' = H2, fun σ' H' hN => ⟨(x % y).toNat, by omega, y, x % y, hN.1, hy, h1, gcd_next hg, hN.2, rfl⟩, ?_⟩
      exact ⟨.int y, rfl, .int x, rfl, .int y, rfl, x, y, rfl, rfl, h0, _, _, rfl, rfl, rfl⟩
    · have h0 : y = 0 := by
        have : ¬ 0 < y := fun z => hd (decide_eq_true z)
        omega
      have e := gcd_end hx h0 hg
      subst e
      exact ⟨_, rfl, q⟩
theorem ok_gcd {f : Addr} {fd : FuncData} {k : Nat} (F : Fun K "_law_gcd" "_law_gcd" sGcd f fd) (ma : mg "abs" = none) : FnOk P w K mg base CX0 (k + 1) f fd ["_law_one", "_law_other"] spGcd := by
  refine F.ok scGcd (fun vs H Q E h => ?_) (fun cdv A outer s H vs Q E hr h => ?_)
  · obtain ⟨a, b, rfl, _⟩ := h
    rfl
  · obtain ⟨a, b, rfl, q⟩ := h
    refine ⟨_, pss_cons (ps_set (i := 0) scGcd.nd rfl (.inl rfl) (pe_callB call_abs (by rfl) ma (by decide +kernel) (pa_cons (pv 0) pa_nil)))
      (pss_cons (ps_set (i := 1) scGcd.nd rfl (.inl rfl) (pe_callB call_abs (by rfl) ma (by decide +kernel) (pa_cons (pv 1) pa_nil)))
      (pss_cons (ps_while PassesOwn.never (pt_cmpR op_ne (pv 1) pe_int (nomark _))
        (pss_one (ps_par (i := 0) (j := 1) (by rfl) scGcd.nd rfl rfl (by decide) rfl rfl (pa_cons (pv 1) (pa_cons (pe_op op_mod (pv 0) (pv 1)) pa_nil)) (by rfl))))
      (pss_one (ps_ret (pv 0))))), ?_⟩
    refine ⟨.int a, rfl, a, rfl, .int b, rfl, b, rfl, ?_⟩
    refine ⟨fun m σ H2 => ∃ x y : Int, σ = [some (.int x), some (.int y)] ∧ 0 ≤ x ∧ 0 ≤ y ∧ (Int.gcd x y : Int) = (Int.gcd a b : Int) ∧ H2 = H ∧ m = y.toNat,
      ⟨_, _, _, rfl, abs_nn a, abs_nn b, congrArg Int.ofNat (abs_gcd a b), rfl, rfl⟩, fun m σ H2 hW => ?_⟩
    obtain ⟨x, y, rfl, hx, hy, hg, rfl, rfl⟩ := hW
    refine ⟨.int y, rfl, rfl, _, rfl, ?_⟩
    by_cases hd : y = 0
    · have e := gcd_end hx hd hg
      subst e hd
      exact iteNS rfl ⟨_, rfl, q⟩
    · have h0 : 0 < y := by omega
      have h1 := Int.emod_nonneg x (show y ≠ 0 by omega)
      have h2 := Int.emod_lt_of_pos x h0
      have hc : (!decide (V.int y = V.int 0)) = true := by
        rw [decide_eq_false (fun z => hd (V.int.inj z))]
        rfl
      refine iteP hc ⟨fun σ' H' => σ' = [some (.int y), some (.int (x % y))] ∧ H' = H2, fun σ' H' hN => ⟨(x % y).toNat, by omega, y, x % y, hN.1, hy, h1, gcd_next hg, hN.2, rfl⟩, ?_⟩
      exact ⟨.int y, rfl, .int x, rfl, .int y, rfl, x, y, rfl, rfl, h0, _, _, rfl, rfl, rfl⟩
/-! ### fraction, and the law's own -/
theorem ok_fra {f g : Addr} {fd gd : FuncData} {k : Nat} (F : Fun K "fraction" "fraction" sFra f fd) (G : Fun K "divisor" "divisor" sDiv g gd) (gb : Binds K gd ["one", "other"] []) (gm : mg "divisor" = some (.ref g)) (GK : FnOk P w K mg base CX0 (k + 1) g gd ["one", "other"] spGcd) :
    FnOk P w K mg base CX0 (k + 2) f fd ["top", "bottom"] (spFra K) := by
  refine F.ok scFra (fun vs H Q E h => ?_) (fun cdv A outer s H vs Q E hr h => ?_)
  · obtain ⟨t, b, rfl, _⟩ := h
    rfl
  · obtain ⟨t, b, rfl, hb, ht5, hb5, q⟩ := h
    refine ⟨_, pss_cons (ps_if (pt_cmpR op_eq (pv 1) pe_int (nomark _)) (pss_one ps_never) pss_nil)
      (pss_cons (ps_set (i := 2) scFra.nd rfl (.inl rfl) (pe_call GK hr (by rfl) gm G.kp gb .nil pass0 (pa_cons (pv 0) (pa_cons (pv 1) pa_nil))))
      (pss_cons (ps_if (pt_cmpR op_lt (pv 1) pe_int (nomark _)) (pss_one ps_never) pss_nil)
      (pss_one (ps_ret (pe_tup (pa_cons (pe_op op_fdivW (pv 0) (pv 2)) (pa_cons (pe_op op_fdivW (pv 1) (pv 2)) pa_nil))))))), ?_⟩
    refine ⟨.int b, rfl, rfl, _, rfl, ite2 (fun hd => ?_) (fun _ => ?_)⟩
    · have := V.int.inj (of_decide_eq_true hd)
      omega
    refine ⟨.int t, rfl, .int b, rfl, t, b, rfl, ?_⟩
    refine ⟨.int b, rfl, b, 0, rfl, rfl, _, rfl, ite2 (fun hd => ?_) (fun _ => ?_)⟩
    · have := of_decide_eq_true hd
      omega
    have hg := gcd_pos (t := t) hb
    have hg5 : Bd 500 (Int.gcd t b : Int) := hb5.le (by
      have := Int.gcd_le_natAbs_right (b := b) t (by omega)
      omega)
    refine ⟨.int t, rfl, _, rfl, t, _, rfl, rfl, Bd.d hg hg5, .int b, rfl, _, rfl, b, _, rfl, rfl, Bd.d hg hg5, (by show 2 ≤ sizeLine; decide), fun p np => ?_⟩
    exact q p _ _ _ (low_of t hb) (same_new np) (.inl (.inl upd_same))
end
end Law05

namespace Law05
open PySem PySem.Spec PyProof.Rows L2
section
variable {P : Program} {w : World} {K : PySem.W.Frag} {mg : Str → Option Value} {base : Heap}
theorem ok_rat {f g : Addr} {fd gd : FuncData} {k : Nat} (F : Fun K "_law_ratio" "_law_ratio" sRat f fd) (G : Fun K "_law_gcd" "_law_gcd" sGcd g gd) (gb : Binds K gd ["_law_one", "_law_other"] []) (gm : mg "_law_gcd" = some (.ref g)) (GK : FnOk P w K mg base CX0 (k + 1) g gd ["_law_one", "_law_other"] spGcd) :
    FnOk P w K mg base CX0 (k + 2) f fd ["_law_top", "_law_bottom"] (spFra K) := by
  refine F.ok scRat (fun vs H Q E h => ?_) (fun cdv A outer s H vs Q E hr h => ?_)
  · obtain ⟨t, b, rfl, _⟩ := h
    rfl
  · obtain ⟨t, b, rfl, hb, ht5, hb5, q⟩ := h
    refine ⟨_, pss_cons (ps_set (i := 2) scRat.nd rfl (.inl rfl) (pe_call GK hr (by rfl) gm G.kp gb .nil pass0 (pa_cons (pv 0) (pa_cons (pv 1) pa_nil))))
      (pss_cons (ps_if (pt_cmpR op_lt (pv 1) pe_int (nomark _)) (pss_one ps_never) pss_nil)
      (pss_one (ps_ret (pe_tup (pa_cons (pe_op op_fdivW (pv 0) (pv 2)) (pa_cons (pe_op op_fdivW (pv 1) (pv 2)) pa_nil)))))), ?_⟩
    refine ⟨.int t, rfl, .int b, rfl, t, b, rfl, ?_⟩
    refine ⟨.int b, rfl, b, 0, rfl, rfl, _, rfl, ite2 (fun hd => ?_) (fun _ => ?_)⟩
    · have := of_decide_eq_true hd
      omega
    have hg := gcd_pos (t := t) hb
    have hg5 : Bd 500 (Int.gcd t b : Int) := hb5.le (by
      have := Int.gcd_le_natAbs_right (b := b) t (by omega)
      omega)
    refine ⟨.int t, rfl, _, rfl, t, _, rfl, rfl, Bd.d hg hg5, .int b, rfl, _, rfl, b, _, rfl, rfl, Bd.d hg hg5, (by show 2 ≤ sizeLine; decide), fun p np => ?_⟩
    exact q p _ _ _ (low_of t hb) (same_new np) (.inl (.inl upd_same))
/-! ### plus, times, less, sign -/
theorem ok_plu {f g : Addr} {fd gd : FuncData} {k : Nat} (F : Fun K "plus" "plus" sPlu f fd) (G : Fun K "fraction" "fraction" sFra g gd) (gb : Binds K gd ["top", "bottom"] []) (gm : mg "fraction" = some (.ref g)) (GK : FnOk P w K mg base CX0 (k + 1) g gd ["top", "bottom"] (spFra K)) :
    FnOk P w K mg base CX0 (k + 2) f fd ["one", "other"] (spPlu K) := by
  refine F.ok scPlu (fun vs H Q E h => ?_) (fun cdv A outer s H vs Q E hr h => ?_)
  · obtain ⟨a, b, n, d, m, e, rfl, _⟩ := h
    rfl
  · obtain ⟨a, b, n, d, m, e, rfl, ha, hb, s1, s2, q⟩ := h
    refine ⟨_, pss_one (ps_ret (pe_call GK hr (by rfl) gm G.kp gb .nil pass0 (pa_cons
      (pe_op op_add (pe_op op_mulW (pe_ix ix_tup (pv 0) pe_int (fun _ _ => rfl)) (pe_ix ix_tup (pv 1) pe_int (fun _ _ => rfl)))
        (pe_op op_mulW (pe_ix ix_tup (pv 1) pe_int (fun _ _ => rfl)) (pe_ix ix_tup (pv 0) pe_int (fun _ _ => rfl))))
      (pa_cons (pe_op op_mulW (pe_ix ix_tup (pv 0) pe_int (fun _ _ => rfl)) (pe_ix ix_tup (pv 1) pe_int (fun _ _ => rfl))) pa_nil)))), ?_⟩
    refine q_top rfl ha (q_bot rfl hb ⟨n, e, rfl, rfl, s1.bt.w s2.bb, ?_⟩)
    refine q_top rfl hb (q_bot rfl ha ⟨m, d, rfl, rfl, s2.bt.w s1.bb, _, _, rfl, rfl, ?_⟩)
    refine q_bot rfl ha (q_bot rfl hb ⟨d, e, rfl, rfl, s1.bb.w s2.bb, ?_⟩)
    exact ⟨_, _, rfl, Int.mul_pos s1.pos s2.pos, ((s1.bt.mul s2.bb).add (s2.bt.mul s1.bb)).mono (by decide), (s1.bb.mul s2.bb).mono (by decide), q⟩
theorem ok_tim {f g : Addr} {fd gd : FuncData} {k : Nat} (F : Fun K "times" "times" sTim f fd) (G : Fun K "fraction" "fraction" sFra g gd) (gb : Binds K gd ["top", "bottom"] []) (gm : mg "fraction" = some (.ref g)) (GK : FnOk P w K mg base CX0 (k + 1) g gd ["top", "bottom"] (spFra K)) :
    FnOk P w K mg base CX0 (k + 2) f fd ["one", "other"] (spTim K) := by
  refine F.ok scTim (fun vs H Q E h => ?_) (fun cdv A outer s H vs Q E hr h => ?_)
  · obtain ⟨a, b, n, d, m, e, rfl, _⟩ := h
    rfl
  · obtain ⟨a, b, n, d, m, e, rfl, ha, hb, s1, s2, q⟩ := h
    refine ⟨_, pss_one (ps_ret (pe_call GK hr (by rfl) gm G.kp gb .nil pass0 (pa_cons
      (pe_op op_mulW (pe_ix ix_tup (pv 0) pe_int (fun _ _ => rfl)) (pe_ix ix_tup (pv 1) pe_int (fun _ _ => rfl)))
      (pa_cons (pe_op op_mulW (pe_ix ix_tup (pv 0) pe_int (fun _ _ => rfl)) (pe_ix ix_tup (pv 1) pe_int (fun _ _ => rfl))) pa_nil)))), ?_⟩
    refine q_top rfl ha (q_top rfl hb ⟨n, m, rfl, rfl, s1.bt.w s2.bt, ?_⟩)
    refine q_bot rfl ha (q_bot rfl hb ⟨d, e, rfl, rfl, s1.bb.w s2.bb, ?_⟩)
    exact ⟨_, _, rfl, Int.mul_pos s1.pos s2.pos, (s1.bt.mul s2.bt).mono (by decide), (s1.bb.mul s2.bb).mono (by decide), q⟩
theorem ok_les {f : Addr} {fd : FuncData} {k : Nat} (F : Fun K "less" "less" sLes f fd) : FnOk P w K mg base CX0 (k + 1) f fd ["one", "other"] (spLes K) := by
  refine F.ok scLes (fun vs H Q E h => ?_) (fun cdv A outer s H vs Q E hr h => ?_)
  · obtain ⟨a, b, n, d, m, e, rfl, _⟩ := h
    rfl
  · obtain ⟨a, b, n, d, m, e, rfl, ha, hb, b1, b2, b3, b4, q⟩ := h
    refine ⟨_, pss_one (ps_ret (pe_cmpR op_lt
      (pe_op op_mulW (pe_ix ix_tup (pv 0) pe_int (fun _ _ => rfl)) (pe_ix ix_tup (pv 1) pe_int (fun _ _ => rfl)))
      (pe_op op_mulW (pe_ix ix_tup (pv 1) pe_int (fun _ _ => rfl)) (pe_ix ix_tup (pv 0) pe_int (fun _ _ => rfl))) (nomark _))), ?_⟩
    refine q_top rfl ha (q_bot rfl hb ⟨n, e, rfl, rfl, b1.w b4, ?_⟩)
    refine q_top rfl hb (q_bot rfl ha ⟨m, d, rfl, rfl, b3.w b2, _, _, rfl, rfl, ?_⟩)
    exact q
theorem ok_sig {f : Addr} {fd : FuncData} {k : Nat} (F : Fun K "sign" "sign" sSig f fd) : FnOk P w K mg base CX0 (k + 1) f fd ["one"] (spSig K) := by
  refine F.ok scSig (fun vs H Q E h => ?_) (fun cdv A outer s H vs Q E hr h => ?_)
  · obtain ⟨a, n, d, rfl, _⟩ := h
    rfl
  · obtain ⟨a, n, d, rfl, ha, q⟩ := h
    refine ⟨_, pss_cons (ps_if (pt_cmpR op_gt (pe_ix ix_tup (pv 0) pe_int (fun _ _ => rfl)) pe_int (nomark _)) (pss_one (ps_ret pe_int)) pss_nil)
      (pss_cons (ps_if (pt_cmpR op_lt (pe_ix ix_tup (pv 0) pe_int (fun _ _ => rfl)) pe_int (nomark _)) (pss_one (ps_ret (pe_un un_neg pe_int))) pss_nil)
      (pss_one (ps_ret pe_int))), ?_⟩
    refine q_top rfl ha ⟨n, 0, rfl, rfl, _, rfl, ite2 (fun hd => ?_) (fun hd => ?_)⟩
    · have h0 : 0 < n := of_decide_eq_true hd
      have e : sg n = 1 := if_pos h0
      rw [e] at q
      exact q
    have h0 : ¬ 0 < n := fun z => hd (decide_eq_true z)
    refine q_top rfl ha ⟨n, 0, rfl, rfl, _, rfl, ite2 (fun hd => ?_) (fun hd => ?_)⟩
    · have h1 : n < 0 := of_decide_eq_true hd
      have e : sg n = -1 := (if_neg h0).trans (if_pos h1)
      rw [e] at q
      exact ⟨1, rfl, q⟩
    · have h1 : ¬ n < 0 := fun z => hd (decide_eq_true z)
      have e : sg n = 0 := (if_neg h0).trans (if_neg h1)
      rw [e] at q
      exact q
/-! ### the law's helpers -/
theorem ok_cel {f : Addr} {fd : FuncData} {k : Nat} (F : Fun K "_law_cell_at" "_law_cell_at" sCel f fd) (ml : mg "len" = none) : FnOk P w K mg base CX0 (k + 1) f fd ["_law_script", "_law_k"] (spCel K) := by
  refine F.ok scCel (fun vs H Q E h => ?_) (fun cdv A outer s H vs Q E hr h => ?_)
  · obtain ⟨a, ns, i, rfl, _⟩ := h
    rfl
  · obtain ⟨a, ns, i, rfl, hS, h0, q⟩ := h
    refine ⟨_, pss_cons (ps_if (pt_cmpR op_lt (pv 1) (pe_callB call_len_seq (by rfl) ml PySem.boot_len (pa_cons (pv 0) pa_nil)) (nomark _))
        (pss_one (ps_ret (pe_ix ix_list (pv 0) (pv 1) (fun _ _ => rfl)))) pss_nil)
      (pss_one (ps_ret pe_int)), ?_⟩
    refine ⟨.int i, rfl, .ref a, rfl, a, ns.map V.int, rfl, .inl hS, i, _, rfl, rfl, _, rfl, ite2 (fun hd => ?_) (fun hd => ?_)⟩
    · have hl : i < ((ns.map V.int).length : Int) := of_decide_eq_true hd
      rw [List.length_map] at hl
      obtain ⟨j, rfl⟩ : ∃ j : Nat, i = (j : Int) := ⟨i.toNat, by omega⟩
      have hj : j < ns.length := by omega
      have g : (ns.map V.int)[j]? = some (.int ns[j]) := by
        rw [List.getElem?_map, List.getElem?_eq_getElem hj]
        rfl
      exact ⟨.ref a, rfl, .int j, rfl, a, _, j, _, rfl, rfl, hS, atI_nat g, q _⟩
    · exact q 0
theorem pick4 {v0 v1 v2 v3 : Int} {i : Int} (h0 : 0 ≤ i) (h4 : i < 4) {G : Int → Prop} (g0 : G v0) (g1 : G v1) (g2 : G v2) (g3 : G v3) : ∃ v : Int, atI [V.int v0, V.int v1, V.int v2, V.int v3] i = some (V.int v) ∧ G v := by
  obtain ⟨j, rfl⟩ : ∃ j : Nat, i = (j : Int) := ⟨i.toNat, by omega⟩
  match j, h4 with
  | 0, _ => exact ⟨_, atI_nat rfl, g0⟩
  | 1, _ => exact ⟨_, atI_nat rfl, g1⟩
  | 2, _ => exact ⟨_, atI_nat rfl, g2⟩
  | 3, _ => exact ⟨_, atI_nat rfl, g3⟩
  | j + 4, h => omega
theorem far_bd {x : Int} (h : x.natAbs ≤ 10 ^ 59) : Bd 200 x := Nat.lt_of_le_of_lt h (by decide)
def Far (v : Int) : Prop := 0 < v ∧ v ≤ 10 ^ 59
theorem far_mod {x v : Int} (h : Far v) : 0 ≤ x % v ∧ x % v < 10 ^ 59 := by
  have h1 := Int.emod_nonneg x (show v ≠ 0 by have := h.1; omega)
  have h2 := Int.emod_lt_of_pos x h.1
  have h3 := h.2
  omega
theorem far_top {x v s : Int} (h : Far v) (hs : s = 0 ∨ s = 1) : Bd 200 (x % v * (1 - 2 * s)) := by
  have h1 := far_mod (x := x) h
  rcases hs with rfl | rfl
  · refine far_bd ?_
    omega
  · refine far_bd ?_
    omega
theorem far_bot {x v : Int} (h : Far v) : 0 < 1 + x % v ∧ Bd 200 (1 + x % v) := by
  have h1 := far_mod (x := x) h
  refine ⟨by omega, far_bd ?_⟩
  omega
theorem two_of (x : Int) : x % 2 = 0 ∨ x % 2 = 1 := by omega
theorem low_small {t b n d : Int} (ht : Bd 200 t) (hb : Bd 200 b) (h : Low t b n d) : Small n d := ⟨h.pos, h.co, ht.le h.top, hb.le h.bot⟩
theorem ok_dra {f g : Addr} {fd gd : FuncData} {k : Nat} (F : Fun K "_law_drawn" "_law_drawn" sDra f fd) (G : Fun K "_law_ratio" "_law_ratio" sRat g gd) (gb : Binds K gd ["_law_top", "_law_bottom"] []) (gm : mg "_law_ratio" = some (.ref g)) (GK : FnOk P w K mg base CX0 (k + 1) g gd ["_law_top", "_law_bottom"] (spFra K)) :
    FnOk P w K mg base CX0 (k + 2) f fd ["_law_cell", "_law_other"] (spDra K) := by
  refine F.ok scDra (fun vs H Q E h => ?_) (fun cdv A outer s H vs Q E hr h => ?_)
  · obtain ⟨c, o, rfl, _⟩ := h
    rfl
  · obtain ⟨c, o, rfl, q⟩ := h
    refine ⟨_, pss_cons (ps_set (i := 2) scDra.nd rfl (.inl rfl) (pe_ix ix_list (pe_lst (pa_cons pe_int (pa_cons pe_int (pa_cons (pe_op op_pow pe_int pe_int) (pa_cons (pe_op op_pow pe_int pe_int) pa_nil))))) (pe_op op_mod (pv 0) pe_int) (fun _ _ => rfl)))
      (pss_cons (ps_set (i := 3) scDra.nd rfl (.inl rfl) (pe_op op_mulW (pe_op op_mod (pe_op op_fdiv (pv 0) pe_int) (pv 2)) (pe_op op_sub pe_int (pe_op op_mul pe_int (pe_op op_mod (pe_op op_fdiv (pv 0) pe_int) pe_int)))))
      (pss_one (ps_ret (pe_call GK hr (by rfl) gm G.kp gb .nil pass0 (pa_cons (pv 3) (pa_cons (pe_op op_add pe_int (pe_op op_mod (pe_op op_fdiv (pv 1) pe_int)
        (pe_ix ix_list (pe_lst (pa_cons pe_int (pa_cons pe_int (pa_cons (pe_op op_pow pe_int pe_int) (pa_cons (pe_op op_pow pe_int pe_int) pa_nil))))) (pe_op op_mod (pv 1) pe_int) (fun _ _ => rfl)))) pa_nil)))))), ?_⟩
    have hc0 := Int.emod_nonneg c (show (4 : Int) ≠ 0 by decide)
    have hc4 := Int.emod_lt_of_pos c (show (0 : Int) < 4 by decide)
    have ho0 := Int.emod_nonneg o (show (4 : Int) ≠ 0 by decide)
    have ho4 := Int.emod_lt_of_pos o (show (0 : Int) < 4 by decide)
    obtain ⟨v, ev, hv⟩ := pick4 (v0 := 10) (v1 := 1000) (v2 := 10 ^ (12 : Int).toNat) (v3 := 10 ^ (59 : Int).toNat) hc0 hc4 (G := Far) ⟨by decide, by decide⟩ ⟨by decide, by decide⟩ ⟨by decide, by decide⟩ ⟨by decide, by decide⟩
    obtain ⟨u, eu, hu⟩ := pick4 (v0 := 10) (v1 := 1) (v2 := 10 ^ (6 : Int).toNat) (v3 := 10 ^ (59 : Int).toNat) ho0 ho4 (G := Far) ⟨by decide, by decide⟩ ⟨by decide, by decide⟩ ⟨by decide, by decide⟩ ⟨by decide, by decide⟩
    have ht := far_top (x := c / 8) hv (two_of (c / 4))
    have hm := far_mod (x := c / 8) hv
    have hb := far_bot (x := o / 4) hu
    -- far
    refine ⟨10, 12, rfl, rfl, ⟨by decide, by decide, by decide⟩, 10, 59, rfl, rfl, ⟨by decide, by decide, by decide⟩, (by show 4 ≤ sizeLine; decide), fun l nl => ?_⟩
    refine ⟨.int c, rfl, c, 4, rfl, rfl, (by show (0 : Int) < 4; decide), l, _, _, .int v, rfl, rfl, SqL.of upd_same, ev, ?_⟩
    -- top
    refine ⟨.int c, rfl, c, 8, rfl, rfl, ⟨by decide, by decide⟩, .int v, rfl, _, v, rfl, rfl, hv.1, .int c, rfl, c, 4, rfl, rfl, ⟨by decide, by decide⟩, _, 2, rfl, rfl, (by show (0 : Int) < 2; decide), ?_⟩
    refine ⟨2, _, rfl, rfl, .inl ⟨by decide, by decide⟩, 1, _, rfl, rfl, _, _, rfl, rfl, ?_, ?_⟩
    · exact (far_bd (x := c / 8 % v) (by omega)).w (b := 2) (by
        have := two_of (c / 4)
        show (1 - 2 * (c / 4 % 2)).natAbs < 4
        omega)
    refine ⟨_, rfl, .int o, rfl, o, 4, rfl, rfl, ⟨by decide, by decide⟩, ?_⟩
    refine ⟨10, 6, rfl, rfl, ⟨by decide, by decide, by decide⟩, 10, 59, rfl, rfl, ⟨by decide, by decide, by decide⟩, (by show 4 ≤ sizeLine; decide), fun l2 nl2 => ?_⟩
    refine ⟨.int o, rfl, o, 4, rfl, rfl, (by show (0 : Int) < 4; decide), l2, _, _, .int u, rfl, rfl, SqL.of upd_same, eu, ?_⟩
    refine ⟨_, u, rfl, rfl, hu.1, 1, _, rfl, rfl, ?_⟩
    refine ⟨_, _, rfl, hb.1, ht.mono (by decide), hb.2.mono (by decide), fun p n d H' hlow sm hp => ?_⟩
    exact q p n d H' (low_small ht hb.2 hlow) ((same_new nl).trans ((same_new nl2).trans sm)) hp
theorem ok_sgn {f : Addr} {fd : FuncData} {k : Nat} (F : Fun K "_law_sign" "_law_sign" sSgn f fd) (mi : mg "int" = none) : FnOk P w K mg base CX0 (k + 1) f fd ["_law_found"] spSgn := by
  refine F.ok scSgn (fun vs H Q E h => ?_) (fun cdv A outer s H vs Q E hr h => ?_)
  · obtain ⟨n, rfl, _⟩ := h
    rfl
  · obtain ⟨n, rfl, q⟩ := h
    refine ⟨_, pss_one (ps_ret (pe_op op_sub (pe_callTy call_int1 (by rfl) mi (by decide +kernel) (pa_cons (pe_cmpR op_gt (pv 0) pe_int (nomark _)) pa_nil))
      (pe_callTy call_int1 (by rfl) mi (by decide +kernel) (pa_cons (pe_cmpR op_lt (pv 0) pe_int (nomark _)) pa_nil)))), ?_⟩
    refine ⟨.int n, rfl, n, 0, rfl, rfl, .inr ⟨_, rfl, .int n, rfl, n, 0, rfl, rfl, .inr ⟨_, rfl, _, _, rfl, rfl, ?_⟩⟩⟩
    have e := sg_law n
    rw [← e] at q
    exact q
end
end Law05

namespace Law05
open PySem PySem.Spec PyProof.Rows L2
theorem plus_bd {n d m e x y : Int} (s : Small n d) (t : Small m e) (h : Low (n * e + m * d) (d * e) x y) : Bd 500 x ∧ Bd 500 y :=
  ⟨(((s.bt.mul t.bb).add (t.bt.mul s.bb)).mono (by decide)).le h.top, ((s.bb.mul t.bb).mono (by decide)).le h.bot⟩
theorem times_bd {n d m e x y : Int} (s : Small n d) (t : Small m e) (h : Low (n * m) (d * e) x y) : Bd 500 x ∧ Bd 500 y :=
  ⟨((s.bt.mul t.bt).mono (by decide)).le h.top, ((s.bb.mul t.bb).mono (by decide)).le h.bot⟩
theorem Small.t5 {n d : Int} (s : Small n d) : Bd 500 n := s.bt.mono (by decide)
theorem Small.b5 {n d : Int} (s : Small n d) : Bd 500 d := s.bb.mono (by decide)
theorem bl_eq {p q : Prop} [Decidable p] [Decidable q] (h : p ↔ q) : V.bl (decide p) = V.bl (decide q) := congrArg V.bl (decide_eq_decide.mpr h)
theorem eqv_pair (n d m e : Int) : PyData.eqv (.tuple [.int n, .int d]) (.tuple [.int m, .int e]) = (decide (n = m) && decide (d = e)) := by
  simp only [PyData.eqv, PyData.eqvAll, Bool.and_true]
  rw [Bool.eq_iff_iff]
  simp
theorem shaped_pair (n d : Int) : SeqAt.shaped (.tuple [.int n, .int d]) = true := by
  first
    | rfl
    | simp [SeqAt.shaped, PyData.canLay0, PyData.canLayAll0, PyData.depth]
theorem dp_fr {K : PySem.W.Frag} {H : Hp} {a : Addr} {n d : Int} (h : Fr K H a n d) : Dp K H (.ref a) (.tuple [.int n, .int d]) := .tup h (.cons (.int n) (.cons (.int d) .nil))
theorem sg_small (n : Int) : -(2 ^ 64) < sg n ∧ sg n < 2 ^ 64 := by
  unfold sg
  split
  · exact ⟨by decide, by decide⟩
  · split <;> exact ⟨by decide, by decide⟩
/-- what stands between two statements of the law -/
structure Mid (K : PySem.W.Frag) (a p1 p2 p3 : Addr) (n1 d1 n2 d2 n3 d3 : Int) (σ : L2.St) (H : Hp) : Prop where
  sl : σ = [some (.ref a), some (.ref p1), some (.ref p2), some (.ref p3), some (.bl (decide (n1 * d2 < n2 * d1)))]
  f1 : Fr K H p1 n1 d1
  f2 : Fr K H p2 n2 d2
  f3 : Fr K H p3 n3 d3
section
variable {P : Program} {w : World} {K : PySem.W.Frag} {mg : Str → Option Value} {base : Heap}
theorem ok_law {f fC fD fL fP fT fS fG : Addr} {fd dC dD dL dP dT dS dG : FuncData} (F : Fun K "law" "law" sLaw f fd)
    (FC : Fun K "_law_cell_at" "_law_cell_at" sCel fC dC) (bC : Binds K dC ["_law_script", "_law_k"] []) (gC : mg "_law_cell_at" = some (.ref fC)) (GC : FnOk P w K mg base CX0 3 fC dC ["_law_script", "_law_k"] (spCel K))
    (FD : Fun K "_law_drawn" "_law_drawn" sDra fD dD) (bD : Binds K dD ["_law_cell", "_law_other"] []) (gD : mg "_law_drawn" = some (.ref fD)) (GD : FnOk P w K mg base CX0 3 fD dD ["_law_cell", "_law_other"] (spDra K))
    (FL : Fun K "less" "less" sLes fL dL) (bL : Binds K dL ["one", "other"] []) (gL : mg "less" = some (.ref fL)) (GL : FnOk P w K mg base CX0 3 fL dL ["one", "other"] (spLes K))
    (FP : Fun K "plus" "plus" sPlu fP dP) (bP : Binds K dP ["one", "other"] []) (gP : mg "plus" = some (.ref fP)) (GP : FnOk P w K mg base CX0 3 fP dP ["one", "other"] (spPlu K))
    (FT : Fun K "times" "times" sTim fT dT) (bT : Binds K dT ["one", "other"] []) (gT : mg "times" = some (.ref fT)) (GT : FnOk P w K mg base CX0 3 fT dT ["one", "other"] (spTim K))
    (FS : Fun K "sign" "sign" sSig fS dS) (bS : Binds K dS ["one"] []) (gS : mg "sign" = some (.ref fS)) (GS : FnOk P w K mg base CX0 3 fS dS ["one"] (spSig K))
    (FG : Fun K "_law_sign" "_law_sign" sSgn fG dG) (bG : Binds K dG ["_law_found"] []) (gG : mg "_law_sign" = some (.ref fG)) (GG : FnOk P w K mg base CX0 3 fG dG ["_law_found"] spSgn)
    (mi : mg "int" = none) (mb : mg "bool" = none) (ms : mg "isinstance" = none) : FnOk P w K mg base CX0 4 f fd ["_law_script"] (spLaw K) := by
  refine F.ok scLaw (fun vs H Q E h => ?_) (fun cdv A outer s H vs Q E hr h => ?_)
  · obtain ⟨a, ns, rfl, _⟩ := h
    rfl
  · obtain ⟨a, ns, rfl, hS, _, q⟩ := h
    refine ⟨_, pss_cons (ps_set (i := 1) scLaw.nd rfl (.inl rfl) (pe_call GD hr (by rfl) gD FD.kp bD .nil pass0 (pa_cons (pe_call GC hr (by rfl) gC FC.kp bC .nil pass0 (pa_cons (pv 0) (pa_cons pe_int pa_nil))) (pa_cons (pe_call GC hr (by rfl) gC FC.kp bC .nil pass0 (pa_cons (pv 0) (pa_cons pe_int pa_nil))) pa_nil))))
      (pss_cons (ps_set (i := 2) scLaw.nd rfl (.inl rfl) (pe_call GD hr (by rfl) gD FD.kp bD .nil pass0 (pa_cons (pe_call GC hr (by rfl) gC FC.kp bC .nil pass0 (pa_cons (pv 0) (pa_cons pe_int pa_nil))) (pa_cons (pe_call GC hr (by rfl) gC FC.kp bC .nil pass0 (pa_cons (pv 0) (pa_cons pe_int pa_nil))) pa_nil))))
      (C8.pss_cut (ps_if (pt_cmpR op_eq (pe_op op_mod (pe_call GC hr (by rfl) gC FC.kp bC .nil pass0 (pa_cons (pv 0) (pa_cons pe_int pa_nil))) pe_int) pe_int (nomark _)) (pss_one (ps_set (i := 2) scLaw.nd rfl (.inl rfl) (pv 1))) pss_nil)
      (pss_cons (ps_set (i := 3) scLaw.nd rfl (.inl rfl) (pe_call GD hr (by rfl) gD FD.kp bD .nil pass0 (pa_cons (pe_call GC hr (by rfl) gC FC.kp bC .nil pass0 (pa_cons (pv 0) (pa_cons pe_int pa_nil))) (pa_cons (pe_call GC hr (by rfl) gC FC.kp bC .nil pass0 (pa_cons (pv 0) (pa_cons pe_int pa_nil))) pa_nil))))
      (C8.pss_cut (ps_set (i := 4) scLaw.nd rfl (.inl rfl) (pe_call GL hr (by rfl) gL FL.kp bL .nil pass0 (pa_cons (pv 1) (pa_cons (pv 2) pa_nil))))
      -- it tells True or False, by multiplying across
      (C8.pss_cut (ps_if (PW.pt (pw_or (pt_not (pt_val (pe_callB call_isi (by rfl) ms (by decide +kernel) (pa_cons (pv 4) (pa_cons (pe_bltn (v := .ty "bool") (by rfl) mb (u := .type "bool") (by decide +kernel) rfl) pa_nil)))))
          (pw_or1 (pt_cmpR op_ne (pv 4) (pe_cmpR op_lt
            (pe_op op_mulW (pe_ix ix_tup (pv 1) pe_int (fun _ _ => rfl)) (pe_ix ix_tup (pv 2) pe_int (fun _ _ => rfl)))
            (pe_op op_mulW (pe_ix ix_tup (pv 2) pe_int (fun _ _ => rfl)) (pe_ix ix_tup (pv 1) pe_int (fun _ _ => rfl))) (nomark _)) (nomark _)))))
        (pss_one (ps_ret pe_bl)) pss_nil)
      -- just one
      (C8.pss_cut (ps_if (pt_cmpR op_ne (pe_op op_add (pe_op op_add (pe_callTy call_int1 (by rfl) mi (by decide +kernel) (pa_cons (pv 4) pa_nil))
            (pe_callTy call_int1 (by rfl) mi (by decide +kernel) (pa_cons (pe_call GL hr (by rfl) gL FL.kp bL .nil pass0 (pa_cons (pv 2) (pa_cons (pv 1) pa_nil))) pa_nil)))
            (pe_callTy call_int1 (by rfl) mi (by decide +kernel) (pa_cons (pe_cmpR (op_eqD hr.units) (pv 1) (pv 2) (nomark _)) pa_nil))) pe_int (nomark _))
        (pss_one (ps_ret pe_bl)) pss_nil)
      -- the same put to both
      (C8.pss_cut (ps_if (pt_cmpR op_ne (pe_call GL hr (by rfl) gL FL.kp bL .nil pass0 (pa_cons (pe_call GP hr (by rfl) gP FP.kp bP .nil pass0 (pa_cons (pv 1) (pa_cons (pv 3) pa_nil))) (pa_cons (pe_call GP hr (by rfl) gP FP.kp bP .nil pass0 (pa_cons (pv 2) (pa_cons (pv 3) pa_nil))) pa_nil))) (pv 4) (nomark _))
        (pss_one (ps_ret pe_bl)) pss_nil)
      -- times one above nought
      (C8.pss_cut (ps_if (PW.pt (pw_and (pt_cmpR op_gt (pe_ix ix_tup (pv 3) pe_int (fun _ _ => rfl)) pe_int (nomark _))
          (pw_and1 (pt_cmpR op_ne (pe_call GL hr (by rfl) gL FL.kp bL .nil pass0 (pa_cons (pe_call GT hr (by rfl) gT FT.kp bT .nil pass0 (pa_cons (pv 1) (pa_cons (pv 3) pa_nil))) (pa_cons (pe_call GT hr (by rfl) gT FT.kp bT .nil pass0 (pa_cons (pv 2) (pa_cons (pv 3) pa_nil))) pa_nil))) (pv 4) (nomark _)))))
        (pss_one (ps_ret pe_bl)) pss_nil)
      -- times one below nought
      (C8.pss_cut (ps_if (PW.pt (pw_and (pt_cmpR op_lt (pe_ix ix_tup (pv 3) pe_int (fun _ _ => rfl)) pe_int (nomark _))
          (pw_and1 (pt_cmpR op_ne (pe_call GL hr (by rfl) gL FL.kp bL .nil pass0 (pa_cons (pe_call GT hr (by rfl) gT FT.kp bT .nil pass0 (pa_cons (pv 2) (pa_cons (pv 3) pa_nil))) (pa_cons (pe_call GT hr (by rfl) gT FT.kp bT .nil pass0 (pa_cons (pv 1) (pa_cons (pv 3) pa_nil))) pa_nil))) (pv 4) (nomark _)))))
        (pss_one (ps_ret pe_bl)) pss_nil)
      -- a sum and its part
      (C8.pss_cut (ps_if (pt_cmpR op_ne (pe_call GL hr (by rfl) gL FL.kp bL .nil pass0 (pa_cons (pe_call GP hr (by rfl) gP FP.kp bP .nil pass0 (pa_cons (pv 1) (pa_cons (pv 3) pa_nil))) (pa_cons (pv 1) pa_nil)))
          (pe_cmpR op_lt (pe_ix ix_tup (pv 3) pe_int (fun _ _ => rfl)) pe_int (nomark _)) (nomark _))
        (pss_one (ps_ret pe_bl)) pss_nil)
      -- one after another
      (C8.pss_cut (ps_if (PW.pt (pw_and (pt_val (pe_call GL hr (by rfl) gL FL.kp bL .nil pass0 (pa_cons (pv 1) (pa_cons (pv 3) pa_nil))))
          (pw_and (pt_val (pe_call GL hr (by rfl) gL FL.kp bL .nil pass0 (pa_cons (pv 3) (pa_cons (pv 2) pa_nil)))) (pw_and1 (pt_not (pt_val (pv 4)))))))
        (pss_one (ps_ret pe_bl)) pss_nil)
      (pss_one (ps_ret (pe_and (pe_cmpR op_eq (pe_call GS hr (by rfl) gS FS.kp bS .nil pass0 (pa_cons (pv 1) pa_nil)) (pe_call GG hr (by rfl) gG FG.kp bG .nil pass0 (pa_cons (pe_ix ix_tup (pv 1) pe_int (fun _ _ => rfl)) pa_nil)) (nomark _))
        (pe_one (pe_cmpR op_eq (pe_call GS hr (by rfl) gS FS.kp bS .nil pass0 (pa_cons (pe_call GT hr (by rfl) gT FT.kp bT .nil pass0 (pa_cons (pv 1) (pa_cons (pv 3) pa_nil))) pa_nil))
          (pe_op op_mul (pe_call GS hr (by rfl) gS FS.kp bS .nil pass0 (pa_cons (pv 1) pa_nil)) (pe_call GS hr (by rfl) gS FS.kp bS .nil pass0 (pa_cons (pv 3) pa_nil))) (nomark _))))))))))))))))), ?_⟩
    -- three fractions
    refine ⟨.ref a, rfl, a, ns, 0, rfl, hS, by decide, fun c0 => ?_⟩
    refine ⟨.ref a, rfl, a, ns, 1, rfl, hS, by decide, fun c1 => ?_⟩
    refine ⟨c0, c1, rfl, fun p1 n1 d1 H1 m1 s1 f1 => ?_⟩
    have hS1 := s1.seq hS
    refine ⟨.ref a, rfl, a, ns, 2, rfl, hS1, by decide, fun c2 => ?_⟩
    refine ⟨.ref a, rfl, a, ns, 3, rfl, hS1, by decide, fun c3 => ?_⟩
    refine ⟨c2, c3, rfl, fun p0 n0 d0 H2 m0 s2 f0 => ?_⟩
    have hS2 := s2.seq hS1
    have f1' := keepT s2 f1
    refine ⟨fun σ' H' => ∃ p2 n2 d2, σ' = [some (.ref a), some (.ref p1), some (.ref p2), none, none] ∧ Small n2 d2 ∧ Fr K H' p2 n2 d2 ∧ H' = H2, ?_, fun σ' H' hM => ?_⟩
    · refine ⟨.ref a, rfl, a, ns, 6, rfl, hS2, by decide, fun c6 => ?_⟩
      refine ⟨c6, 5, rfl, rfl, (by show (0 : Int) < 5; decide), rfl, _, rfl, ite2 (fun _ => ?_) (fun _ => ?_)⟩
      · exact ⟨.ref p1, rfl, p1, n1, d1, rfl, m1, f1', rfl⟩
      · exact ⟨p0, n0, d0, rfl, m0, f0, rfl⟩
    obtain ⟨p2, n2, d2, rfl, m2, f2, rfl⟩ := hM
    refine ⟨.ref a, rfl, a, ns, 4, rfl, hS2, by decide, fun c4 => ?_⟩
    refine ⟨.ref a, rfl, a, ns, 5, rfl, hS2, by decide, fun c5 => ?_⟩
    refine ⟨c4, c5, rfl, fun p3 n3 d3 H3 m3 s3 f3 => ?_⟩
    -- found
    refine ⟨Mid K a p1 p2 p3 n1 d1 n2 d2 n3 d3, ?_, fun σ4 H4 hM => ?_⟩
    · exact ⟨.ref p1, rfl, .ref p2, rfl, p1, p2, n1, d1, n2, d2, rfl, keepT s3 f1', keepT s3 f2, m1.t5, m1.b5, m2.t5, m2.b5, rfl, keepT s3 f1', keepT s3 f2, f3⟩
    obtain ⟨rfl, g1, g2, g3⟩ := hM
    refine ⟨Mid K a p1 p2 p3 n1 d1 n2 d2 n3 d3, ?_, fun σ5 H5 hM => ?_⟩
    · refine ⟨_, rfl, _, .ty "bool", .type "bool", .type "bool", true, rfl, .ty "bool", .base (.bl _), kit_ty (by decide +kernel), true, rfl, iteF ?_⟩
      refine ⟨_, rfl, q_top rfl g1 (q_bot rfl g2 ⟨n1, d2, rfl, rfl, m1.bt.w m2.bb, ?_⟩)⟩
      refine q_top rfl g2 (q_bot rfl g1 ⟨n2, d1, rfl, rfl, m2.bt.w m1.bb, _, _, rfl, rfl, rfl, _, rfl, iteNS rfl ?_⟩)
      exact ⟨rfl, g1, g2, g3⟩
    obtain ⟨rfl, g1, g2, g3⟩ := hM
    refine ⟨Mid K a p1 p2 p3 n1 d1 n2 d2 n3 d3, ?_, fun σ6 H6 hM => ?_⟩
    · refine ⟨_, rfl, .inr ⟨_, rfl, .ref p2, rfl, .ref p1, rfl, p2, p1, n2, d2, n1, d1, rfl, g2, g1, m2.t5, m2.b5, m1.t5, m1.b5, .inr ⟨_, rfl, _, _, rfl, rfl, ?_⟩⟩⟩
      refine ⟨.ref p1, rfl, .ref p2, rfl, _, _, dp_fr g1, dp_fr g2, shaped_pair n1 d1, shaped_pair n2 d2, .inr ⟨_, rfl, _, _, rfl, rfl, rfl, _, rfl, iteNS ?_ ?_⟩⟩
      · rw [eqv_pair]
        exact congrArg V.int (just_one m1.pos m2.pos m1.co m2.co)
      · exact ⟨rfl, g1, g2, g3⟩
    obtain ⟨rfl, g1, g2, g3⟩ := hM
    refine ⟨Mid K a p1 p2 p3 n1 d1 n2 d2 n3 d3, ?_, fun σ7 H7 hM => ?_⟩
    · refine ⟨.ref p1, rfl, .ref p3, rfl, p1, p3, n1, d1, n3, d3, rfl, g1, g3, m1, m3, fun q1 x1 y1 Ha l1 sa fa => ?_⟩
      refine ⟨.ref p2, rfl, .ref p3, rfl, p2, p3, n2, d2, n3, d3, rfl, keepT sa g2, keepT sa g3, m2, m3, fun q2 x2 y2 Hb l2 sb fb => ?_⟩
      have b1 := plus_bd m1 m3 l1
      have b2 := plus_bd m2 m3 l2
      have sc := sa.trans sb
      refine ⟨q1, q2, x1, y1, x2, y2, rfl, keepT sb fa, fb, b1.1, b1.2, b2.1, b2.2, _, rfl, rfl, _, rfl, iteNS (bl_eq (plus_keeps m3.pos l1 l2)) ?_⟩
      exact ⟨rfl, keepT sc g1, keepT sc g2, keepT sc g3⟩
    obtain ⟨rfl, g1, g2, g3⟩ := hM
    refine ⟨Mid K a p1 p2 p3 n1 d1 n2 d2 n3 d3, ?_, fun σ8 H8 hM => ?_⟩
    · refine q_top rfl g3 ⟨n3, 0, rfl, rfl, _, rfl, ite2 (fun hd => ?_) (fun hd => iteF ⟨rfl, g1, g2, g3⟩)⟩
      have h0 : 0 < n3 := of_decide_eq_true hd
      refine ⟨.ref p1, rfl, .ref p3, rfl, p1, p3, n1, d1, n3, d3, rfl, g1, g3, m1, m3, fun q1 x1 y1 Ha l1 sa fa => ?_⟩
      refine ⟨.ref p2, rfl, .ref p3, rfl, p2, p3, n2, d2, n3, d3, rfl, keepT sa g2, keepT sa g3, m2, m3, fun q2 x2 y2 Hb l2 sb fb => ?_⟩
      have b1 := times_bd m1 m3 l1
      have b2 := times_bd m2 m3 l2
      have sc := sa.trans sb
      refine ⟨q1, q2, x1, y1, x2, y2, rfl, keepT sb fa, fb, b1.1, b1.2, b2.1, b2.2, _, rfl, rfl, _, rfl, iteNS (bl_eq (times_keeps m3.pos h0 l1 l2)) ?_⟩
      exact ⟨rfl, keepT sc g1, keepT sc g2, keepT sc g3⟩
    obtain ⟨rfl, g1, g2, g3⟩ := hM
    refine ⟨Mid K a p1 p2 p3 n1 d1 n2 d2 n3 d3, ?_, fun σ9 H9 hM => ?_⟩
    · refine q_top rfl g3 ⟨n3, 0, rfl, rfl, _, rfl, ite2 (fun hd => ?_) (fun hd => iteF ⟨rfl, g1, g2, g3⟩)⟩
      have h0 : n3 < 0 := of_decide_eq_true hd
      refine ⟨.ref p2, rfl, .ref p3, rfl, p2, p3, n2, d2, n3, d3, rfl, g2, g3, m2, m3, fun q1 x1 y1 Ha l1 sa fa => ?_⟩
      refine ⟨.ref p1, rfl, .ref p3, rfl, p1, p3, n1, d1, n3, d3, rfl, keepT sa g1, keepT sa g3, m1, m3, fun q2 x2 y2 Hb l2 sb fb => ?_⟩
      have b1 := times_bd m2 m3 l1
      have b2 := times_bd m1 m3 l2
      have sc := sa.trans sb
      refine ⟨q1, q2, x1, y1, x2, y2, rfl, keepT sb fa, fb, b1.1, b1.2, b2.1, b2.2, _, rfl, rfl, _, rfl, iteNS (bl_eq (times_turns m3.pos h0 l1 l2)) ?_⟩
      exact ⟨rfl, keepT sc g1, keepT sc g2, keepT sc g3⟩
    obtain ⟨rfl, g1, g2, g3⟩ := hM
    refine ⟨Mid K a p1 p2 p3 n1 d1 n2 d2 n3 d3, ?_, fun σ10 H10 hM => ?_⟩
    · refine ⟨.ref p1, rfl, .ref p3, rfl, p1, p3, n1, d1, n3, d3, rfl, g1, g3, m1, m3, fun q1 x1 y1 Ha l1 sa fa => ?_⟩
      have b1 := plus_bd m1 m3 l1
      refine ⟨.ref p1, rfl, q1, p1, x1, y1, n1, d1, rfl, fa, keepT sa g1, b1.1, b1.2, m1.t5, m1.b5, q_top rfl (keepT sa g3) ⟨n3, 0, rfl, rfl, rfl, _, rfl, iteNS (bl_eq (plus_part m1.pos m1.co l1)) ?_⟩⟩
      exact ⟨rfl, keepT sa g1, keepT sa g2, keepT sa g3⟩
    obtain ⟨rfl, g1, g2, g3⟩ := hM
    refine ⟨Mid K a p1 p2 p3 n1 d1 n2 d2 n3 d3, ?_, fun σ11 H11 hM => ?_⟩
    · refine ⟨.ref p1, rfl, .ref p3, rfl, p1, p3, n1, d1, n3, d3, rfl, g1, g3, m1.t5, m1.b5, m3.t5, m3.b5, _, rfl, ite2 (fun ha => ?_) (fun _ => iteF ⟨rfl, g1, g2, g3⟩)⟩
      refine ⟨.ref p3, rfl, .ref p2, rfl, p3, p2, n3, d3, n2, d2, rfl, g3, g2, m3.t5, m3.b5, m2.t5, m2.b5, _, rfl, ite2 (fun hb => ?_) (fun _ => iteF ⟨rfl, g1, g2, g3⟩)⟩
      have hc : decide (n1 * d2 < n2 * d1) = true := decide_eq_true (trans_lt m1.pos m2.pos m3.pos (of_decide_eq_true ha) (of_decide_eq_true hb))
      refine ⟨_, rfl, _, rfl, ?_⟩
      rw [hc]
      refine iteF ?_
      exact ⟨by rw [hc], g1, g2, g3⟩
    obtain ⟨rfl, g1, g2, g3⟩ := hM
    -- the signs
    refine ⟨.ref p1, rfl, p1, n1, d1, rfl, g1, q_top rfl g1 ⟨n1, rfl, rfl, _, rfl, ?_⟩⟩
    refine iteP (decide_eq_true rfl) ?_
    refine ⟨.ref p1, rfl, .ref p3, rfl, p1, p3, n1, d1, n3, d3, rfl, g1, g3, m1, m3, fun q1 x1 y1 Ha l1 sa fa => ?_⟩
    refine ⟨q1, x1, y1, rfl, fa, .ref p1, rfl, p1, n1, d1, rfl, keepT sa g1, .ref p3, rfl, p3, n3, d3, rfl, keepT sa g3, _, _, rfl, rfl, .inl (sg_small n1), rfl, ?_⟩
    have e : V.int (sg x1) = V.int (sg n1 * sg n3) := congrArg V.int ((sg_low l1).trans (sg_mul n1 n3))
    rw [decide_eq_true e]
    exact q _
end
end Law05

namespace Law05
open PySem PySem.Spec PyProof.Rows L2
/-! ### what the top has left: where each def stands; the names that are free -/
theorem all_mk {l : PySem.W.OpenLaw} {w : World} {K : PySem.W.Frag} {h : Heap} {mg : Str → Option Value} {fa f1 f2 f3 f4 f5 f6 f7 f8 f9 f10 f11 f12 : Addr} (X : K.In h) (G : h.Ns mainGlobals mg) (hfa : mg "law" = some (.ref fa))
    {od1 an1 od2 an2 od3 an3 od4 an4 od5 an5 od6 an6 od7 an7 od8 an8 od9 an9 od10 an10 od11 an11 od12 an12 : Option Addr}
    {sl1 sl2 sl3 sl4 sl5 sl6 sl7 sl8 sl9 sl10 sl11 sl12 : Array (Option Value)}
    {oc1 kV1 dc1 pm1 cd1 ct1 oc2 kV2 dc2 pm2 cd2 ct2 oc3 kV3 dc3 pm3 cd3 ct3 oc4 kV4 dc4 pm4 cd4 ct4 oc5 kV5 dc5 pm5 cd5 ct5 oc6 kV6 dc6 pm6 cd6 ct6 oc7 kV7 dc7 pm7 cd7 ct7 oc8 kV8 dc8 pm8 cd8 ct8 oc9 kV9 dc9 pm9 cd9 ct9 oc10 kV10 dc10 pm10 cd10 ct10 oc11 kV11 dc11 pm11 cd11 ct11 oc12 kV12 dc12 pm12 cd12 ct12 : Value}
    (a1 : PySem.W.nsIn K mainGlobals "divisor" = some (some (.ref f1)))
    (l1 : K.lookup f1 = some ⟨oc1, od1, .func (PySem.W.fnOf "divisor" "divisor" (defArgs sDiv) (defBody sDiv) (defScope sDiv) .none kV1 dc1 pm1 an1 cd1 ct1), sl1⟩)
    (c1 : PySem.W.codeIn K cd1 "divisor" = true) (k1 : PySem.W.keepIn K (.ref f1) = true)
    (a2 : PySem.W.nsIn K mainGlobals "fraction" = some (some (.ref f2)))
    (l2 : K.lookup f2 = some ⟨oc2, od2, .func (PySem.W.fnOf "fraction" "fraction" (defArgs sFra) (defBody sFra) (defScope sFra) .none kV2 dc2 pm2 an2 cd2 ct2), sl2⟩)
    (c2 : PySem.W.codeIn K cd2 "fraction" = true) (k2 : PySem.W.keepIn K (.ref f2) = true)
    (a3 : PySem.W.nsIn K mainGlobals "plus" = some (some (.ref f3)))
    (l3 : K.lookup f3 = some ⟨oc3, od3, .func (PySem.W.fnOf "plus" "plus" (defArgs sPlu) (defBody sPlu) (defScope sPlu) .none kV3 dc3 pm3 an3 cd3 ct3), sl3⟩)
    (c3 : PySem.W.codeIn K cd3 "plus" = true) (k3 : PySem.W.keepIn K (.ref f3) = true)
    (a4 : PySem.W.nsIn K mainGlobals "times" = some (some (.ref f4)))
    (l4 : K.lookup f4 = some ⟨oc4, od4, .func (PySem.W.fnOf "times" "times" (defArgs sTim) (defBody sTim) (defScope sTim) .none kV4 dc4 pm4 an4 cd4 ct4), sl4⟩)
    (c4 : PySem.W.codeIn K cd4 "times" = true) (k4 : PySem.W.keepIn K (.ref f4) = true)
    (a5 : PySem.W.nsIn K mainGlobals "less" = some (some (.ref f5)))
    (l5 : K.lookup f5 = some ⟨oc5, od5, .func (PySem.W.fnOf "less" "less" (defArgs sLes) (defBody sLes) (defScope sLes) .none kV5 dc5 pm5 an5 cd5 ct5), sl5⟩)
    (c5 : PySem.W.codeIn K cd5 "less" = true) (k5 : PySem.W.keepIn K (.ref f5) = true)
    (a6 : PySem.W.nsIn K mainGlobals "sign" = some (some (.ref f6)))
    (l6 : K.lookup f6 = some ⟨oc6, od6, .func (PySem.W.fnOf "sign" "sign" (defArgs sSig) (defBody sSig) (defScope sSig) .none kV6 dc6 pm6 an6 cd6 ct6), sl6⟩)
    (c6 : PySem.W.codeIn K cd6 "sign" = true) (k6 : PySem.W.keepIn K (.ref f6) = true)
    (a7 : PySem.W.nsIn K mainGlobals "_law_cell_at" = some (some (.ref f7)))
    (l7 : K.lookup f7 = some ⟨oc7, od7, .func (PySem.W.fnOf "_law_cell_at" "_law_cell_at" (defArgs sCel) (defBody sCel) (defScope sCel) .none kV7 dc7 pm7 an7 cd7 ct7), sl7⟩)
    (c7 : PySem.W.codeIn K cd7 "_law_cell_at" = true) (k7 : PySem.W.keepIn K (.ref f7) = true)
    (a8 : PySem.W.nsIn K mainGlobals "_law_gcd" = some (some (.ref f8)))
    (l8 : K.lookup f8 = some ⟨oc8, od8, .func (PySem.W.fnOf "_law_gcd" "_law_gcd" (defArgs sGcd) (defBody sGcd) (defScope sGcd) .none kV8 dc8 pm8 an8 cd8 ct8), sl8⟩)
    (c8 : PySem.W.codeIn K cd8 "_law_gcd" = true) (k8 : PySem.W.keepIn K (.ref f8) = true)
    (a9 : PySem.W.nsIn K mainGlobals "_law_ratio" = some (some (.ref f9)))
    (l9 : K.lookup f9 = some ⟨oc9, od9, .func (PySem.W.fnOf "_law_ratio" "_law_ratio" (defArgs sRat) (defBody sRat) (defScope sRat) .none kV9 dc9 pm9 an9 cd9 ct9), sl9⟩)
    (c9 : PySem.W.codeIn K cd9 "_law_ratio" = true) (k9 : PySem.W.keepIn K (.ref f9) = true)
    (a10 : PySem.W.nsIn K mainGlobals "_law_drawn" = some (some (.ref f10)))
    (l10 : K.lookup f10 = some ⟨oc10, od10, .func (PySem.W.fnOf "_law_drawn" "_law_drawn" (defArgs sDra) (defBody sDra) (defScope sDra) .none kV10 dc10 pm10 an10 cd10 ct10), sl10⟩)
    (c10 : PySem.W.codeIn K cd10 "_law_drawn" = true) (k10 : PySem.W.keepIn K (.ref f10) = true)
    (a11 : PySem.W.nsIn K mainGlobals "_law_sign" = some (some (.ref f11)))
    (l11 : K.lookup f11 = some ⟨oc11, od11, .func (PySem.W.fnOf "_law_sign" "_law_sign" (defArgs sSgn) (defBody sSgn) (defScope sSgn) .none kV11 dc11 pm11 an11 cd11 ct11), sl11⟩)
    (c11 : PySem.W.codeIn K cd11 "_law_sign" = true) (k11 : PySem.W.keepIn K (.ref f11) = true)
    (a12 : PySem.W.nsIn K mainGlobals "law" = some (some (.ref f12)))
    (l12 : K.lookup f12 = some ⟨oc12, od12, .func (PySem.W.fnOf "law" "law" (defArgs sLaw) (defBody sLaw) (defScope sLaw) .none kV12 dc12 pm12 an12 cd12 ct12), sl12⟩)
    (c12 : PySem.W.codeIn K cd12 "law" = true) (k12 : PySem.W.keepIn K (.ref f12) = true)
    (z1 : PySem.W.nsIn K mainGlobals "abs" = some none)
    (z2 : PySem.W.nsIn K mainGlobals "len" = some none)
    (z3 : PySem.W.nsIn K mainGlobals "int" = some none)
    (z4 : PySem.W.nsIn K mainGlobals "bool" = some none)
    (z5 : PySem.W.nsIn K mainGlobals "isinstance" = some none) :
    ∃ fd : FuncData, (∀ (s : Shared) (v : Value), BindsTo s fd ⟨[v], []⟩ [("_law_script", v)]) ∧ ∀ base : Heap, K.In base → base.Ns mainGlobals mg → FnOk l.prog w K mg base CX0 4 fa fd ["_law_script"] (spLaw K) := by
  have e := hfa.symm.trans (PySem.W.mg_of X G a12)
  cases e
  have F1 := fun_mk (st := sDiv) l1 c1 k1
  have F2 := fun_mk (st := sFra) l2 c2 k2
  have F3 := fun_mk (st := sPlu) l3 c3 k3
  have F4 := fun_mk (st := sTim) l4 c4 k4
  have F5 := fun_mk (st := sLes) l5 c5 k5
  have F6 := fun_mk (st := sSig) l6 c6 k6
  have F7 := fun_mk (st := sCel) l7 c7 k7
  have F8 := fun_mk (st := sGcd) l8 c8 k8
  have F9 := fun_mk (st := sRat) l9 c9 k9
  have F10 := fun_mk (st := sDra) l10 c10 k10
  have F11 := fun_mk (st := sSgn) l11 c11 k11
  have F12 := fun_mk (st := sLaw) l12 c12 k12
  have b1 := F1.binds (ps := ["one", "other"]) fun _ _ _ _ _ _ us hl => match us, hl with | [_, _], _ => rfl
  have b2 := F2.binds (ps := ["top", "bottom"]) fun _ _ _ _ _ _ us hl => match us, hl with | [_, _], _ => rfl
  have b3 := F3.binds (ps := ["one", "other"]) fun _ _ _ _ _ _ us hl => match us, hl with | [_, _], _ => rfl
  have b4 := F4.binds (ps := ["one", "other"]) fun _ _ _ _ _ _ us hl => match us, hl with | [_, _], _ => rfl
  have b5 := F5.binds (ps := ["one", "other"]) fun _ _ _ _ _ _ us hl => match us, hl with | [_, _], _ => rfl
  have b6 := F6.binds (ps := ["one"]) fun _ _ _ _ _ _ us hl => match us, hl with | [_], _ => rfl
  have b7 := F7.binds (ps := ["_law_script", "_law_k"]) fun _ _ _ _ _ _ us hl => match us, hl with | [_, _], _ => rfl
  have b8 := F8.binds (ps := ["_law_one", "_law_other"]) fun _ _ _ _ _ _ us hl => match us, hl with | [_, _], _ => rfl
  have b9 := F9.binds (ps := ["_law_top", "_law_bottom"]) fun _ _ _ _ _ _ us hl => match us, hl with | [_, _], _ => rfl
  have b10 := F10.binds (ps := ["_law_cell", "_law_other"]) fun _ _ _ _ _ _ us hl => match us, hl with | [_, _], _ => rfl
  have b11 := F11.binds (ps := ["_law_found"]) fun _ _ _ _ _ _ us hl => match us, hl with | [_], _ => rfl
  have g1 := PySem.W.mg_of X G a1
  have g2 := PySem.W.mg_of X G a2
  have g3 := PySem.W.mg_of X G a3
  have g4 := PySem.W.mg_of X G a4
  have g5 := PySem.W.mg_of X G a5
  have g6 := PySem.W.mg_of X G a6
  have g7 := PySem.W.mg_of X G a7
  have g8 := PySem.W.mg_of X G a8
  have g9 := PySem.W.mg_of X G a9
  have g10 := PySem.W.mg_of X G a10
  have g11 := PySem.W.mg_of X G a11
  have m1 := PySem.W.mg_none_of X G z1
  have m2 := PySem.W.mg_none_of X G z2
  have m3 := PySem.W.mg_none_of X G z3
  have m4 := PySem.W.mg_none_of X G z4
  have m5 := PySem.W.mg_none_of X G z5
  refine ⟨PySem.W.fnOf "law" "law" (defArgs sLaw) (defBody sLaw) (defScope sLaw) .none kV12 dc12 pm12 an12 cd12 ct12, fun s v => .of_eq rfl, fun base _ _ => ?_⟩
  have K1 : FnOk l.prog w K mg base CX0 1 f1 _ ["one", "other"] spGcd := ok_div F1 m1
  have K2 : FnOk l.prog w K mg base CX0 2 f2 _ ["top", "bottom"] (spFra K) := ok_fra F2 F1 b1 g1 K1
  have K3 : FnOk l.prog w K mg base CX0 3 f3 _ ["one", "other"] (spPlu K) := ok_plu F3 F2 b2 g2 K2
  have K4 : FnOk l.prog w K mg base CX0 3 f4 _ ["one", "other"] (spTim K) := ok_tim F4 F2 b2 g2 K2
  have K5 : FnOk l.prog w K mg base CX0 3 f5 _ ["one", "other"] (spLes K) := ok_les F5
  have K6 : FnOk l.prog w K mg base CX0 3 f6 _ ["one"] (spSig K) := ok_sig F6
  have K7 : FnOk l.prog w K mg base CX0 3 f7 _ ["_law_script", "_law_k"] (spCel K) := ok_cel F7 m2
  have K8 : FnOk l.prog w K mg base CX0 1 f8 _ ["_law_one", "_law_other"] spGcd := ok_gcd F8 m1
  have K9 : FnOk l.prog w K mg base CX0 2 f9 _ ["_law_top", "_law_bottom"] (spFra K) := ok_rat F9 F8 b8 g8 K8
  have K10 : FnOk l.prog w K mg base CX0 3 f10 _ ["_law_cell", "_law_other"] (spDra K) := ok_dra F10 F9 b9 g9 K9
  have K11 : FnOk l.prog w K mg base CX0 3 f11 _ ["_law_found"] spSgn := ok_sgn F11 m3
  exact ok_law F12 F7 b7 g7 K7 F10 b10 g10 K10 F5 b5 g5 K5 F3 b3 g3 K3 F4 b4 g4 K4 F6 b6 g6 K6 F11 b11 g11 K11 m3 m4 m5
end Law05
open PySem PySem.W PyProof.Rows
set_option maxRecDepth 100000 in
set_option maxHeartbeats 0 in
theorem PySem.Challenge.cw_rootcourt_k05_whole_order_of_fractions_holds : PySem.Challenge.rw_rootcourt_k05_whole_order_of_fractions.Holds := by
  w_on; o_law; k_head; (case hw => w_witness2)
  k_fill
  refine L2.walk_of (l := PySem.Challenge.rw_rootcourt_k05_whole_order_of_fractions) (n := 63) (k := 4) (x := "_law_script") (CX := fun _ => L2.CX0) (sp := fun w => Law05.spLaw _) rfl (by decide) rfl ⟨rfl, by decide, by decide⟩ (fun w h Y => PySem.W.kIn_of Y) ?F (fun _ _ a ns hl _ hS => ⟨a, ns, rfl, hS, hl, fun _ => rfl⟩) (fun _ _ _ _ _ h => h)
  case F =>
    intro w mg fa h KX G hmg
    refine' Law05.all_mk KX G hmg ?a1 ?l1 ?c1 ?k1 ?a2 ?l2 ?c2 ?k2 ?a3 ?l3 ?c3 ?k3 ?a4 ?l4 ?c4 ?k4 ?a5 ?l5 ?c5 ?k5 ?a6 ?l6 ?c6 ?k6 ?a7 ?l7 ?c7 ?k7 ?a8 ?l8 ?c8 ?k8 ?a9 ?l9 ?c9 ?k9 ?a10 ?l10 ?c10 ?k10 ?a11 ?l11 ?c11 ?k11 ?a12 ?l12 ?c12 ?k12 ?z1 ?z2 ?z3 ?z4 ?z5
    (case a1 => k_is); (case l1 => k_is); (case c1 => k_is); (case k1 => k_is)
    (case a2 => k_is); (case l2 => k_is); (case c2 => k_is); (case k2 => k_is)
    (case a3 => k_is); (case l3 => k_is); (case c3 => k_is); (case k3 => k_is)
    (case a4 => k_is); (case l4 => k_is); (case c4 => k_is); (case k4 => k_is)
    (case a5 => k_is); (case l5 => k_is); (case c5 => k_is); (case k5 => k_is)
    (case a6 => k_is); (case l6 => k_is); (case c6 => k_is); (case k6 => k_is)
    (case a7 => k_is); (case l7 => k_is); (case c7 => k_is); (case k7 => k_is)
    (case a8 => k_is); (case l8 => k_is); (case c8 => k_is); (case k8 => k_is)
    (case a9 => k_is); (case l9 => k_is); (case c9 => k_is); (case k9 => k_is)
    (case a10 => k_is); (case l10 => k_is); (case c10 => k_is); (case k10 => k_is)
    (case a11 => k_is); (case l11 => k_is); (case c11 => k_is); (case k11 => k_is)
    (case a12 => k_is); (case l12 => k_is); (case c12 => k_is); (case k12 => k_is)
    (case z1 => k_is); (case z2 => k_is); (case z3 => k_is); (case z4 => k_is); (case z5 => k_is)
