import PyProof.Rows.All
import Si43Spec
import HandS.ForSpec
import HandS.Codes
import HandS.Comp
import HandS.Dict
import HandS.Iter
import HandS.Walk
import HandS.Evl
import HandS.Steps
import HandS.NoneIn
import HandS.RevRange
import HandS.ExcInit
import HandS.ExcField
import HandS.SortKw
import HandS.Strs
import PySem.Challenge.RW_proofrounds_s01_answers
import KE.DataMinMax
import HandS.SetFor
import KE.KDictCopyH
import KE.KDictList
import PySi43
import Wide.All
import OpenK.AllK
import Wide.FinOn
import PyProof.EqAt
import PyProof.EqKinds
import PyProof.TupleCall
import Open.SpecLaws
import KE.OsGo
import KE.OsRun
section
/-! The ways: costs by recursion, the way by recursion, slots as counts, runs as places. Plain Lean about the specification alone. -/
set_option Elab.async false
namespace Pf
open Si38
/-- what the cheapest way costs -/
def cst (k : Costs) : Text → Text → Nat
  | [], [] => 0
  | [], _ :: y => cst k [] y + k.into
  | _ :: x, [] => cst k x [] + k.out
  | a :: x, b :: y => min (cst k x y + pairCost k a b) (min (cst k x (b :: y) + k.out) (cst k (a :: x) y + k.into))
termination_by x y => x.length + y.length
/-- all rests of a text -/
def tls : Text → List Text
  | [] => [[]]
  | a :: x => (a :: x) :: tls x
theorem tls_head (y : Text) : ∃ r, tls y = y :: r := by
  cases y with
  | nil => exact ⟨[], rfl⟩
  | cons a x => exact ⟨tls x, rfl⟩
theorem lastRow_eq (k : Costs) : ∀ y : Text, lastRow k y = (tls y).map (cst k [])
  | [] => by simp [lastRow, tls, cst]
  | b :: y => by
    have ih := lastRow_eq k y
    obtain ⟨r, e⟩ := tls_head y
    simp only [lastRow, tls, List.map_cons]
    rw [ih, e]
    simp [cst]
theorem nextRow_eq (k : Costs) (a : Nat) (x : Text) : ∀ y : Text, nextRow k a y ((tls y).map (cst k x)) = (tls y).map (cst k (a :: x))
  | [] => by simp [nextRow, tls, cst]
  | b :: y => by
    have ih := nextRow_eq k a x y
    obtain ⟨r, e⟩ := tls_head y
    have e1 : (tls (b :: y)).map (cst k x) = cst k x (b :: y) :: (tls y).map (cst k x) := rfl
    have e2 : (tls (b :: y)).map (cst k (a :: x)) = cst k (a :: x) (b :: y) :: (tls y).map (cst k (a :: x)) := rfl
    rw [e1, e2]
    simp only [nextRow, List.drop_succ_cons, List.drop_zero, List.headD_cons]
    rw [ih, e]
    simp [cst]
theorem table_eq (k : Costs) (y : Text) : ∀ x : Text, table k y x = (tls x).map fun z => (tls y).map (cst k z)
  | [] => by simp [table, tls, lastRow_eq]
  | a :: x => by
    have ih := table_eq k y x
    obtain ⟨r, e⟩ := tls_head x
    simp only [table, tls, List.map_cons]
    rw [ih]
    congr 1
    rw [e]
    simp [nextRow_eq]
theorem least_eq (k : Costs) (x y : Text) : least k x y = cst k x y := by
  unfold least
  rw [table_eq]
  obtain ⟨r, e⟩ := tls_head x
  obtain ⟨s, f⟩ := tls_head y
  rw [e, f]
  rfl
/-- the way -/
def wy (k : Costs) : Text → Text → List Step
  | [], [] => []
  | [], b :: s => .into b :: wy k [] s
  | a :: r, [] => .out a :: wy k r []
  | a :: r, b :: s => if cst k (a :: r) (b :: s) = cst k r s + pairCost k a b then .both a b :: wy k r s
    else if cst k (a :: r) (b :: s) = cst k r (b :: s) + k.out then .out a :: wy k r (b :: s) else .into b :: wy k (a :: r) s
termination_by x y => x.length + y.length
theorem walk_eq (k : Costs) : ∀ (n : Nat) (x y : Text), x.length + y.length ≤ n → walk k n x y ((tls x).map fun z => (tls y).map (cst k z)) = wy k x y
  | 0, x, y, h => by
    have hx : x = [] := List.eq_nil_of_length_eq_zero (by omega)
    have hy : y = [] := List.eq_nil_of_length_eq_zero (by omega)
    subst hx hy
    simp [walk, wy]
  | n + 1, [], [], _ => by simp [walk, wy]
  | n + 1, [], b :: s, h => by
    have ih := walk_eq k n [] s (by simpa using h)
    rw [walk, wy]
    congr 1
  | n + 1, a :: r, [], h => by
    have ih := walk_eq k n r [] (by simp at h ⊢; omega)
    rw [walk, wy]
    congr 1
  | n + 1, a :: r, b :: s, h => by
    have h' : r.length + s.length + 1 ≤ n := by simp at h; omega
    have i1 := walk_eq k n r s (by omega)
    have i2 := walk_eq k n r (b :: s) (by simp; omega)
    have i3 := walk_eq k n (a :: r) s (by simp; omega)
    have hd : (((tls (a :: r)).map fun z => (tls (b :: s)).map (cst k z)).headD []).headD 0 = cst k (a :: r) (b :: s) := rfl
    have dr : ((tls (a :: r)).map fun z => (tls (b :: s)).map (cst k z)).drop 1 = (tls r).map fun z => (tls (b :: s)).map (cst k z) := rfl
    have dr2 : (((tls (a :: r)).map fun z => (tls (b :: s)).map (cst k z)).map fun r => r.drop 1) = (tls (a :: r)).map fun z => (tls s).map (cst k z) := by
      rw [List.map_map]
      rfl
    have dr3 : (((tls r).map fun z => (tls (b :: s)).map (cst k z)).map fun r => r.drop 1) = (tls r).map fun z => (tls s).map (cst k z) := by
      rw [List.map_map]
      rfl
    have bl : ((tls r).map fun z => (tls (b :: s)).map (cst k z)).headD [] = (tls (b :: s)).map (cst k r) := by
      obtain ⟨q, e⟩ := tls_head r
      rw [e]
      rfl
    have bl1 : (((tls (b :: s)).map (cst k r)).drop 1).headD 0 = cst k r s := by
      obtain ⟨q, e⟩ := tls_head s
      show ((tls s).map (cst k r)).headD 0 = _
      rw [e]
      rfl
    have bl2 : ((tls (b :: s)).map (cst k r)).headD 0 = cst k r (b :: s) := rfl
    rw [wy, walk]
    simp only [hd, dr, bl, bl1, bl2, dr2, dr3]
    rw [i1, i2, i3]
theorem beside_eq (k : Costs) (x y : Text) : beside k x y = wy k x y := by
  unfold beside
  rw [table_eq]
  exact walk_eq k _ x y (Nat.le_refl _)
/-! ### what steps take of a base and of a copy -/
def stB : Step → Text
  | .both a _ => [a]
  | .out a => [a]
  | .into _ => []
def stC : Step → Text
  | .both _ b => [b]
  | .out _ => []
  | .into b => [b]
theorem wy_base (k : Costs) : ∀ (n : Nat) (x y : Text), x.length + y.length = n → (wy k x y).flatMap stB = x ∧ (wy k x y).flatMap stC = y := by
  intro n
  induction n using Nat.strongRecOn with
  | _ n ih =>
    intro x y h
    cases x with
    | nil => cases y with
      | nil => simp [wy]
      | cons b s =>
        have i := ih s.length (by simp at h; omega) [] s (by simp)
        rw [wy]
        simp [i.1, i.2, stB, stC]
    | cons a r => cases y with
      | nil =>
        have i := ih r.length (by simp at h; omega) r [] (by simp)
        rw [wy]
        simp [i.1, i.2, stB, stC]
      | cons b s =>
        simp only [List.length_cons] at h
        have i1 := ih (r.length + s.length) (by omega) r s rfl
        have i2 := ih (r.length + (b :: s).length) (by simp; omega) r (b :: s) rfl
        have i3 := ih ((a :: r).length + s.length) (by simp; omega) (a :: r) s rfl
        rw [wy]
        split
        · simp [i1.1, i1.2, stB, stC]
        · split
          · simp [i2.1, i2.2, stB, stC]
          · simp [i3.1, i3.2, stB, stC]
/-! ### slots as counts and as what is varied -/
def cntF : Nat → List Step → List Nat
  | g, [] => [g]
  | g, .into _ :: l => cntF (g + 1) l
  | g, .both _ _ :: l => g :: 1 :: cntF 0 l
  | g, .out _ :: l => g :: 0 :: cntF 0 l
def varF : Bool → List Step → List Bool
  | v, [] => [v]
  | _, .into _ :: l => varF true l
  | v, .both a b :: l => v :: (a != b) :: varF false l
  | v, .out _ :: l => v :: true :: varF false l
theorem slots_len : ∀ (l : List Step) (g : List Nat), (slotsFrom g l).map List.length = cntF g.length l
  | [], g => rfl
  | .into b :: l, g => by
    rw [slotsFrom, cntF, slots_len l]
    simp
  | .both a b :: l, g => by
    rw [slotsFrom, cntF, List.map_cons, List.map_cons, slots_len l]
    simp
  | .out a :: l, g => by
    rw [slotsFrom, cntF, List.map_cons, List.map_cons, slots_len l]
    simp
theorem bne_nil (g : List Nat) : (g != []) = !g.isEmpty := by cases g <;> simp
theorem slots_var : ∀ (l : List Step) (g : List Nat), List.zipWith (fun o s => s != o) (own (l.flatMap stB)) (slotsFrom g l) = varF (!g.isEmpty) l
  | [], g => by
    simp [own, slotsFrom, varF, bne_nil]
  | .into b :: l, g => by
    have ih := slots_var l (g ++ [b])
    have e : (!(g ++ [b]).isEmpty) = true := by simp
    rw [e] at ih
    simpa [slotsFrom, varF, stB] using ih
  | .both a b :: l, g => by
    have ih := slots_var l []
    rw [slotsFrom, varF]
    simp only [List.flatMap_cons, stB, List.cons_append, List.nil_append, own, List.zipWith_cons_cons]
    rw [ih, bne_nil]
    have e : (([b] : List Nat) != [a]) = (a != b) := by
      rw [Bool.eq_iff_iff, bne_iff_ne, bne_iff_ne]
      constructor
      · intro h z
        exact h (by rw [z])
      · intro h z
        exact h (List.cons.inj z).1.symm
    rw [e]
    rfl
  | .out a :: l, g => by
    have ih := slots_var l []
    rw [slotsFrom, varF]
    simp only [List.flatMap_cons, stB, List.cons_append, List.nil_append, own, List.zipWith_cons_cons]
    rw [ih, bne_nil]
    rfl
theorem own_len (x : Text) : (own x).length = 2 * x.length + 1 := by
  induction x with
  | nil => rfl
  | cons a x ih => simp [own, ih]; omega
theorem slotsF_len : ∀ (l : List Step) (g : List Nat), (slotsFrom g l).length = 2 * (l.flatMap stB).length + 1
  | [], g => rfl
  | .into b :: l, g => by
    rw [slotsFrom, slotsF_len l]
    simp [stB]
  | .both a b :: l, g => by
    rw [slotsFrom]
    simp [slotsF_len l, stB]; omega
  | .out a :: l, g => by
    rw [slotsFrom]
    simp [slotsF_len l, stB]; omega
theorem zipIdx_get {α β : Type} (f : α → β → Bool) (d : β) : ∀ (l : List α) (m : List β) (n : Nat) (pre : List β), pre.length = n → l.length = m.length →
    (l.zipIdx n).map (fun x => f x.1 ((pre ++ m).getD x.2 d)) = List.zipWith f l m
  | [], m, n, pre, _, h => by
    simp
  | a :: l, [], n, pre, _, h => by simp at h
  | a :: l, b :: m, n, pre, hp, h => by
    have ih := zipIdx_get f d l m (n + 1) (pre ++ [b]) (by simp [hp]) (by simpa using h)
    rw [List.zipIdx_cons, List.map_cons, List.zipWith_cons_cons]
    congr 1
    · have : (pre ++ b :: m).getD n d = b := by
        rw [← hp]
        simp
      rw [this]
    · have e : pre ++ b :: m = pre ++ [b] ++ m := by simp
      rw [e]
      exact ih
theorem varied_eq (k : Costs) (base copy : Text) : varied k base [copy] = varF false (wy k base copy) := by
  unfold varied
  have hb := (wy_base k _ base copy rfl).1
  have hl : (own base).length = (slots k base copy).length := by
    unfold slots
    rw [beside_eq, slotsF_len, hb, own_len]
  have h := zipIdx_get (fun o s => s != o) [] (own base) (slots k base copy) 0 [] rfl hl
  simp only [List.nil_append] at h
  have e : (fun x : Text × Nat => [copy].any fun c => (slots k base c).getD x.2 [] != x.1) = fun x => ((slots k base copy).getD x.2 [] != x.1) := by
    funext x
    simp
  rw [e, h]
  unfold slots
  rw [beside_eq]
  have hv := slots_var (wy k base copy) []
  rw [hb] at hv
  simpa using hv
end Pf

end
section
/-! Arrays of slots as the program fills them; runs as places. -/
set_option Elab.async false
set_option linter.all false
namespace Pf
open Si38
theorem getD_app_left {α : Type} (l m : List α) (d : α) (n : Nat) (h : n < l.length) : (l ++ m).getD n d = l.getD n d := by
  simp only [List.getD_eq_getElem?_getD]
  rw [List.getElem?_append_left h]
theorem getD_app_right {α : Type} (l m : List α) (d : α) (n : Nat) (h : l.length ≤ n) : (l ++ m).getD n d = m.getD (n - l.length) d := by
  simp only [List.getD_eq_getElem?_getD]
  rw [List.getElem?_append_right h]
def nB (p : List Step) : Nat := (p.flatMap stB).length
def nC (p : List Step) : Nat := (p.flatMap stC).length
theorem nB_snoc (p : List Step) (s : Step) : nB (p ++ [s]) = nB p + (stB s).length := by simp [nB]
theorem nC_snoc (p : List Step) (s : Step) : nC (p ++ [s]) = nC p + (stC s).length := by simp [nC]
theorem cntF_len : ∀ (p : List Step) (g : Nat), (cntF g p).length = 2 * nB p + 1
  | [], g => rfl
  | .into b :: l, g => by rw [cntF, cntF_len l]; simp [nB, stB]
  | .both a b :: l, g => by rw [cntF]; simp only [List.length_cons, cntF_len l]; simp [nB, stB]; omega
  | .out a :: l, g => by rw [cntF]; simp only [List.length_cons, cntF_len l]; simp [nB, stB]; omega
theorem varF_len : ∀ (p : List Step) (v : Bool), (varF v p).length = 2 * nB p + 1
  | [], v => rfl
  | .into b :: l, v => by rw [varF, varF_len l]; simp [nB, stB]
  | .both a b :: l, v => by rw [varF]; simp only [List.length_cons, varF_len l]; simp [nB, stB]; omega
  | .out a :: l, v => by rw [varF]; simp only [List.length_cons, varF_len l]; simp [nB, stB]; omega
/-- a step more: what is put behind -/
theorem cntF_pair (a b : Nat) : ∀ (p : List Step) (g : Nat), cntF g (p ++ [.both a b]) = cntF g p ++ [1, 0]
  | [], g => rfl
  | .into c :: l, g => by rw [List.cons_append, cntF, cntF, cntF_pair a b l]
  | .both c d :: l, g => by rw [List.cons_append, cntF, cntF, cntF_pair a b l]; rfl
  | .out c :: l, g => by rw [List.cons_append, cntF, cntF, cntF_pair a b l]; rfl
theorem cntF_out (a : Nat) : ∀ (p : List Step) (g : Nat), cntF g (p ++ [.out a]) = cntF g p ++ [0, 0]
  | [], g => rfl
  | .into c :: l, g => by rw [List.cons_append, cntF, cntF, cntF_out a l]
  | .both c d :: l, g => by rw [List.cons_append, cntF, cntF, cntF_out a l]; rfl
  | .out c :: l, g => by rw [List.cons_append, cntF, cntF, cntF_out a l]; rfl
theorem cntF_into (a : Nat) : ∀ (p : List Step) (g : Nat), cntF g (p ++ [.into a]) = (cntF g p).set (2 * nB p) ((cntF g p).getD (2 * nB p) 0 + 1)
  | [], g => by simp [cntF, nB]
  | .into c :: l, g => by
    rw [List.cons_append, cntF, cntF, cntF_into a l]
    have e : nB (.into c :: l) = nB l := by simp [nB, stB]
    rw [e]
  | .both c d :: l, g => by
    rw [List.cons_append, cntF, cntF, cntF_into a l]
    have e : 2 * nB (.both c d :: l) = 2 * nB l + 1 + 1 := by simp [nB, stB]; omega
    rw [e]
    simp
  | .out c :: l, g => by
    rw [List.cons_append, cntF, cntF, cntF_into a l]
    have e : 2 * nB (.out c :: l) = 2 * nB l + 1 + 1 := by simp [nB, stB]; omega
    rw [e]
    simp
theorem varF_pair (a b : Nat) : ∀ (p : List Step) (v : Bool), varF v (p ++ [.both a b]) = varF v p ++ [a != b, false]
  | [], g => rfl
  | .into c :: l, g => by rw [List.cons_append, varF, varF, varF_pair a b l]
  | .both c d :: l, g => by rw [List.cons_append, varF, varF, varF_pair a b l]; rfl
  | .out c :: l, g => by rw [List.cons_append, varF, varF, varF_pair a b l]; rfl
theorem varF_out (a : Nat) : ∀ (p : List Step) (v : Bool), varF v (p ++ [.out a]) = varF v p ++ [true, false]
  | [], g => rfl
  | .into c :: l, g => by rw [List.cons_append, varF, varF, varF_out a l]
  | .both c d :: l, g => by rw [List.cons_append, varF, varF, varF_out a l]; rfl
  | .out c :: l, g => by rw [List.cons_append, varF, varF, varF_out a l]; rfl
theorem varF_into (a : Nat) : ∀ (p : List Step) (v : Bool), varF v (p ++ [.into a]) = (varF v p).set (2 * nB p) true
  | [], g => by simp [varF, nB]
  | .into c :: l, g => by
    rw [List.cons_append, varF, varF, varF_into a l]
    have e : nB (.into c :: l) = nB l := by simp [nB, stB]
    rw [e]
  | .both c d :: l, g => by
    rw [List.cons_append, varF, varF, varF_into a l]
    have e : 2 * nB (.both c d :: l) = 2 * nB l + 1 + 1 := by simp [nB, stB]; omega
    rw [e]
    simp
  | .out c :: l, g => by
    rw [List.cons_append, varF, varF, varF_into a l]
    have e : 2 * nB (.out c :: l) = 2 * nB l + 1 + 1 := by simp [nB, stB]; omega
    rw [e]
    simp
/-- the arrays behind some steps -/
def cntA (N : Nat) (p : List Step) : List Nat := cntF 0 p ++ List.replicate (N - (2 * nB p + 1)) 0
def varA (N : Nat) (p : List Step) : List Bool := varF false p ++ List.replicate (N - (2 * nB p + 1)) false
def unlike : Step → Bool
  | .both a b => a != b
  | _ => true
theorem cntA_nil (N : Nat) (h : 1 ≤ N) : cntA N [] = List.replicate N 0 := by
  obtain ⟨m, rfl⟩ : ∃ m, N = m + 1 := ⟨N - 1, by omega⟩
  simp [cntA, cntF, nB, List.replicate_succ]
theorem varA_nil (N : Nat) (h : 1 ≤ N) : varA N [] = List.replicate N false := by
  obtain ⟨m, rfl⟩ : ∃ m, N = m + 1 := ⟨N - 1, by omega⟩
  simp [varA, varF, nB, List.replicate_succ]
theorem cntA_len {N : Nat} {p : List Step} (h : 2 * nB p + 1 ≤ N) : (cntA N p).length = N := by
  simp [cntA, cntF_len]; omega
theorem varA_len {N : Nat} {p : List Step} (h : 2 * nB p + 1 ≤ N) : (varA N p).length = N := by
  simp [varA, varF_len]; omega
theorem cntA_snoc {N : Nat} {p : List Step} {s : Step} (h : 2 * nB (p ++ [s]) + 1 ≤ N) :
    cntA N (p ++ [s]) = (cntA N p).set (2 * nB p + (stB s).length) ((cntA N p).getD (2 * nB p + (stB s).length) 0 + (stC s).length) := by
  rw [nB_snoc] at h
  have hl := cntF_len p 0
  unfold cntA
  rw [nB_snoc]
  cases s with
  | into b =>
    simp only [stB, stC, List.length_nil, List.length_cons, Nat.add_zero, Nat.zero_add]
    rw [cntF_into, List.set_append_left _ _ (by omega)]
    congr 1
    rw [getD_app_left _ _ _ _ (by omega)]
  | both a b =>
    simp only [stB, stC, List.length_nil, List.length_cons, Nat.add_zero, Nat.zero_add] at h ⊢
    rw [cntF_pair, List.set_append_right _ _ (by omega)]
    have e : N - (2 * nB p + 1) = N - (2 * (nB p + 1) + 1) + 1 + 1 := by omega
    rw [e, hl]
    have e2 : 2 * nB p + 1 - (2 * nB p + 1) = 0 := by omega
    rw [e2, List.replicate_succ, List.replicate_succ, List.set_cons_zero]
    rw [getD_app_right _ _ _ _ (by omega), hl, e2]
    simp
  | out a =>
    simp only [stB, stC, List.length_nil, List.length_cons, Nat.add_zero, Nat.zero_add] at h ⊢
    rw [cntF_out, List.set_append_right _ _ (by omega)]
    have e : N - (2 * nB p + 1) = N - (2 * (nB p + 1) + 1) + 1 + 1 := by omega
    rw [e, hl]
    have e2 : 2 * nB p + 1 - (2 * nB p + 1) = 0 := by omega
    rw [e2, List.replicate_succ, List.replicate_succ, List.set_cons_zero]
    rw [getD_app_right _ _ _ _ (by omega), hl, e2]
    simp
theorem varA_snoc {N : Nat} {p : List Step} {s : Step} (h : 2 * nB (p ++ [s]) + 1 ≤ N) :
    varA N (p ++ [s]) = if unlike s = true then (varA N p).set (2 * nB p + (stB s).length) true else varA N p := by
  rw [nB_snoc] at h
  have hl := varF_len p false
  unfold varA
  rw [nB_snoc]
  cases s with
  | into b =>
    simp only [stB, stC, List.length_nil, List.length_cons, Nat.add_zero, Nat.zero_add, unlike]
    rw [varF_into, if_pos trivial, List.set_append_left _ _ (by omega)]
  | both a b =>
    simp only [stB, stC, List.length_nil, List.length_cons, Nat.add_zero, Nat.zero_add, unlike] at h ⊢
    rw [varF_pair]
    have e : N - (2 * nB p + 1) = N - (2 * (nB p + 1) + 1) + 1 + 1 := by omega
    have e2 : 2 * nB p + 1 - (2 * nB p + 1) = 0 := by omega
    rw [e, List.replicate_succ, List.replicate_succ]
    cases hu : (a != b) with
    | true =>
      rw [if_pos rfl, List.set_append_right _ _ (by omega), hl, e2, List.set_cons_zero]
      simp
    | false =>
      rw [if_neg (by decide)]
      simp
  | out a =>
    simp only [stB, stC, List.length_nil, List.length_cons, Nat.add_zero, Nat.zero_add, unlike] at h ⊢
    rw [varF_out, if_pos trivial, List.set_append_right _ _ (by omega)]
    have e : N - (2 * nB p + 1) = N - (2 * (nB p + 1) + 1) + 1 + 1 := by omega
    have e2 : 2 * nB p + 1 - (2 * nB p + 1) = 0 := by omega
    rw [e, hl, e2, List.replicate_succ, List.replicate_succ, List.set_cons_zero]
    simp
theorem cntA_whole {N : Nat} {p : List Step} (h : N = 2 * nB p + 1) : cntA N p = cntF 0 p := by simp [cntA, h]
theorem varA_whole {N : Nat} {p : List Step} (h : N = 2 * nB p + 1) : varA N p = varF false p := by simp [varA, h]
/-! ### runs -/
/-- closed runs, the open one; a slot more -/
def rs (st : List (Nat × Nat) × Option (Nat × Nat)) (i : Nat) (b : Bool) : List (Nat × Nat) × Option (Nat × Nat) :=
  if b = true then (st.1, some (match st.2 with | none => (i, 1) | some x => (x.1, x.2 + 1))) else (st.1 ++ st.2.toList, none)
def rsAll : List (Nat × Nat) × Option (Nat × Nat) → Nat → List Bool → List (Nat × Nat) × Option (Nat × Nat)
  | st, _, [] => st
  | st, i, b :: l => rsAll (rs st i b) (i + 1) l
theorem rsAll_snoc : ∀ (l : List Bool) (st) (i : Nat) (b : Bool), rsAll st i (l ++ [b]) = rs (rsAll st i l) (i + l.length) b
  | [], st, i, b => rfl
  | c :: l, st, i, b => by
    rw [List.cons_append, rsAll, rsAll_snoc l, rsAll]
    congr 1
    simp; omega
theorem runs_eq : ∀ (l : List Bool) (i : Nat) (c : List (Nat × Nat)) (o : Option (Nat × Nat)), c ++ runsFrom i o l = (rsAll (c, o) i l).1 ++ (rsAll (c, o) i l).2.toList
  | [], i, c, o => by simp [runsFrom, rsAll]
  | b :: l, i, c, none => by
    rw [runsFrom, rsAll]
    cases b with
    | true => rw [if_pos rfl]; exact runs_eq l (i + 1) c (some (i, 1))
    | false =>
      rw [if_neg (by decide)]
      have h := runs_eq l (i + 1) c none
      simpa [rs] using h
  | b :: l, i, c, some x => by
    rw [runsFrom, rsAll]
    cases b with
    | true => rw [if_pos rfl]; exact runs_eq l (i + 1) c (some (x.1, x.2 + 1))
    | false =>
      rw [if_neg (by decide)]
      have h := runs_eq l (i + 1) (c ++ [x]) none
      simpa [rs] using h
/-- the open run ends where one stands; runs lie below there -/
structure RsOk (st : List (Nat × Nat) × Option (Nat × Nat)) (i : Nat) : Prop where
  op : ∀ x, st.2 = some x → x.1 + x.2 = i ∧ 1 ≤ x.2
  cl : ∀ x ∈ st.1, x.1 + x.2 ≤ i
theorem RsOk.step {st} {i : Nat} (h : RsOk st i) (b : Bool) : RsOk (rs st i b) (i + 1) := by
  obtain ⟨c, o⟩ := st
  unfold rs
  cases b with
  | true =>
    rw [if_pos rfl]
    refine ⟨fun x e => ?_, fun x hx => Nat.le_succ_of_le (h.cl x hx)⟩
    cases o with
    | none =>
      have := Option.some.inj e
      subst this
      simp
    | some y =>
      have := Option.some.inj e
      subst this
      have := h.op y rfl
      simp; omega
  | false =>
    rw [if_neg (by decide)]
    refine ⟨fun x e => (nomatch e), fun x hx => ?_⟩
    rcases List.mem_append.mp hx with hx | hx
    · exact Nat.le_succ_of_le (h.cl x hx)
    · cases o with
      | none => simp at hx
      | some y =>
        have e : x = y := by simpa using hx
        subst e
        have := h.op x rfl
        omega
theorem RsOk.nil : RsOk ([], none) 0 := ⟨fun _ e => (nomatch e), fun _ e => (nomatch e)⟩
theorem RsOk.all : ∀ (l : List Bool) {st} {i : Nat}, RsOk st i → RsOk (rsAll st i l) (i + l.length)
  | [], st, i, h => h
  | b :: l, st, i, h => by
    have := RsOk.all l (h.step b)
    rw [rsAll, List.length_cons]
    have e : i + (l.length + 1) = i + 1 + l.length := by omega
    rw [e]
    exact this
/-- a run as a place, by the slots' counts -/
def plc (cs : List Nat) (r : Nat × Nat) : Si43.Place := ⟨r.1 / 2, (r.1 + r.2) / 2 - r.1 / 2, (cs.take r.1).sum, (cs.take (r.1 + r.2)).sum - (cs.take r.1).sum⟩
theorem take_flat {α : Type} (l : List (List α)) (m : Nat) : ((l.take m).flatten).length = ((l.map List.length).take m).sum := by
  rw [List.length_flatten, List.map_take]
theorem sum_split (l : List Nat) (s n : Nat) : (l.take (s + n)).sum = (l.take s).sum + ((l.drop s).take n).sum := by
  rw [List.take_add, List.sum_append]
theorem part_len (l : List Text) (r : Nat × Nat) : (part l r).length = ((l.map List.length).take (r.1 + r.2)).sum - ((l.map List.length).take r.1).sum := by
  unfold part
  rw [List.length_flatten, List.map_take, List.map_drop, sum_split]
  omega
theorem own_sum : ∀ (x : Text) (m : Nat), m ≤ 2 * x.length + 1 → (((own x).map List.length).take m).sum = m / 2
  | [], m, h => by
    have : m = 0 ∨ m = 1 := by simp at h; omega
    rcases this with rfl | rfl <;> simp [own]
  | a :: x, 0, h => by simp
  | a :: x, 1, h => by simp [own]
  | a :: x, m + 2, h => by
    have ih := own_sum x m (by simp at h; omega)
    simp only [own, List.map_cons, List.length_nil, List.length_cons, List.take_succ_cons, List.sum_cons]
    rw [ih]
    omega
theorem placeOf_eq (k : Costs) (base copy : Text) (r : Nat × Nat) (h : r.1 + r.2 ≤ 2 * base.length + 1) : Si43.placeOf k base copy r = plc (cntF 0 (wy k base copy)) r := by
  unfold Si43.placeOf plc
  have e : (slots k base copy).map List.length = cntF 0 (wy k base copy) := by
    unfold slots
    rw [beside_eq, slots_len]
    rfl
  simp only []
  rw [part_len, part_len, own_sum base _ h, own_sum base _ (by omega), take_flat, e]
theorem places_eq (k : Costs) (base copy : Text) :
    Si43.places k base copy = ((rsAll ([], none) 0 (varF false (wy k base copy))).1 ++ (rsAll ([], none) 0 (varF false (wy k base copy))).2.toList).map (plc (cntF 0 (wy k base copy))) := by
  unfold Si43.places
  rw [varied_eq]
  have hr := runs_eq (varF false (wy k base copy)) 0 [] none
  rw [List.nil_append] at hr
  rw [hr]
  apply List.map_congr_left
  intro r hm
  apply placeOf_eq
  have ok := RsOk.all (varF false (wy k base copy)) RsOk.nil
  have hl : (varF false (wy k base copy)).length = 2 * base.length + 1 := by
    rw [varF_len]
    unfold nB
    rw [(wy_base k _ base copy rfl).1]
  rw [hl, Nat.zero_add] at ok
  rcases List.mem_append.mp hm with hm | hm
  · exact ok.cl r hm
  · cases ho : (rsAll ([], none) 0 (varF false (wy k base copy))).2 with
    | none => rw [ho] at hm; simp at hm
    | some y =>
      rw [ho] at hm
      have e : r = y := by simpa using hm
      subst e
      exact Nat.le_of_eq (ok.op r ho).1
end Pf

end
section
/-! Marks: what a mark asks by its numbers, which gainsay, the choices, marks once. Plain Lean about the specification alone. -/
set_option Elab.async false
set_option linter.all false
namespace Pf
open Si42
def akKind : Ask → Nat
  | .change _ _ _ => 0
  | .keep _ _ => 1
  | .move _ _ _ => 2
def akI : Ask → Nat
  | .change i _ _ => i
  | .keep i _ => i
  | .move i _ _ => i
def akJ : Ask → Nat
  | .change _ j _ => j
  | .keep _ j => j
  | .move _ j _ => j
def akK : Ask → Nat
  | .change i _ _ => i
  | .keep i _ => i
  | .move _ _ k => k
def akW : Ask → List Nat
  | .change _ _ w => w
  | _ => []
/-- a mark's words stand in a text of n words -/
def AskWf (n : Nat) : Ask → Prop
  | .change i j _ => i ≤ j ∧ j ≤ n
  | .keep i j => i < j ∧ j ≤ n
  | .move i j k => i < j ∧ j ≤ n ∧ k ≤ n
theorem AskWf.ij {n : Nat} {a : Ask} (h : AskWf n a) : akI a ≤ akJ a ∧ akJ a ≤ n ∧ akK a ≤ n := by
  cases a <;> simp [AskWf, akI, akJ, akK] at h ⊢ <;> omega
/-- the very same -/
def smA (a b : Ask) : Bool :=
  if akKind a ≠ akKind b ∨ akI a ≠ akI b ∨ akJ a ≠ akJ b then false else decide (akK a = akK b) && decide (akW a = akW b)
theorem smA_eq (a b : Ask) : smA a b = decide (a = b) := by
  unfold smA
  by_cases h : a = b
  · subst h
    simp
  · rw [decide_eq_false h]
    split
    · rfl
    · rename_i hc
      by_cases h1 : akK a = akK b
      · by_cases h2 : akW a = akW b
        · exfalso
          apply h
          cases a <;> cases b <;> simp_all [akKind, akI, akJ, akK, akW]
        · simp [h2]
      · simp [h1]
/-- breaks into -/
def brk (a : Ask) (i j : Nat) : Bool := if akKind a = 1 then false else if max (akI a) i < min (akJ a) j then true else decide (i < akK a) && decide (akK a < j)
/-- gainsay one another -/
def gsy (a b : Ask) : Bool :=
  if a = b ∨ (akKind a = 1 ∧ akKind b = 1) then false
  else if brk a (akI b) (akJ b) = true ∨ brk b (akI a) (akJ a) = true then true
  else decide (akKind a ≠ 1) && (decide (akKind b ≠ 1) && decide (akK a = akK b))
theorem brk_iff (a : Ask) (i j : Nat) : brk a i j = true ↔ akKind a ≠ 1 ∧ ((akI a < akJ a ∧ akI a < j ∧ i < akJ a ∧ i < j) ∨ (i < akK a ∧ akK a < j)) := by
  unfold brk
  by_cases c : akKind a = 1
  · simp [c]
  · rw [if_neg c]
    by_cases d : max (akI a) i < min (akJ a) j
    · rw [if_pos d]
      rw [Nat.max_lt, Nat.lt_min, Nat.lt_min] at d
      simp [c, d]
    · rw [if_neg d]
      rw [Nat.max_lt, Nat.lt_min, Nat.lt_min] at d
      rw [Bool.and_eq_true, decide_eq_true_eq, decide_eq_true_eq]
      constructor
      · intro h; exact ⟨c, Or.inr h⟩
      · intro h
        rcases h.2 with h | h
        · exact absurd ⟨⟨h.1, h.2.1⟩, h.2.2.1, h.2.2.2⟩ d
        · exact h
theorem breaks_iff (a : Ask) (i j : Nat) : breaks a i j = true ↔ ((taken a).1 < j ∧ i < (taken a).2) ∨ (akKind a ≠ 1 ∧ i < akK a ∧ akK a < j) := by
  unfold breaks meets
  rw [Bool.or_eq_true, Bool.and_eq_true, decide_eq_true_eq, decide_eq_true_eq]
  refine or_congr Iff.rfl ?_
  cases a <;> simp [puts, within, akKind, akK]
theorem brk_eq {a : Ask} {n : Nat} (h : AskWf n a) {i j : Nat} (hij : i < j) : brk a i j = breaks a i j ∨ akKind a = 1 := by
  by_cases c : akKind a = 1
  · exact Or.inr c
  · left
    rw [Bool.eq_iff_iff, brk_iff, breaks_iff]
    cases a with
    | change p q w => simp only [AskWf] at h; simp only [taken, akI, akJ, akK, akKind]; omega
    | keep p q => simp [akKind] at c
    | move p q k => simp only [AskWf] at h; simp only [taken, akI, akJ, akK, akKind]; omega
theorem brk_both {a b : Ask} {n : Nat} (ha : AskWf n a) (hb : AskWf n b) (ka : akKind a ≠ 1) (kb : akKind b ≠ 1) :
    (brk a (akI b) (akJ b) || brk b (akI a) (akJ a)) = (breaks a (akI b) (akJ b) || breaks b (akI a) (akJ a)) := by
  rw [Bool.eq_iff_iff, Bool.or_eq_true, Bool.or_eq_true, brk_iff, brk_iff, breaks_iff, breaks_iff]
  cases a with
  | keep p q => simp [akKind] at ka
  | change p q w => cases b with
    | keep p q => simp [akKind] at kb
    | change p q w => simp only [AskWf] at ha hb; simp only [taken, akI, akJ, akK, akKind]; omega
    | move p q k => simp only [AskWf] at ha hb; simp only [taken, akI, akJ, akK, akKind]; omega
  | move p q k => cases b with
    | keep p q => simp [akKind] at kb
    | change p q w => simp only [AskWf] at ha hb; simp only [taken, akI, akJ, akK, akKind]; omega
    | move p q k => simp only [AskWf] at ha hb; simp only [taken, akI, akJ, akK, akKind]; omega
theorem gsy_eq {a b : Ask} {n : Nat} (ha : AskWf n a) (hb : AskWf n b) : gsy a b = clash a b := by
  by_cases e : a = b
  · subst e
    unfold gsy clash
    rw [if_pos rfl, if_pos (Or.inl rfl)]
  unfold gsy clash
  rw [if_neg e]
  by_cases ka : akKind a = 1
  · cases a with
    | change _ _ _ => simp [akKind] at ka
    | move _ _ _ => simp [akKind] at ka
    | keep i j =>
      by_cases kb : akKind b = 1
      · cases b with
        | change _ _ _ => simp [akKind] at kb
        | move _ _ _ => simp [akKind] at kb
        | keep p q =>
          rw [if_pos (Or.inr ⟨ka, kb⟩)]
      · rw [if_neg (by simp [e, kb])]
        have hij : i < j := ha.1
        have e1 : brk (.keep i j) (akI b) (akJ b) = false := by unfold brk; rw [if_pos ka]
        rw [e1, (brk_eq hb (show akI (.keep i j) < akJ (.keep i j) from hij)).resolve_right kb]
        cases b with
        | keep _ _ => simp [akKind] at kb
        | change p q w => simp [akKind, akI, akJ]
        | move p q w => simp [akKind, akI, akJ]
  · by_cases kb : akKind b = 1
    · rw [if_neg (by simp [e, ka])]
      cases b with
      | change _ _ _ => simp [akKind] at kb
      | move _ _ _ => simp [akKind] at kb
      | keep p q =>
        have hij : p < q := hb.1
        have e1 : brk (.keep p q) (akI a) (akJ a) = false := by unfold brk; rw [if_pos kb]
        rw [e1, (brk_eq ha (show akI (.keep p q) < akJ (.keep p q) from hij)).resolve_right ka]
        cases a with
        | keep _ _ => simp [akKind] at ka
        | change p q w => simp [akKind, akI, akJ]
        | move p q w => simp [akKind, akI, akJ]
    · rw [if_neg (by simp [e, ka])]
      have hb2 := brk_both ha hb ka kb
      have e1 : (brk a (akI b) (akJ b) = true ∨ brk b (akI a) (akJ a) = true) ↔ (breaks a (akI b) (akJ b) || breaks b (akI a) (akJ a)) = true := by
        rw [← hb2, Bool.or_eq_true]
      have e2 : (if brk a (akI b) (akJ b) = true ∨ brk b (akI a) (akJ a) = true then true else (decide (akKind a ≠ 1) && (decide (akKind b ≠ 1) && decide (akK a = akK b)))) =
          (breaks a (akI b) (akJ b) || (breaks b (akI a) (akJ a) || decide (akK a = akK b))) := by
        by_cases c : (brk a (akI b) (akJ b) = true ∨ brk b (akI a) (akJ a) = true)
        · rw [if_pos c]
          have := e1.mp c
          rw [← Bool.or_assoc, this]
          rfl
        · rw [if_neg c]
          have h0 : (breaks a (akI b) (akJ b) || breaks b (akI a) (akJ a)) = false := by
            cases h : (breaks a (akI b) (akJ b) || breaks b (akI a) (akJ a)) with
            | false => rfl
            | true => exact absurd (e1.mpr h) c
          rw [← Bool.or_assoc, h0]
          simp [ka, kb]
      rw [e2]
      cases a with
      | keep _ _ => simp [akKind] at ka
      | change p q w =>
        cases b with
        | keep _ _ => simp [akKind] at kb
        | change p2 q2 w2 => simp [akI, akJ, akK, taken, puts]; rfl
        | move p2 q2 w2 => simp [akI, akJ, akK, taken, puts]; rfl
      | move p q w =>
        cases b with
        | keep _ _ => simp [akKind] at kb
        | change p2 q2 w2 => simp [akI, akJ, akK, taken, puts]; rfl
        | move p2 q2 w2 => simp [akI, akJ, akK, taken, puts]; rfl
theorem clash_comm (a b : Ask) : clash a b = clash b a := by
  unfold clash
  by_cases e : a = b
  · subst e; rfl
  · rw [if_neg e, if_neg (fun z => e z.symm)]
    cases a <;> cases b <;> simp only [] <;> (rw [Bool.eq_iff_iff]; simp [puts]; constructor <;> (intro h; rcases h with h | h | h <;> simp [h]))

/-! ### which pairs -/
def prs : List (Nat × Ask) → List (Nat × Nat)
  | [] => []
  | x :: r => ((r.filter fun y => clash x.2 y.2).map fun y => (x.1, y.1)) ++ prs r
theorem prs_eq : ∀ (o pre : List (Nat × Ask)), (pre ++ o).Pairwise (fun x y => x.1 < y.1) →
    (o.flatMap fun x => ((pre ++ o).filter fun y => decide (x.1 < y.1) && clash x.2 y.2).map fun y => (x.1, y.1)) = prs o
  | [], pre, _ => rfl
  | x :: r, pre, h => by
    have e0 : pre ++ x :: r = pre ++ [x] ++ r := by simp
    have ih := prs_eq r (pre ++ [x]) (by rw [← e0]; exact h)
    rw [← e0] at ih
    rw [List.flatMap_cons, ih, prs]
    congr 2
    have hp := List.pairwise_append.mp h
    have hx := List.pairwise_cons.mp hp.2.1
    rw [List.filter_append, List.filter_cons]
    have e1 : (pre.filter fun y => decide (x.1 < y.1) && clash x.2 y.2) = [] := by
      rw [List.filter_eq_nil_iff]
      intro y hy
      have := hp.2.2 y hy x List.mem_cons_self
      simp; intro; omega
    rw [e1, if_neg (by simp), List.nil_append]
    apply List.filter_congr
    intro y hy
    have := hx.1 y hy
    simp [this]

/-! ### choices -/
def okC (c : List (Nat × Ask)) (y : Nat × Ask) : Bool := c.all fun x => !clash x.2 y.2
def rowS (R : List (List (Nat × Ask))) (x : Nat × Ask) : List (List (Nat × Ask)) := R.flatMap fun c => (if okC c x = true then [c ++ [x]] else []) ++ [c]
def comp (c s : List (Nat × Ask)) : Bool := s.all fun y => okC c y
theorem rows_gen : ∀ (l : List (Nat × Ask)) (R : List (List (Nat × Ask))), l.foldl rowS R = R.flatMap fun c => ((sets l).filter fun s => comp c s).map fun s => c ++ s
  | [], R => by
    have e : (fun c : List (Nat × Ask) => ((sets []).filter fun s => comp c s).map fun s => c ++ s) = fun c => [c] := by
      funext c
      simp [sets, comp]
    rw [e]
    induction R with
    | nil => rfl
    | cons c R ih => rw [List.flatMap_cons, ← ih]; rfl
  | x :: l, R => by
    rw [List.foldl_cons, rows_gen l, rowS, List.flatMap_assoc]
    congr 1
    funext c
    rw [sets, List.filter_append, List.map_append, List.flatMap_append, List.flatMap_cons, List.flatMap_nil, List.append_nil]
    congr 1
    rw [List.filter_map, List.map_map, List.filter_filter]
    have e : ((fun s => comp c s) ∘ fun s => x :: s) = fun s => okC c x && comp c s := by
      funext s
      simp [comp]
    rw [e]
    by_cases h : okC c x = true
    · rw [if_pos h, List.flatMap_cons, List.flatMap_nil, List.append_nil]
      have e2 : (fun s => comp (c ++ [x]) s) = fun a => (okC c x && comp c a) && apart x.2 a := by
        funext s
        rw [h, Bool.true_and]
        unfold comp apart okC
        rw [Bool.eq_iff_iff]
        simp
        constructor
        · intro z
          exact ⟨fun a b hb a1 b1 hc => (z a b hb).1 a1 b1 hc, fun a b hb => (z a b hb).2⟩
        · intro z a b hb
          exact ⟨fun a1 b1 hc => z.1 a b hb a1 b1 hc, z.2 a b hb⟩
      rw [e2]
      apply List.map_congr_left
      intro s _
      simp
    · rw [if_neg h]
      simp [h]
theorem rows_eq (l : List (Nat × Ask)) : l.foldl rowS [[]] = sets l := by
  rw [rows_gen]
  simp [comp, okC]
theorem sets_ne : ∀ l : List (Nat × Ask), sets l ≠ []
  | [] => by simp [sets]
  | x :: l => by
    rw [sets]
    intro h
    have := (List.append_eq_nil_iff.mp h).2
    exact sets_ne l this
theorem sets_len : ∀ l : List (Nat × Ask), (sets l).length ≤ 2 ^ l.length
  | [] => by simp [sets]
  | x :: l => by
    have ih := sets_len l
    have := List.length_filter_le (fun s => apart x.2 s) (sets l)
    rw [sets, List.length_append, List.length_map, List.length_cons, Nat.pow_succ]
    omega
theorem rowS_len (R : List (List (Nat × Ask))) (x : Nat × Ask) : (rowS R x).length ≤ 2 * R.length := by
  unfold rowS
  induction R with
  | nil => simp
  | cons c R ih =>
    rw [List.flatMap_cons, List.length_append, List.length_append, List.length_cons]
    have : (if okC c x = true then [c ++ [x]] else []).length ≤ 1 := by split <;> simp
    simp only [List.length_cons, List.length_nil]
    omega
theorem rows_len : ∀ (l : List (Nat × Ask)) (R : List (List (Nat × Ask))), (l.foldl rowS R).length ≤ 2 ^ l.length * R.length
  | [], R => by simp
  | x :: l, R => by
    rw [List.foldl_cons, List.length_cons, Nat.pow_succ]
    have h1 := rows_len l (rowS R x)
    have h2 := rowS_len R x
    calc _ ≤ 2 ^ l.length * (rowS R x).length := h1
      _ ≤ 2 ^ l.length * (2 * R.length) := Nat.mul_le_mul_left _ h2
      _ = 2 ^ l.length * 2 * R.length := by rw [Nat.mul_assoc]
/-- the best of some, the first of several -/
def bestS {α : Type} (W : α → Nat) (b s : α) : α := if W b < W s then s else b
theorem best_fold {α : Type} (W : α → Nat) (F : Option (Nat × α) → α → Option (Nat × α)) (hF : ∀ x s, F (some x) s = if x.1 < W s then some (W s, s) else some x) :
    ∀ (l : List α) (b : α), l.foldl F (some (W b, b)) = some (W (l.foldl (bestS W) b), l.foldl (bestS W) b)
  | [], b => rfl
  | s :: l, b => by
    rw [List.foldl_cons, List.foldl_cons, hF]
    by_cases h : W b < W s
    · rw [if_pos h, best_fold W F hF l s]
      simp [bestS, h]
    · rw [if_neg h, best_fold W F hF l b]
      simp [bestS, h]
theorem chosen_eq (w : List Nat) (marks : List Mark) {s : List (Nat × Ask)} {r : List (List (Nat × Ask))} (h : sets (opens marks) = s :: r) :
    chosen w marks = (s :: r).foldl (bestS (weightOf w marks)) s := by
  unfold chosen
  rw [h, List.foldl_cons]
  rw [best_fold (weightOf w marks) _ (fun x s => rfl)]
  simp [bestS]
/-- what a mark weighs -/
def wtOf (w : List Nat) (marks : List Mark) (x : Nat × Ask) : Nat := w.getD (((marks[x.1]?).map fun m => m.reader).getD 0) 0
theorem weight_snoc (w : List Nat) (marks : List Mark) (s : List (Nat × Ask)) (x : Nat × Ask) : weightOf w marks (s ++ [x]) = weightOf w marks s + wtOf w marks x := by
  unfold weightOf
  rw [List.map_append, List.foldr_append]
  have gen : ∀ (l : List Nat) (a : Nat), l.foldr (fun a b => a + b) a = l.foldr (fun a b => a + b) 0 + a := by
    intro l
    induction l with
    | nil => intro a; simp
    | cons c l ih => intro a; rw [List.foldr_cons, List.foldr_cons, ih]; omega
  rw [gen]
  simp [wtOf]

/-! ### the same ones once -/
def onceS (acc : List (Nat × Ask)) (x : Nat × Ask) : List (Nat × Ask) := if (acc.any fun y => decide (y.2 = x.2)) = true then acc else acc ++ [x]
theorem once_gen : ∀ (l acc : List (Nat × Ask)), l.foldl onceS acc = acc ++ (once l).filter fun y => !acc.any fun z => decide (z.2 = y.2)
  | [], acc => by simp [once]
  | x :: l, acc => by
    rw [List.foldl_cons, once_gen l, once, List.filter_cons, List.filter_filter]
    unfold onceS
    by_cases h : (acc.any fun y => decide (y.2 = x.2)) = true
    · rw [if_pos h, if_neg (by simp [h])]
      congr 1
      apply List.filter_congr
      intro y _
      cases hy : acc.any fun z => decide (z.2 = y.2) with
      | true => simp
      | false =>
        have : y.2 ≠ x.2 := by
          intro e
          rw [e] at hy
          rw [hy] at h
          cases h
        simp [this]
    · rw [if_neg h]
      have h' : (acc.any fun y => decide (y.2 = x.2)) = false := by
        cases e : (acc.any fun y => decide (y.2 = x.2)) with
        | false => rfl
        | true => exact absurd e h
      rw [if_pos (by rw [h']; rfl), List.append_assoc]
      congr 1
      rw [List.singleton_append]
      congr 1
      apply List.filter_congr
      intro y _
      rw [List.any_append, Bool.not_or]
      congr 1
      rw [List.any_cons, List.any_nil, Bool.or_false]
      by_cases e : y.2 = x.2
      · simp [e]
      · have e' : ¬ x.2 = y.2 := fun z => e z.symm
        simp [e, e']
theorem once_eq (l : List (Nat × Ask)) : l.foldl onceS [] = once l := by
  rw [once_gen]
  simp
theorem once_sub : ∀ (l : List (Nat × Ask)) (x : Nat × Ask), x ∈ once l → x ∈ l
  | [], x, h => by simp [once] at h
  | y :: l, x, h => by
    rw [once] at h
    rcases List.mem_cons.mp h with h | h
    · rw [h]; exact List.mem_cons_self
    · exact List.mem_cons_of_mem _ (once_sub l x (List.mem_filter.mp h).1)
/-- no two gainsay one another -/
def Apt (l : List (Nat × Ask)) : Prop := ∀ x ∈ l, ∀ y ∈ l, clash x.2 y.2 = false
theorem once_pw : ∀ (l : List (Nat × Ask)), (once l).Pairwise fun x y => x.2 ≠ y.2
  | [] => by simp [once]
  | y :: l => by
    rw [once, List.pairwise_cons]
    refine ⟨fun z hz => ?_, (once_pw l).sublist List.filter_sublist⟩
    have := (List.mem_filter.mp hz).2
    intro e
    rw [e] at this
    simp at this
theorem sets_apt : ∀ (l s : List (Nat × Ask)), s ∈ sets l → Apt s ∧ List.Sublist s l
  | [], s, h => by
    simp [sets] at h
    subst h
    exact ⟨fun x hx => by simp at hx, List.Sublist.refl _⟩
  | x :: l, s, h => by
    rw [sets] at h
    rcases List.mem_append.mp h with h | h
    · obtain ⟨s', hs, rfl⟩ := List.mem_map.mp h
      obtain ⟨h1, h2⟩ := List.mem_filter.mp hs
      obtain ⟨a1, a2⟩ := sets_apt l s' h1
      refine ⟨fun y hy z hz => ?_, a2.cons₂ x⟩
      have hx : ∀ z ∈ s', clash x.2 z.2 = false := by
        intro z hz
        unfold apart at h2
        have := List.all_eq_true.mp h2 z hz
        simpa using this
      have hxx : clash x.2 x.2 = false := by unfold clash; rw [if_pos rfl]
      rcases List.mem_cons.mp hy with rfl | hy
      · rcases List.mem_cons.mp hz with rfl | hz
        · exact hxx
        · exact hx z hz
      · rcases List.mem_cons.mp hz with ez | hz
        · rw [clash_comm, ez]; exact hx y hy
        · exact a1 y hy z hz
    · obtain ⟨a1, a2⟩ := sets_apt l s h
      exact ⟨a1, a2.cons x⟩
theorem bestS_mem {α : Type} (W : α → Nat) : ∀ (l : List α) (b : α), l.foldl (bestS W) b = b ∨ l.foldl (bestS W) b ∈ l
  | [], b => Or.inl rfl
  | s :: l, b => by
    rw [List.foldl_cons]
    rcases bestS_mem W l (bestS W b s) with h | h
    · rw [h]
      unfold bestS
      split
      · exact Or.inr List.mem_cons_self
      · exact Or.inl rfl
    · exact Or.inr (List.mem_cons_of_mem _ h)
theorem chosen_mem (w : List Nat) (marks : List Mark) : chosen w marks ∈ sets (opens marks) := by
  cases h : sets (opens marks) with
  | nil => exact absurd h (sets_ne _)
  | cons s r =>
    rw [chosen_eq w marks h]
    rcases bestS_mem (weightOf w marks) (s :: r) s with e | e
    · rw [e]; exact List.mem_cons_self
    · exact e
end Pf

end
section
/-! Carrying out: words with the program's own numbers beside the specification's. Plain Lean about the specification alone. -/
set_option Elab.async false
set_option linter.all false
namespace Pf
open Si42
/-- a word and the program's own number of it -/
abbrev Tw := Token × Nat
abbrev Tx := List Tw
def nwQ (m : Nat) : Nat → Nat → List Nat → Tx
  | _, _, [] => []
  | n, o, w :: r => (⟨n, w, some m⟩, o) :: nwQ m (n + 1) (o + 1) r
def putQ (P : Tx) (n o : Nat) : Option (Nat × Ask) → Tx
  | some (m, .change _ _ w) => nwQ m n o w
  | some (_, .move i j _) => (P.drop i).take (j - i)
  | _ => []
def putLen (P : Tx) (p : Option (Nat × Ask)) : Nat := (putQ P 0 0 p).length
theorem nwQ_len (m : Nat) : ∀ (w : List Nat) (n o : Nat), (nwQ m n o w).length = w.length
  | [], _, _ => rfl
  | a :: w, n, o => by rw [nwQ, List.length_cons, nwQ_len m w, List.length_cons]
theorem nwQ_fst (m : Nat) : ∀ (w : List Nat) (n o : Nat), (nwQ m n o w).map (·.1) = newWords m n w
  | [], _, _ => rfl
  | a :: w, n, o => by rw [nwQ, List.map_cons, nwQ_fst m w, newWords]
theorem nwQ_mem (m : Nat) : ∀ (w : List Nat) (n o : Nat) (x : Tw), x ∈ nwQ m n o w → n ≤ x.1.id ∧ x.1.id < n + w.length ∧ o ≤ x.2 ∧ x.2 < o + w.length ∧ x.1.by_ = some m
  | [], _, _, x, h => by simp [nwQ] at h
  | a :: w, n, o, x, h => by
    rw [nwQ] at h
    rcases List.mem_cons.mp h with rfl | h
    · simp
    · have q := nwQ_mem m w (n + 1) (o + 1) x h
      obtain ⟨q1, q2, q3, q4, q5⟩ := q
      simp only [List.length_cons]
      exact ⟨by omega, by omega, by omega, by omega, q5⟩
theorem putQ_len (P : Tx) (n o : Nat) (p : Option (Nat × Ask)) : (putQ P n o p).length = putLen P p := by
  unfold putLen
  cases p with
  | none => rfl
  | some x =>
    obtain ⟨m, a⟩ := x
    cases a with
    | change i j w => simp [putQ, nwQ_len]
    | keep i j => rfl
    | move i j k => rfl
theorem putQ_fst (P : Tx) (n o : Nat) (p : Option (Nat × Ask)) : (putQ P n o p).map (·.1) = putText (P.map (·.1)) n p := by
  cases p with
  | none => rfl
  | some x =>
    obtain ⟨m, a⟩ := x
    cases a with
    | change i j w => simp only [putQ, putText, nwQ_fst]
    | keep i j => rfl
    | move i j k => simp only [putQ, putText, List.map_take, List.map_drop]
theorem putText_len (P : Tx) (n : Nat) (p : Option (Nat × Ask)) : (putText (P.map (·.1)) n p).length = putLen P p := by
  rw [← putQ_fst P n 0, List.length_map, putQ_len]
theorem fresh_le (P : Tx) (p : Option (Nat × Ask)) : fresh p ≤ putLen P p := by
  unfold putLen
  cases p with
  | none => simp [fresh]
  | some x =>
    obtain ⟨m, a⟩ := x
    cases a with
    | change i j w => simp [putQ, nwQ_len, fresh]
    | keep i j => simp [fresh]
    | move i j k => simp [fresh]
/-- the counters at a gap -/
def nAt (l : List (Nat × Ask)) (n0 : Nat) : Nat → Nat
  | 0 => n0
  | g + 1 => nAt l n0 g + fresh (putAt l g)
def oAt (P : Tx) (l : List (Nat × Ask)) (o0 : Nat) : Nat → Nat
  | 0 => o0
  | g + 1 => oAt P l o0 g + putLen P (putAt l g)
/-- what a gap and the word behind it give -/
def putG (P : Tx) (l : List (Nat × Ask)) (n0 o0 g : Nat) : Tx := putQ P (nAt l n0 g) (oAt P l o0 g) (putAt l g)
def blk (P : Tx) (l : List (Nat × Ask)) (n0 o0 g : Nat) : Tx := putG P l n0 o0 g ++ (if isTaken l g = true then [] else (P[g]?).toList)
def wpre (P : Tx) (l : List (Nat × Ask)) (n0 o0 g : Nat) : Tx := (List.range g).flatMap (blk P l n0 o0)
theorem wpre_zero (P : Tx) (l : List (Nat × Ask)) (n0 o0 : Nat) : wpre P l n0 o0 0 = [] := rfl
theorem wpre_succ (P : Tx) (l : List (Nat × Ask)) (n0 o0 g : Nat) : wpre P l n0 o0 (g + 1) = wpre P l n0 o0 g ++ blk P l n0 o0 g := by
  unfold wpre
  rw [List.range_succ, List.flatMap_append]
  simp
theorem done_from (P : Tx) (l : List (Nat × Ask)) (n0 o0 : Nat) : ∀ (d g : Nat), g + d = P.length →
    (wpre P l n0 o0 g).map (·.1) ++ doneFrom (P.map (·.1)) l g (nAt l n0 g) ((P.map (·.1)).drop g) = (wpre P l n0 o0 (P.length + 1)).map (·.1)
  | 0, g, h => by
    have e : g = P.length := by omega
    subst e
    rw [wpre_succ, List.map_append]
    congr 1
    rw [List.drop_eq_nil_of_le (by simp), doneFrom, blk, putG, List.map_append, putQ_fst]
    have e2 : P[P.length]? = none := by simp
    rw [e2]
    simp
  | d + 1, g, h => by
    have ih := done_from P l n0 o0 d (g + 1) (by omega)
    have hg : g < P.length := by omega
    have hd : (P.map (·.1)).drop g = P[g].1 :: (P.map (·.1)).drop (g + 1) := by
      rw [List.drop_eq_getElem_cons (by simpa using hg)]
      simp
    rw [hd, doneFrom, ← ih, wpre_succ, List.map_append, blk, putG, List.map_append, putQ_fst]
    have e2 : P[g]? = some P[g] := by simp [hg]
    rw [e2, List.append_assoc, List.append_assoc]
    congr 2
    · congr 1
      split <;> simp
theorem done_eq (P : Tx) (l : List (Nat × Ask)) (n0 o0 : Nat) : (wpre P (once l) n0 o0 (P.length + 1)).map (·.1) = done (P.map (·.1)) n0 l := by
  have h := done_from P (once l) n0 o0 P.length 0 (by omega)
  rw [wpre_zero] at h
  unfold done
  rw [← h]
  rfl
/-- a gap in the new text -/
def gapQ (P : Tx) (l : List (Nat × Ask)) (n0 o0 g : Nat) : Nat := (wpre P l n0 o0 g).length + putLen P (putAt l g)
theorem blk_len (P : Tx) (l : List (Nat × Ask)) (n0 o0 g : Nat) (h : g < P.length) : (blk P l n0 o0 g).length = putLen P (putAt l g) + (if isTaken l g = false then 1 else 0) := by
  unfold blk putG
  rw [List.length_append, putQ_len]
  have e2 : P[g]? = some P[g] := by simp [h]
  rw [e2]
  cases isTaken l g <;> simp
theorem foldr_sum (l : List Nat) : l.foldr (fun a b => a + b) 0 = l.sum := rfl
theorem wpre_len (P : Tx) (l : List (Nat × Ask)) (n0 o0 : Nat) : ∀ g, g ≤ P.length → (wpre P l n0 o0 g).length = ((List.range g).map fun h => putLen P (putAt l h) + (if isTaken l h = false then 1 else 0)).sum
  | 0, _ => rfl
  | g + 1, h => by
    rw [wpre_succ, List.length_append, wpre_len P l n0 o0 g (by omega), blk_len _ _ _ _ _ (by omega), List.range_succ, List.map_append, List.sum_append]
    simp
theorem gap_eq (P : Tx) (l : List (Nat × Ask)) (n0 o0 g : Nat) (h : g ≤ P.length) : gapThen (P.map (·.1)) l g = gapQ P (once l) n0 o0 g := by
  unfold gapThen gapQ
  simp only []
  rw [foldr_sum, List.range_succ, List.map_append, List.sum_append, wpre_len _ _ _ _ _ h]
  congr 1
  · congr 1
    apply List.map_congr_left
    intro a ha
    have := List.mem_range.mp ha
    rw [putText_len]
    simp [this]
  · simp [putText_len]
theorem gapQ_le (P : Tx) (l : List (Nat × Ask)) (n0 o0 g : Nat) (h : g ≤ P.length) : gapQ P l n0 o0 g ≤ (wpre P l n0 o0 (P.length + 1)).length := by
  have mono : ∀ d g, (wpre P l n0 o0 g).length ≤ (wpre P l n0 o0 (g + d)).length := by
    intro d
    induction d with
    | zero => intro g; exact Nat.le_refl _
    | succ d ih =>
      intro g
      rw [← Nat.add_assoc, wpre_succ, List.length_append]
      have := ih g
      omega
  have h1 : gapQ P l n0 o0 g ≤ (wpre P l n0 o0 (g + 1)).length := by
    unfold gapQ
    rw [wpre_succ, List.length_append, blk, putG, List.length_append, putQ_len]
    omega
  have h2 := mono (P.length - g) (g + 1)
  have e : g + 1 + (P.length - g) = P.length + 1 := by omega
  rw [e] at h2
  omega
/-! ### counters grow -/
theorem nAt_le (l : List (Nat × Ask)) (n0 : Nat) : ∀ (d g : Nat), nAt l n0 g ≤ nAt l n0 (g + d)
  | 0, g => Nat.le_refl _
  | d + 1, g => by
    have := nAt_le l n0 d g
    rw [← Nat.add_assoc, nAt]
    omega
theorem oAt_le (P : Tx) (l : List (Nat × Ask)) (o0 : Nat) : ∀ (d g : Nat), oAt P l o0 g ≤ oAt P l o0 (g + d)
  | 0, g => Nat.le_refl _
  | d + 1, g => by
    have := oAt_le P l o0 d g
    rw [← Nat.add_assoc, oAt]
    omega
theorem oAt_bound (P : Tx) (l : List (Nat × Ask)) (n0 o0 : Nat) : ∀ g, oAt P l o0 g ≤ o0 + (wpre P l n0 o0 g).length
  | 0 => Nat.le_refl _
  | g + 1 => by
    have := oAt_bound P l n0 o0 g
    rw [oAt, wpre_succ, List.length_append, blk, putG, List.length_append, putQ_len]
    omega
/-- all that marks bring, each counted once -/
theorem nAt_bound : ∀ (l : List (Nat × Ask)) (N : Nat), nAt l 0 N ≤ (l.map fun x => fresh (some x)).sum
  | [], N => by
    induction N with
    | zero => simp [nAt]
    | succ N ih => rw [nAt]; simp [putAt, fresh] at ih ⊢; exact ih
  | x :: l, N => by
    have ih := nAt_bound l N
    have key : ∀ N, nAt (x :: l) 0 N ≤ (match puts x.2 with | none => 0 | some g => if g < N then fresh (some x) else 0) + nAt l 0 N := by
      intro N
      induction N with
      | zero => simp [nAt]
      | succ N ihN =>
        rw [nAt, nAt]
        have hput : putAt (x :: l) N = if puts x.2 = some N then some x else putAt l N := by
          unfold putAt
          rw [List.find?_cons]
          by_cases h : puts x.2 = some N
          · simp [h]
          · have : (puts x.2 == some N) = false := by simpa using h
            rw [this, if_neg h]
        rw [hput]
        cases hp : puts x.2 with
        | none =>
          rw [hp] at ihN
          simp only [] at ihN ⊢
          rw [if_neg (by simp)]
          omega
        | some g =>
          rw [hp] at ihN
          simp only [] at ihN ⊢
          by_cases hg : g = N
          · subst hg
            rw [if_pos rfl, if_pos (by omega)]
            rw [if_neg (by omega)] at ihN
            omega
          · rw [if_neg (by simpa using hg)]
            by_cases hlt : g < N
            · rw [if_pos hlt] at ihN
              rw [if_pos (by omega)]
              omega
            · rw [if_neg hlt] at ihN
              rw [if_neg (by omega)]
              omega
    have := key N
    rw [List.map_cons, List.sum_cons]
    have h2 : (match puts x.2 with | none => 0 | some g => if g < N then fresh (some x) else 0) ≤ fresh (some x) := by
      split
      · omega
      · split <;> omega
    omega
theorem nAt_add (l : List (Nat × Ask)) (n0 : Nat) : ∀ g, nAt l n0 g = n0 + nAt l 0 g
  | 0 => rfl
  | g + 1 => by rw [nAt, nAt, nAt_add l n0 g]; omega
/-! ### each word once -/
def Apart2 (x y : Tw) : Prop := x.1.id ≠ y.1.id ∧ x.2 ≠ y.2
theorem Apart2.symm {x y : Tw} (h : Apart2 x y) : Apart2 y x := ⟨fun e => h.1 e.symm, fun e => h.2 e.symm⟩
theorem pw_at {P : Tx} (h : P.Pairwise Apart2) {p q : Nat} {x y : Tw} (hp : P[p]? = some x) (hq : P[q]? = some y) (hne : p ≠ q) : Apart2 x y := by
  obtain ⟨lp, ep⟩ := List.getElem?_eq_some_iff.mp hp
  obtain ⟨lq, eq⟩ := List.getElem?_eq_some_iff.mp hq
  rw [List.pairwise_iff_getElem] at h
  rcases Nat.lt_or_gt_of_ne hne with hlt | hlt
  · have := h p q lp lq hlt
    rw [ep, eq] at this
    exact this
  · have := h q p lq lp hlt
    rw [ep, eq] at this
    exact this.symm
theorem nwQ_pw (m : Nat) : ∀ (w : List Nat) (n o : Nat), (nwQ m n o w).Pairwise Apart2
  | [], _, _ => List.Pairwise.nil
  | a :: w, n, o => by
    rw [nwQ, List.pairwise_cons]
    refine ⟨fun y hy => ?_, nwQ_pw m w _ _⟩
    have := nwQ_mem m w _ _ y hy
    unfold Apart2
    simp only
    omega
/-- from where a block's old words are -/
def Src (l : List (Nat × Ask)) (g p : Nat) : Prop := (p = g ∧ isTaken l g = false) ∨ ∃ m i j, (m, Ask.move i j g) ∈ l ∧ i ≤ p ∧ p < j
theorem putAt_mem {l : List (Nat × Ask)} {g : Nat} {x : Nat × Ask} (h : putAt l g = some x) : x ∈ l ∧ puts x.2 = some g := by
  unfold putAt at h
  exact ⟨List.mem_of_find?_eq_some h, by have := List.find?_some h; simpa using this⟩
theorem putG_mem {P : Tx} {l : List (Nat × Ask)} {n0 o0 g : Nat} {x : Tw} (h : x ∈ putG P l n0 o0 g) :
    (∃ p, P[p]? = some x ∧ ∃ m i j, (m, Ask.move i j g) ∈ l ∧ i ≤ p ∧ p < j) ∨ (nAt l n0 g ≤ x.1.id ∧ x.1.id < nAt l n0 (g + 1) ∧ oAt P l o0 g ≤ x.2 ∧ x.2 < oAt P l o0 (g + 1) ∧ ∃ m, x.1.by_ = some m ∧ ∃ a, (m, a) ∈ l) := by
  unfold putG at h
  cases hp : putAt l g with
  | none => rw [hp] at h; simp [putQ] at h
  | some z =>
    obtain ⟨m, a⟩ := z
    have hm := putAt_mem hp
    rw [hp] at h
    cases a with
    | keep i j => simp [putQ] at h
    | change i j w =>
      right
      simp only [putQ] at h
      have := nwQ_mem m w _ _ x h
      rw [nAt, oAt, hp]
      have e1 : fresh (some (m, Ask.change i j w)) = w.length := rfl
      have e2 : putLen P (some (m, Ask.change i j w)) = w.length := by unfold putLen; simp [putQ, nwQ_len]
      rw [e1, e2]
      exact ⟨this.1, this.2.1, this.2.2.1, this.2.2.2.1, m, this.2.2.2.2, _, hm.1⟩
    | move i j k =>
      left
      simp only [putQ] at h
      have hk : k = g := by simpa [puts] using hm.2
      subst hk
      obtain ⟨d, hd⟩ := List.mem_iff_getElem?.mp h
      rw [List.getElem?_take] at hd
      split at hd
      · rename_i hlt
        rw [List.getElem?_drop] at hd
        exact ⟨i + d, hd, m, i, j, hm.1, by omega, by omega⟩
      · cases hd
theorem blk_mem {P : Tx} {l : List (Nat × Ask)} {n0 o0 g : Nat} {x : Tw} (h : x ∈ blk P l n0 o0 g) :
    (∃ p, P[p]? = some x ∧ Src l g p) ∨ (nAt l n0 g ≤ x.1.id ∧ x.1.id < nAt l n0 (g + 1) ∧ oAt P l o0 g ≤ x.2 ∧ x.2 < oAt P l o0 (g + 1) ∧ ∃ m, x.1.by_ = some m ∧ ∃ a, (m, a) ∈ l) := by
  unfold blk at h
  rcases List.mem_append.mp h with h | h
  · rcases putG_mem h with ⟨p, hp, m, i, j, h1⟩ | h
    · exact Or.inl ⟨p, hp, Or.inr ⟨m, i, j, h1⟩⟩
    · exact Or.inr h
  · left
    cases ht : isTaken l g with
    | true => rw [ht] at h; simp at h
    | false =>
      rw [ht] at h
      have h' : P[g]? = some x := by
        cases e : P[g]? with
        | none => rw [e] at h; simp at h
        | some y => rw [e] at h; simp at h; rw [h]
      exact ⟨g, h', Or.inl ⟨rfl, ht⟩⟩
theorem taken_of {l : List (Nat × Ask)} {m i j k p : Nat} (h : (m, Ask.move i j k) ∈ l) (h1 : i ≤ p) (h2 : p < j) : isTaken l p = true := by
  unfold isTaken
  rw [List.any_eq_true]
  exact ⟨_, h, by simp [taken, h1, h2]⟩
theorem moves_apart {i j k i' j' k' p : Nat} (h : clash (.move i j k) (.move i' j' k') = false) (h1 : i ≤ p) (h2 : p < j) (h3 : i' ≤ p) (h4 : p < j') : Ask.move i j k = Ask.move i' j' k' := by
  unfold clash at h
  by_cases e : Ask.move i j k = Ask.move i' j' k'
  · exact e
  · rw [if_neg e] at h
    simp only [Bool.or_eq_false_iff] at h
    have hb : ¬ breaks (.move i j k) (taken (.move i' j' k')).1 (taken (.move i' j' k')).2 = true := by rw [h.1]; decide
    exact absurd ((breaks_iff _ _ _).mpr (Or.inl ⟨by simp [taken]; omega, by simp [taken]; omega⟩)) hb
theorem src_one {l : List (Nat × Ask)} (A : Apt l) {g h p : Nat} (h1 : Src l g p) (h2 : Src l h p) : g = h := by
  rcases h1 with ⟨rfl, t1⟩ | ⟨m, i, j, m1, a1, b1⟩
  · rcases h2 with ⟨rfl, t2⟩ | ⟨m, i, j, m1, a1, b1⟩
    · rfl
    · rw [taken_of m1 a1 b1] at t1; cases t1
  · rcases h2 with ⟨rfl, t2⟩ | ⟨m', i', j', m1', a1', b1'⟩
    · rw [taken_of m1 a1 b1] at t2; cases t2
    · have e := moves_apart (A _ m1 _ m1') a1 b1 a1' b1'
      injection e
structure TxOk (P : Tx) (n0 o0 : Nat) : Prop where
  pw : P.Pairwise Apart2
  lt : ∀ x ∈ P, x.1.id < n0 ∧ x.2 < o0
theorem TxOk.at {P : Tx} {n0 o0 : Nat} (T : TxOk P n0 o0) {p : Nat} {x : Tw} (h : P[p]? = some x) : x.1.id < n0 ∧ x.2 < o0 := T.lt x (List.mem_of_getElem? h)
theorem putG_pw {P : Tx} {l : List (Nat × Ask)} {n0 o0 : Nat} (T : TxOk P n0 o0) (g : Nat) : (putG P l n0 o0 g).Pairwise Apart2 := by
  unfold putG
  cases putAt l g with
  | none => exact List.Pairwise.nil
  | some z =>
    obtain ⟨m, a⟩ := z
    cases a with
    | keep i j => exact List.Pairwise.nil
    | change i j w => exact nwQ_pw m w _ _
    | move i j k => exact T.pw.sublist ((List.take_sublist _ _).trans (List.drop_sublist _ _))
theorem blk_pw {P : Tx} {l : List (Nat × Ask)} {n0 o0 : Nat} (T : TxOk P n0 o0) (g : Nat) : (blk P l n0 o0 g).Pairwise Apart2 := by
  unfold blk
  rw [List.pairwise_append]
  refine ⟨putG_pw T g, ?_, fun x hx y hy => ?_⟩
  · split
    · exact List.Pairwise.nil
    · cases P[g]? <;> simp
  · cases ht : isTaken l g with
    | true => rw [ht] at hy; simp at hy
    | false =>
      rw [ht] at hy
      have hy' : P[g]? = some y := by
        cases e : P[g]? with
        | none => rw [e] at hy; simp at hy
        | some z => rw [e] at hy; simp at hy; rw [hy]
      rcases putG_mem hx with ⟨p, hp, m, i, j, h1, h2, h3⟩ | h
      · refine pw_at T.pw hp hy' fun e => ?_
        subst e
        rw [taken_of h1 h2 h3] at ht
        cases ht
      · have a := T.at hy'
        have b1 := nAt_le l n0 g 0
        have b2 := oAt_le P l o0 g 0
        rw [Nat.zero_add] at b1 b2
        have c1 : nAt l n0 0 = n0 := rfl
        have c2 : oAt P l o0 0 = o0 := rfl
        unfold Apart2
        omega
theorem wpre_pw {P : Tx} {l : List (Nat × Ask)} {n0 o0 : Nat} (T : TxOk P n0 o0) (A : Apt l) (N : Nat) : (wpre P l n0 o0 N).Pairwise Apart2 := by
  unfold wpre
  rw [List.pairwise_flatMap]
  refine ⟨fun g _ => blk_pw T g, ?_⟩
  rw [List.pairwise_iff_getElem]
  intro a b ha hb hab x hx y hy
  rw [List.getElem_range] at hx hy
  have b1 := nAt_le l n0 a 0
  have b2 := oAt_le P l o0 a 0
  have b3 := nAt_le l n0 b 0
  have b4 := oAt_le P l o0 b 0
  rw [Nat.zero_add] at b1 b2 b3 b4
  have c1 : nAt l n0 0 = n0 := rfl
  have c2 : oAt P l o0 0 = o0 := rfl
  rcases blk_mem hx with ⟨p, hp, s1⟩ | h1
  · rcases blk_mem hy with ⟨q, hq, s2⟩ | h2
    · refine pw_at T.pw hp hq fun e => ?_
      subst e
      have := src_one A s1 s2
      omega
    · have := T.at hp
      unfold Apart2
      omega
  · rcases blk_mem hy with ⟨q, hq, s2⟩ | h2
    · have := T.at hq
      unfold Apart2
      omega
    · have d1 := nAt_le l n0 (b - (a + 1)) (a + 1)
      have d2 := oAt_le P l o0 (b - (a + 1)) (a + 1)
      have e : a + 1 + (b - (a + 1)) = b := by omega
      rw [e] at d1 d2
      unfold Apart2
      omega
theorem wpre_mem {P : Tx} {l : List (Nat × Ask)} {n0 o0 N : Nat} {x : Tw} (h : x ∈ wpre P l n0 o0 N) :
    (∃ p, P[p]? = some x ∧ ∃ g, Src l g p) ∨ (n0 ≤ x.1.id ∧ x.1.id < nAt l n0 N ∧ o0 ≤ x.2 ∧ x.2 < oAt P l o0 N ∧ ∃ m, x.1.by_ = some m ∧ ∃ a, (m, a) ∈ l) := by
  unfold wpre at h
  obtain ⟨g, hg, hx⟩ := List.mem_flatMap.mp h
  have hg := List.mem_range.mp hg
  rcases blk_mem hx with ⟨p, hp, s⟩ | h1
  · exact Or.inl ⟨p, hp, g, s⟩
  · right
    have b1 := nAt_le l n0 g 0
    have b2 := oAt_le P l o0 g 0
    rw [Nat.zero_add] at b1 b2
    have c1 : nAt l n0 0 = n0 := rfl
    have c2 : oAt P l o0 0 = o0 := rfl
    have d1 := nAt_le l n0 (N - (g + 1)) (g + 1)
    have d2 := oAt_le P l o0 (N - (g + 1)) (g + 1)
    have e : g + 1 + (N - (g + 1)) = N := by omega
    rw [e] at d1 d2
    exact ⟨by omega, by omega, by omega, by omega, h1.2.2.2.2⟩
end Pf

end
section
/-! Open marks by their numbers. Plain Lean about the specification alone. -/
set_option Elab.async false
set_option linter.all false
namespace Pf
open Si42
def askOf (m : Mark) : Option Ask := match m.stand with
  | .open_ a => some a
  | _ => none
theorem opens_eq (l : List Mark) : opens l = l.zipIdx.filterMap fun x => (askOf x.1).map fun a => (x.2, a) := by
  unfold opens
  congr 1
  funext x
  unfold askOf
  cases x.1.stand <;> rfl
theorem opens_snoc (l : List Mark) (m : Mark) : opens (l ++ [m]) = opens l ++ ((askOf m).map fun a => (l.length, a)).toList := by
  rw [opens_eq, opens_eq, List.zipIdx_append, List.filterMap_append]
  congr 1
  simp only [List.zipIdx_cons, List.zipIdx_nil, List.filterMap_cons, List.filterMap_nil, Nat.zero_add]
  cases askOf m <;> rfl
theorem opens_nil : opens [] = [] := rfl
/-- induction from behind -/
theorem snoc_ind {α : Type} {p : List α → Prop} (h0 : p []) (hs : ∀ l a, p l → p (l ++ [a])) (l : List α) : p l := by
  have key : ∀ n (l : List α), l.length = n → p l := by
    intro n
    induction n with
    | zero =>
      intro l h
      rw [List.eq_nil_of_length_eq_zero h]
      exact h0
    | succ n ih =>
      intro l h
      have hne : l ≠ [] := by intro z; rw [z] at h; simp at h
      rw [← List.dropLast_concat_getLast hne]
      exact hs _ _ (ih _ (by rw [List.length_dropLast]; omega))
  exact key _ l rfl
theorem opens_mem {l : List Mark} {x : Nat × Ask} : x ∈ opens l ↔ ∃ m, l[x.1]? = some m ∧ askOf m = some x.2 := by
  refine snoc_ind (p := fun l => x ∈ opens l ↔ ∃ m, l[x.1]? = some m ∧ askOf m = some x.2) ?_ ?_ l
  · simp [opens_nil]
  · intro l a ih
    rw [opens_snoc, List.mem_append, ih]
    constructor
    · rintro (⟨m, h1, h2⟩ | h)
      · exact ⟨m, by rw [List.getElem?_append_left (List.getElem?_eq_some_iff.mp h1).1]; exact h1, h2⟩
      · cases e : askOf a with
        | none => rw [e] at h; simp at h
        | some b =>
          rw [e] at h
          have : x = (l.length, b) := by simpa using h
          subst this
          exact ⟨a, by simp, e⟩
    · rintro ⟨m, h1, h2⟩
      by_cases c : x.1 < l.length
      · rw [List.getElem?_append_left c] at h1
        exact Or.inl ⟨m, h1, h2⟩
      · rw [List.getElem?_append_right (by omega)] at h1
        have hx : x.1 - l.length = 0 := by
          have := (List.getElem?_eq_some_iff.mp h1).1
          simp at this
          omega
        rw [hx] at h1
        have : a = m := by simpa using h1
        subst this
        right
        rw [h2]
        have : x.1 = l.length := by omega
        simp [← this]
theorem opens_lt {l : List Mark} {x : Nat × Ask} (h : x ∈ opens l) : x.1 < l.length := by
  obtain ⟨m, h1, _⟩ := opens_mem.mp h
  exact (List.getElem?_eq_some_iff.mp h1).1
theorem opens_pw (l : List Mark) : (opens l).Pairwise fun x y => x.1 < y.1 := by
  refine snoc_ind (p := fun l => (opens l).Pairwise fun x y => x.1 < y.1) List.Pairwise.nil ?_ l
  intro l a ih
  rw [opens_snoc, List.pairwise_append]
  refine ⟨ih, ?_, fun x hx y hy => ?_⟩
  · cases askOf a <;> simp
  · cases e : askOf a with
    | none => rw [e] at hy; simp at hy
    | some b =>
      rw [e] at hy
      have : y = (l.length, b) := by simpa using hy
      subst this
      exact opens_lt hx
theorem opens_one {l : List Mark} {x y : Nat × Ask} (hx : x ∈ opens l) (hy : y ∈ opens l) (e : x.1 = y.1) : x = y := by
  obtain ⟨m, h1, h2⟩ := opens_mem.mp hx
  obtain ⟨m', h3, h4⟩ := opens_mem.mp hy
  rw [e, h3] at h1
  cases h1
  rw [h2] at h4
  cases x; cases y
  simp at e h4
  rw [e, h4]
def isO (l : List Mark) (i : Nat) : Bool := ((l[i]?).bind askOf).isSome
theorem opens_range (l : List Mark) : (opens l).map (·.1) = (List.range l.length).filter (isO l) := by
  have key : ∀ n, n ≤ l.length → (opens (l.take n)).map (·.1) = (List.range n).filter (isO l) := by
    intro n
    induction n with
    | zero => intro _; rfl
    | succ n ih =>
      intro h
      have hn : l[n]? = some l[n] := by simp [show n < l.length by omega]
      rw [List.take_add_one, hn, Option.toList_some, opens_snoc, List.map_append, ih (by omega), List.range_succ, List.filter_append]
      congr 1
      have hl : (l.take n).length = n := by rw [List.length_take]; omega
      rw [hl, List.filter_cons, List.filter_nil]
      have e : isO l n = (askOf l[n]).isSome := by unfold isO; rw [hn]; rfl
      rw [e]
      cases askOf l[n] <;> simp
  have := key l.length (Nat.le_refl _)
  rwa [List.take_length] at this
theorem opens_set {l : List Mark} {i : Nat} {m m' : Mark} (h : l[i]? = some m) (hn : askOf m = none) (hn' : askOf m' = none) : opens (l.set i m') = opens l := by
  have e : l = l.take i ++ m :: l.drop (i + 1) := by
    have hi := (List.getElem?_eq_some_iff.mp h)
    obtain ⟨h1, h2⟩ := hi
    rw [← h2, List.getElem_cons_drop, List.take_append_drop]
  obtain ⟨h1, _⟩ := List.getElem?_eq_some_iff.mp h
  rw [opens_eq, opens_eq]
  rw [List.set_eq_take_append_cons_drop, if_pos h1]
  conv => rhs; rw [e]
  simp only [List.zipIdx_append, List.filterMap_append, List.zipIdx_cons, List.filterMap_cons, hn, hn', Option.map_none]
end Pf

end
section
/-! What is put into a gap by a row of marks; who takes a word; where words stand then; what marks ask then. Plain Lean about the specification alone. -/
set_option Elab.async false
set_option linter.all false
namespace Pf
open Si42
/-- what one mark puts into a gap -/
def putOne (P : Tx) (n o g : Nat) (x : Nat × Ask) : Tx := match x.2 with
  | .change i _ w => if i = g then nwQ x.1 n o w else []
  | .move i j k => if k = g then (P.drop i).take (j - i) else []
  | .keep _ _ => []
def putAll (P : Tx) (n o g : Nat) (l : List (Nat × Ask)) : Tx := l.flatMap (putOne P n o g)
theorem putOne_of {P : Tx} {n o g : Nat} {x : Nat × Ask} (h : puts x.2 = some g) : putOne P n o g x = putQ P n o (some x) := by
  obtain ⟨m, a⟩ := x
  cases a with
  | change i j w =>
    have : i = g := by simpa [puts] using h
    simp [putOne, putQ, this]
  | keep i j => simp [puts] at h
  | move i j k =>
    have : k = g := by simpa [puts] using h
    simp [putOne, putQ, this]
theorem putOne_no {P : Tx} {n o g : Nat} {x : Nat × Ask} (h : puts x.2 ≠ some g) : putOne P n o g x = [] := by
  obtain ⟨m, a⟩ := x
  cases a with
  | change i j w =>
    have : ¬ i = g := by simpa [puts] using h
    simp [putOne, this]
  | keep i j => rfl
  | move i j k =>
    have : ¬ k = g := by simpa [puts] using h
    simp [putOne, this]
theorem clash_puts {a b : Ask} {g : Nat} (hne : a ≠ b) (h : clash a b = false) (ha : puts a = some g) : puts b ≠ some g := by
  intro hb
  unfold clash at h
  rw [if_neg hne] at h
  cases a with
  | keep i j => simp [puts] at ha
  | change i j w =>
    cases b with
    | keep i j => simp [puts] at hb
    | change i' j' w' => simp [ha, hb] at h
    | move i' j' k' => simp [ha, hb] at h
  | move i j k =>
    cases b with
    | keep i j => simp [puts] at hb
    | change i' j' w' => simp [ha, hb] at h
    | move i' j' k' => simp [ha, hb] at h
theorem putAll_eq {P : Tx} {n o g : Nat} : ∀ {l : List (Nat × Ask)}, Apt l → (l.Pairwise fun x y => x.2 ≠ y.2) → putAll P n o g l = putQ P n o (putAt l g)
  | [], _, _ => rfl
  | x :: l, hA, hp => by
    have hp' := List.pairwise_cons.mp hp
    have hA' : Apt l := fun y hy z hz => hA y (List.mem_cons_of_mem _ hy) z (List.mem_cons_of_mem _ hz)
    have hput : putAt (x :: l) g = if puts x.2 = some g then some x else putAt l g := by
      unfold putAt
      rw [List.find?_cons]
      by_cases h : puts x.2 = some g
      · simp [h]
      · have : (puts x.2 == some g) = false := by simpa using h
        rw [this, if_neg h]
    unfold putAll
    rw [List.flatMap_cons, hput]
    by_cases h : puts x.2 = some g
    · rw [if_pos h, putOne_of h]
      have : l.flatMap (putOne P n o g) = [] := by
        rw [List.flatMap_eq_nil_iff]
        intro y hy
        exact putOne_no (clash_puts (hp'.1 y hy) (hA x List.mem_cons_self y (List.mem_cons_of_mem _ hy)) h)
      rw [this, List.append_nil]
    · rw [if_neg h, putOne_no h, List.nil_append]
      exact putAll_eq hA' hp'.2
/-- who takes a word, the last one -/
def takes (x : Nat × Ask) (p : Nat) : Bool := decide ((taken x.2).1 ≤ p) && decide (p < (taken x.2).2)
def tkS (p : Nat) (acc : Option (Nat × Ask)) (x : Nat × Ask) : Option (Nat × Ask) := if takes x p = true then some x else acc
def tkF (l : List (Nat × Ask)) (p : Nat) : Option (Nat × Ask) := l.foldl (tkS p) none
theorem tkF_snoc (l : List (Nat × Ask)) (x : Nat × Ask) (p : Nat) : tkF (l ++ [x]) p = if takes x p = true then some x else tkF l p := by
  unfold tkF
  rw [List.foldl_append]
  rfl
theorem tkF_mem (l : List (Nat × Ask)) (p : Nat) {x : Nat × Ask} (h : tkF l p = some x) : x ∈ l ∧ takes x p = true := by
  refine snoc_ind (p := fun l => tkF l p = some x → x ∈ l ∧ takes x p = true) ?_ ?_ l h
  · intro h; cases h
  · intro l a ih h
    rw [tkF_snoc] at h
    by_cases c : takes a p = true
    · rw [if_pos c] at h
      cases h
      exact ⟨by simp, c⟩
    · rw [if_neg c] at h
      exact ⟨List.mem_append_left _ (ih h).1, (ih h).2⟩
theorem tkF_some (l : List (Nat × Ask)) (p : Nat) : (tkF l p).isSome = isTaken l p := by
  refine snoc_ind (p := fun l => (tkF l p).isSome = isTaken l p) rfl ?_ l
  intro l a ih
  rw [tkF_snoc]
  have e : isTaken (l ++ [a]) p = (isTaken l p || takes a p) := by
    unfold isTaken takes
    rw [List.any_append]
    simp
  rw [e, ← ih]
  cases takes a p <;> simp
/-- two that gainsay not don't take the same word, unless they ask the same -/
theorem takes_one {x y : Nat × Ask} {p : Nat} (h : clash x.2 y.2 = false) (hx : takes x p = true) (hy : takes y p = true) : x.2 = y.2 := by
  obtain ⟨m, a⟩ := x
  obtain ⟨m', b⟩ := y
  simp only [takes, Bool.and_eq_true, decide_eq_true_eq] at hx hy
  simp only at h ⊢
  by_cases e : a = b
  · exact e
  · exfalso
    unfold clash at h
    rw [if_neg e] at h
    have key : breaks a (taken b).1 (taken b).2 = true := (breaks_iff _ _ _).mpr (Or.inl ⟨by omega, by omega⟩)
    cases a with
    | keep i j => simp [taken] at hx; omega
    | change i j w =>
      cases b with
      | keep i j => simp [taken] at hy; omega
      | change i' j' w' => simp [key] at h
      | move i' j' k' => simp [key] at h
    | move i j k =>
      cases b with
      | keep i j => simp [taken] at hy; omega
      | change i' j' w' => simp [key] at h
      | move i' j' k' => simp [key] at h
/-- the change that takes a word -/
def chg (o : Option (Nat × Ask)) : Option Nat := match o with
  | some (m, .change _ _ _) => some m
  | _ => none
def chT (p : Nat) (x : Nat × Ask) : Bool := match x.2 with
  | .change i j _ => decide (i ≤ p) && decide (p < j)
  | _ => false
theorem takerOf_eq (l : List (Nat × Ask)) (p : Nat) : takerOf l p = (l.find? (chT p)).map fun x => x.1 := rfl
theorem chT_takes {p : Nat} {y : Nat × Ask} (c : chT p y = true) : takes y p = true ∧ akKind y.2 = 0 := by
  obtain ⟨m', b⟩ := y
  cases b with
  | change i' j' w' => exact ⟨c, rfl⟩
  | keep _ _ => cases c
  | move _ _ _ => cases c
theorem taker_eq {l : List (Nat × Ask)} (hA : Apt l) (hp : l.Pairwise fun x y => x.2 ≠ y.2) (p : Nat) : takerOf l p = chg (tkF l p) := by
  have uniq : ∀ x ∈ l, ∀ y ∈ l, takes x p = true → takes y p = true → x = y := by
    intro x hx y hy tx ty
    have e := takes_one (hA x hx y hy) tx ty
    obtain ⟨i, hi⟩ := List.mem_iff_getElem?.mp hx
    obtain ⟨j, hj⟩ := List.mem_iff_getElem?.mp hy
    obtain ⟨li, ei⟩ := List.getElem?_eq_some_iff.mp hi
    obtain ⟨lj, ej⟩ := List.getElem?_eq_some_iff.mp hj
    rw [List.pairwise_iff_getElem] at hp
    rcases Nat.lt_trichotomy i j with h | h | h
    · exact absurd (by rw [ei, ej]; exact e) (hp i j li lj h)
    · subst h; rw [hi] at hj; cases hj; rfl
    · exact absurd (by rw [ei, ej]; exact e.symm) (hp j i lj li h)
  rw [takerOf_eq]
  cases ht : tkF l p with
  | some x =>
    obtain ⟨hx, tx⟩ := tkF_mem l p ht
    cases hq : l.find? (chT p) with
    | none =>
      have hn := List.find?_eq_none.mp hq x hx
      obtain ⟨m, a⟩ := x
      cases a with
      | change i j w => exact absurd tx hn
      | keep i j => rfl
      | move i j k => rfl
    | some y =>
      have hc := chT_takes (List.find?_some hq)
      have e := uniq _ hx _ (List.mem_of_find?_eq_some hq) tx hc.1
      subst e
      obtain ⟨m, a⟩ := x
      cases a with
      | change i j w => rfl
      | keep i j => simp [akKind] at hc
      | move i j k => simp [akKind] at hc
  | none =>
    have hn : isTaken l p = false := by rw [← tkF_some, ht]; rfl
    cases hq : l.find? (chT p) with
    | none => rfl
    | some y =>
      have hc := chT_takes (List.find?_some hq)
      have : isTaken l p = true := by
        unfold isTaken
        rw [List.any_eq_true]
        exact ⟨y, List.mem_of_find?_eq_some hq, hc.1⟩
      rw [hn] at this
      cases this
/-- the words taken by changes, by places -/
def tkRow (P : Tx) (l : List (Nat × Ask)) (g : Nat) : List (Tw × Nat) := match P[g]?, chg (tkF l g) with
  | some x, some m => [(x, m)]
  | _, _ => []
def tkL (P : Tx) (l : List (Nat × Ask)) (N : Nat) : List (Tw × Nat) := (List.range N).flatMap (tkRow P l)
theorem tkL_succ (P : Tx) (l : List (Nat × Ask)) (N : Nat) : tkL P l (N + 1) = tkL P l N ++ tkRow P l N := by
  unfold tkL
  rw [List.range_succ, List.flatMap_append]
  simp
theorem zip_fm {α β : Type} (f : α × Nat → Option β) : ∀ (l : List α) (k : Nat), (l.zipIdx k).filterMap f = (List.range l.length).flatMap fun i => (match l[i]? with | some x => f (x, k + i) | none => none).toList
  | [], k => rfl
  | a :: l, k => by
    have ih := zip_fm f l (k + 1)
    rw [List.zipIdx_cons, List.filterMap_cons, ih, List.length_cons, List.range_succ_eq_map, List.flatMap_cons, List.flatMap_map]
    have e : (fun i => (match l[i]? with | some x => f (x, k + 1 + i) | none => none).toList) = fun i => (match (a :: l)[i + 1]? with | some x => f (x, k + (i + 1)) | none => none).toList := by
      funext i
      rw [List.getElem?_cons_succ, show k + 1 + i = k + (i + 1) by omega]
    rw [e]
    simp only [List.getElem?_cons_zero, Nat.add_zero]
    cases f (a, k) <;> rfl
theorem gone_eq {P : Tx} {l : List (Nat × Ask)} (hA : Apt l) (hp : l.Pairwise fun x y => x.2 ≠ y.2) :
    ((P.map (·.1)).zipIdx.filterMap fun x => (takerOf l x.2).map fun m => (x.1.id, m)) = (tkL P l P.length).map fun y => (y.1.1.id, y.2) := by
  rw [zip_fm, List.length_map]
  unfold tkL
  rw [List.map_flatMap]
  congr 1
  funext g
  rw [List.getElem?_map]
  unfold tkRow
  cases P[g]? with
  | none => rfl
  | some x =>
    simp only [Option.map_some, Nat.zero_add]
    rw [taker_eq hA hp]
    cases chg (tkF l g) <;> rfl
/-! ### where words stand then -/
def idxQ (Q : Tx) (o : Nat) : Option Nat := Q.findIdx? fun y => y.2 == o
/-- all of some words follow one another from a place on -/
def follow (P Q : Tx) (b i : Nat) : Nat → Bool
  | 0 => true
  | d + 1 => follow P Q b i d && (match Q[b + d]?, P[i + d]? with
    | some y, some x => y.2 == x.2
    | _, _ => false)
def whereQ (P Q : Tx) (i j : Nat) : Option Nat := match P[i]? with
  | none => none
  | some x => match idxQ Q x.2 with
    | none => none
    | some b => if follow P Q b i (j - i) = true then some b else none
theorem follow_iff (P Q : Tx) (b i : Nat) : ∀ d, follow P Q b i d = true ↔ ∀ e, e < d → ∃ y x, Q[b + e]? = some y ∧ P[i + e]? = some x ∧ y.2 = x.2
  | 0 => by simp [follow]
  | d + 1 => by
    rw [follow, Bool.and_eq_true, follow_iff P Q b i d]
    constructor
    · rintro ⟨h1, h2⟩ e he
      by_cases c : e < d
      · exact h1 e c
      · have : e = d := by omega
        subst this
        cases hq : Q[b + e]? with
        | none => rw [hq] at h2; cases h2
        | some y =>
          cases hp : P[i + e]? with
          | none => rw [hq, hp] at h2; cases h2
          | some x =>
            rw [hq, hp] at h2
            exact ⟨y, x, rfl, rfl, by simpa using h2⟩
    · intro h
      refine ⟨fun e he => h e (by omega), ?_⟩
      obtain ⟨y, x, h1, h2, h3⟩ := h d (by omega)
      rw [h1, h2]
      simpa using h3
theorem slice_eq (P Q : Tx) (f : Tw → Nat) (p i m : Nat) (hi : i + m ≤ P.length) :
    (((Q.drop p).take m).map f = ((P.drop i).take m).map f) ↔ ∀ e, e < m → ∃ y x, Q[p + e]? = some y ∧ P[i + e]? = some x ∧ f y = f x := by
  constructor
  · intro h e he
    have h2 := congrArg (fun l => l[e]?) h
    simp only [List.getElem?_map, List.getElem?_take, he, if_true, List.getElem?_drop] at h2
    have hx : P[i + e]? = some (P[i + e]'(by omega)) := by simp [show i + e < P.length by omega]
    rw [hx] at h2
    cases hq : Q[p + e]? with
    | none => rw [hq] at h2; cases h2
    | some y =>
      rw [hq] at h2
      exact ⟨y, _, rfl, hx, Option.some.inj h2⟩
  · intro h
    apply List.ext_getElem?
    intro e
    simp only [List.getElem?_map, List.getElem?_take, List.getElem?_drop]
    by_cases he : e < m
    · obtain ⟨y, x, h1, h2, h3⟩ := h e he
      simp [he, h1, h2, h3]
    · simp [he]
theorem idx_one {Q : Tx} (hQ : Q.Pairwise Apart2) {b : Nat} {y : Tw} (h : Q[b]? = some y) : idxQ Q y.2 = some b := by
  unfold idxQ
  rw [List.findIdx?_eq_some_iff_getElem]
  obtain ⟨hb, eb⟩ := List.getElem?_eq_some_iff.mp h
  refine ⟨hb, by rw [eb]; simp, fun j hj => ?_⟩
  have hj' : Q[j]? = some (Q[j]'(by omega)) := by simp [show j < Q.length by omega]
  have := (pw_at hQ hj' h (by omega)).2
  simpa using this
theorem idx_at {Q : Tx} {o b : Nat} (h : idxQ Q o = some b) : ∃ y, Q[b]? = some y ∧ y.2 = o := by
  unfold idxQ at h
  rw [List.findIdx?_eq_some_iff_getElem] at h
  obtain ⟨hb, e, _⟩ := h
  exact ⟨Q[b], by simp [hb], by simpa using e⟩
/-- words of the old and the new text are the same by either number -/
def Same2 (P Q : Tx) : Prop := ∀ x ∈ P, ∀ y ∈ Q, (y.1.id = x.1.id ↔ y.2 = x.2)
theorem range_eq {P Q : Tx} {i j : Nat} (hQ : Q.Pairwise Apart2) (hs : Same2 P Q) (hij : i < j) (hj : j ≤ P.length) :
    rangeThen (P.map (·.1)) (Q.map (·.1)) i j = (whereQ P Q i j).map fun b => (b, b + (j - i)) := by
  have hx : P[i]? = some (P[i]'(by omega)) := by simp [show i < P.length by omega]
  have pred : ∀ p, ((((Q.map (·.1)).drop p).take (j - i)).map (fun x => x.id) == (((P.map (·.1)).drop i).take (j - i)).map fun x => x.id) = true ↔ follow P Q p i (j - i) = true := by
    intro p
    rw [beq_iff_eq, ← List.map_drop, ← List.map_take, List.map_map, ← List.map_drop, ← List.map_take, List.map_map]
    have := slice_eq P Q (fun x => x.1.id) p i (j - i) (by omega)
    rw [follow_iff]
    refine Iff.trans this ?_
    constructor
    · intro h e he
      obtain ⟨y, x, h1, h2, h3⟩ := h e he
      exact ⟨y, x, h1, h2, (hs x (List.mem_of_getElem? h2) y (List.mem_of_getElem? h1)).mp h3⟩
    · intro h e he
      obtain ⟨y, x, h1, h2, h3⟩ := h e he
      exact ⟨y, x, h1, h2, (hs x (List.mem_of_getElem? h2) y (List.mem_of_getElem? h1)).mpr h3⟩
  have only : ∀ p, follow P Q p i (j - i) = true → idxQ Q (P[i]'(by omega)).2 = some p := by
    intro p h
    rw [follow_iff] at h
    obtain ⟨y, x, h1, h2, h3⟩ := h 0 (by omega)
    rw [Nat.add_zero] at h1 h2
    rw [hx] at h2
    cases h2
    rw [← h3]
    exact idx_one hQ h1
  unfold rangeThen whereQ
  simp only []
  rw [hx]
  simp only []
  cases hi : idxQ Q (P[i]'(by omega)).2 with
  | none =>
    have : (List.range ((Q.map (·.1)).length + 1)).find? (fun p => (((Q.map (·.1)).drop p).take (j - i)).map (fun x => x.id) == (((P.map (·.1)).drop i).take (j - i)).map fun x => x.id) = none := by
      rw [List.find?_eq_none]
      intro p _ c
      rw [only p ((pred p).mp c)] at hi
      cases hi
    rw [this]
  | some b =>
    by_cases hf : follow P Q b i (j - i) = true
    · have : (List.range ((Q.map (·.1)).length + 1)).find? (fun p => (((Q.map (·.1)).drop p).take (j - i)).map (fun x => x.id) == (((P.map (·.1)).drop i).take (j - i)).map fun x => x.id) = some b := by
        cases hq : (List.range ((Q.map (·.1)).length + 1)).find? (fun p => (((Q.map (·.1)).drop p).take (j - i)).map (fun x => x.id) == (((P.map (·.1)).drop i).take (j - i)).map fun x => x.id) with
        | none =>
          obtain ⟨y, hy, _⟩ := idx_at hi
          have hb := (List.getElem?_eq_some_iff.mp hy).1
          exact absurd ((pred b).mpr hf) (List.find?_eq_none.mp hq b (List.mem_range.mpr (by rw [List.length_map]; omega)))
        | some p =>
          have hq2 := List.find?_some hq
          have := only p ((pred p).mp hq2)
          rw [hi] at this
          rw [← this]
      rw [this]
      simp [hf]
    · have : (List.range ((Q.map (·.1)).length + 1)).find? (fun p => (((Q.map (·.1)).drop p).take (j - i)).map (fun x => x.id) == (((P.map (·.1)).drop i).take (j - i)).map fun x => x.id) = none := by
        rw [List.find?_eq_none]
        intro p _ c
        have h2 := only p ((pred p).mp c)
        rw [hi] at h2
        cases h2
        exact hf ((pred b).mp c)
      rw [this]
      simp [hf]
theorem where_le {P Q : Tx} {i j b : Nat} (hij : i < j) (h : whereQ P Q i j = some b) : b + (j - i) ≤ Q.length := by
  unfold whereQ at h
  cases hp : P[i]? with
  | none => rw [hp] at h; cases h
  | some x =>
    rw [hp] at h
    simp only at h
    cases hi : idxQ Q x.2 with
    | none => rw [hi] at h; cases h
    | some c =>
      rw [hi] at h
      simp only at h
      split at h
      · rename_i hf
        cases h
        obtain ⟨y, z, h1, _⟩ := (follow_iff _ _ _ _ _).mp hf (j - i - 1) (by omega)
        have := (List.getElem?_eq_some_iff.mp h1).1
        omega
      · cases h
/-- what a mark asks then, by the program's numbers -/
def askQ (P Q : Tx) (gs : Nat → Nat) : Ask → Option Ask
  | .change i j w => if i = j then some (.change (gs i) (gs i) w) else (whereQ P Q i j).map fun b => .change b (b + (j - i)) w
  | .keep i j => (whereQ P Q i j).map fun b => .keep b (b + (j - i))
  | .move i j k => (whereQ P Q i j).map fun b => .move b (b + (j - i)) (gs k)
theorem ask_eq {P Q : Tx} {l : List (Nat × Ask)} {n0 o0 : Nat} (hQ : Q.Pairwise Apart2) (hs : Same2 P Q) {a : Ask} (hw : AskWf P.length a) :
    askThen (P.map (·.1)) (Q.map (·.1)) l a = askQ P Q (gapQ P (once l) n0 o0) a := by
  cases a with
  | change i j w =>
    simp only [AskWf] at hw
    simp only [askThen, askQ]
    rw [gap_eq P l n0 o0 i (by omega)]
    by_cases h : i = j
    · rw [if_pos h, if_pos h]
    · rw [if_neg h, if_neg h, range_eq hQ hs (by omega) hw.2]
      cases whereQ P Q i j <;> rfl
  | keep i j =>
    simp only [AskWf] at hw
    simp only [askThen, askQ]
    rw [range_eq hQ hs hw.1 hw.2]
    cases whereQ P Q i j <;> rfl
  | move i j k =>
    simp only [AskWf] at hw
    simp only [askThen, askQ]
    rw [range_eq hQ hs hw.1 hw.2.1, gap_eq P l n0 o0 k hw.2.2]
    cases whereQ P Q i j <;> rfl
theorem askQ_wf {P Q : Tx} {gs : Nat → Nat} {a b : Ask} (hw : AskWf P.length a) (hg : ∀ g, g ≤ P.length → gs g ≤ Q.length) (h : askQ P Q gs a = some b) : AskWf Q.length b := by
  cases a with
  | change i j w =>
    simp only [AskWf] at hw
    simp only [askQ] at h
    split at h
    · cases h
      have := hg i (by omega)
      exact ⟨Nat.le_refl _, this⟩
    · cases e : whereQ P Q i j with
      | none => rw [e] at h; cases h
      | some c =>
        rw [e] at h
        cases h
        have := where_le (by omega) e
        exact ⟨by omega, this⟩
  | keep i j =>
    simp only [AskWf] at hw
    simp only [askQ] at h
    cases e : whereQ P Q i j with
    | none => rw [e] at h; cases h
    | some c =>
      rw [e] at h
      cases h
      have := where_le (by omega) e
      exact ⟨by omega, this⟩
  | move i j k =>
    simp only [AskWf] at hw
    simp only [askQ] at h
    cases e : whereQ P Q i j with
    | none => rw [e] at h; cases h
    | some c =>
      rw [e] at h
      cases h
      have := where_le (by omega) e
      exact ⟨by omega, this, hg k hw.2.2⟩
theorem askQ_words {P Q : Tx} {gs : Nat → Nat} {a b : Ask} (h : askQ P Q gs a = some b) : akW b = akW a ∧ akKind b = akKind a := by
  cases a with
  | change i j w =>
    simp only [askQ] at h
    split at h
    · cases h; exact ⟨rfl, rfl⟩
    · cases e : whereQ P Q i j with
      | none => rw [e] at h; cases h
      | some c => rw [e] at h; cases h; exact ⟨rfl, rfl⟩
  | keep i j =>
    simp only [askQ] at h
    cases e : whereQ P Q i j with
    | none => rw [e] at h; cases h
    | some c => rw [e] at h; cases h; exact ⟨rfl, rfl⟩
  | move i j k =>
    simp only [askQ] at h
    cases e : whereQ P Q i j with
    | none => rw [e] at h; cases h
    | some c => rw [e] at h; cases h; exact ⟨rfl, rfl⟩
theorem same2_wpre {P : Tx} {l : List (Nat × Ask)} {n0 o0 N : Nat} (T : TxOk P n0 o0) : Same2 P (wpre P l n0 o0 N) := by
  intro x hx y hy
  obtain ⟨p, hp⟩ := List.mem_iff_getElem?.mp hx
  rcases wpre_mem hy with ⟨q, hq, _⟩ | h
  · by_cases e : q = p
    · subst e
      rw [hp] at hq
      cases hq
      exact ⟨fun _ => rfl, fun _ => rfl⟩
    · have := pw_at T.pw hq hp e
      exact ⟨fun z => absurd z this.1, fun z => absurd z this.2⟩
  · have := T.lt x hx
    constructor <;> intro z <;> omega
end Pf

end
section
set_option Elab.async false
set_option linter.all false
set_option maxRecDepth 100000
/-! What the top has written, by names; printed by gen.py. -/
namespace Pf
open PySem PySem.Spec PyProof.Rows L2

def top (i : Nat) : Stmt := PySem.Challenge.pw_proofrounds_s01_answers.main.body.getD i (.Pass ⟨0, 0, 0, 0⟩)
abbrev s_Word_init : Stmt := inClass (top 8) 0
abbrev s_Mark_init : Stmt := inClass (top 9) 0
abbrev s_Choice_init : Stmt := inClass (top 15) 0
abbrev s_Carried_init : Stmt := inClass (top 19) 0
abbrev s_Costs_init : Stmt := inClass (top 29) 0
abbrev s_Place_init : Stmt := inClass (top 30) 0
abbrev s_Slots_init : Stmt := inClass (top 35) 0
abbrev s_Refused_init : Stmt := inClass (top 49) 0
abbrev s_Holder_init : Stmt := inClass (top 50) 0
abbrev s_are_same : Stmt := top 10
abbrev s_breaks_into : Stmt := top 11
abbrev s_gainsay : Stmt := top 12
abbrev s_open_marks : Stmt := top 13
abbrev s_clashing : Stmt := top 14
abbrev s_longer : Stmt := top 16
abbrev s_heaviest : Stmt := top 17
abbrev s_once : Stmt := top 20
abbrev s_takers : Stmt := top 21
abbrev s_put_at : Stmt := top 22
abbrev s_carried : Stmt := top 23
abbrev s_place_of : Stmt := top 24
abbrev s_where_now : Stmt := top 25
abbrev s_ask_anew : Stmt := top 26
abbrev s_settle_marks : Stmt := top 27
abbrev s_pair_cost : Stmt := top 31
abbrev s_cheapest : Stmt := top 32
abbrev s_steps_of : Stmt := top 33
abbrev s_is_like : Stmt := top 34
abbrev s_slots_of : Stmt := top 36
abbrev s_places_of : Stmt := top 37
abbrev s_way_cost : Stmt := top 38
abbrev s_ask : Stmt := top 51
abbrev s_are_words : Stmt := top 52
abbrev s_told : Stmt := top 53
abbrev s_begins : Stmt := top 54
abbrev s_reader : Stmt := top 55
abbrev s_put_mark : Stmt := top 56
abbrev s_change : Stmt := top 57
abbrev s_keep : Stmt := top 58
abbrev s_move : Stmt := top 59
abbrev s_withdraw : Stmt := top 60
abbrev s_clashes : Stmt := top 61
abbrev s_carry : Stmt := top 62
abbrev s_shown : Stmt := top 63
abbrev s_who : Stmt := top 64
abbrev s_mark_told : Stmt := top 65
abbrev s_gone : Stmt := top 66
abbrev s_test : Stmt := top 67
abbrev s_set_costs : Stmt := top 68
abbrev s_fault_places : Stmt := top 69
abbrev s_set_setting : Stmt := top 70
abbrev s_faults : Stmt := top 71
abbrev s_adopt : Stmt := top 72
abbrev s_clean : Stmt := top 73
abbrev s_explained_place : Stmt := top 74
abbrev s_explained : Stmt := top 75
abbrev s_answer : Stmt := top 80
abbrev s_answers : Stmt := top 81
abbrev N_Word_init : List Str := ["self", "value", "own", "first", "mark"]
abbrev P_Word_init : List Str := ["self", "value", "own", "first", "mark"]
abbrev N_Mark_init : List Str := ["self", "kind", "reader", "i", "j"]
abbrev P_Mark_init : List Str := ["self", "kind", "reader", "i", "j"]
abbrev N_Choice_init : List Str := ["self", "numbers", "weight"]
abbrev P_Choice_init : List Str := ["self", "numbers", "weight"]
abbrev N_Carried_init : List Str := ["self"]
abbrev P_Carried_init : List Str := ["self"]
abbrev N_Costs_init : List Str := ["self", "other", "out", "into"]
abbrev P_Costs_init : List Str := ["self", "other", "out", "into"]
abbrev N_Place_init : List Str := ["self", "begin", "end", "first", "last"]
abbrev P_Place_init : List Str := ["self", "begin", "end", "first", "last"]
abbrev N_Slots_init : List Str := ["self", "many"]
abbrev P_Slots_init : List Str := ["self", "many"]
abbrev N_Refused_init : List Str := ["self", "number", "asked"]
abbrev P_Refused_init : List Str := ["self", "number", "asked"]
abbrev N_Holder_init : List Str := ["self"]
abbrev P_Holder_init : List Str := ["self"]
abbrev N_are_same : List Str := ["one", "other"]
abbrev P_are_same : List Str := ["one", "other"]
abbrev N_breaks_into : List Str := ["mark", "i", "j"]
abbrev P_breaks_into : List Str := ["mark", "i", "j"]
abbrev N_gainsay : List Str := ["one", "other"]
abbrev P_gainsay : List Str := ["one", "other"]
abbrev N_open_marks : List Str := ["marks", "number", "mark"]
abbrev P_open_marks : List Str := ["marks"]
abbrev N_clashing : List Str := ["marks", "numbers", "found", "at", "one", "other"]
abbrev P_clashing : List Str := ["marks"]
abbrev N_longer : List Str := ["choice", "marks", "number", "weight", "one"]
abbrev P_longer : List Str := ["choice", "marks", "number", "weight"]
abbrev N_heaviest : List Str := ["marks", "weights", "rows", "number", "more", "choice", "best"]
abbrev P_heaviest : List Str := ["marks", "weights"]
abbrev N_once : List Str := ["marks", "numbers", "found", "number", "one"]
abbrev P_once : List Str := ["marks", "numbers"]
abbrev N_takers : List Str := ["marks", "numbers", "found", "number", "place"]
abbrev P_takers : List Str := ["marks", "numbers"]
abbrev N_put_at : List Str := ["text", "marks", "numbers", "gap", "own", "found", "number", "mark", "at", "value"]
abbrev P_put_at : List Str := ["text", "marks", "numbers", "gap", "own"]
abbrev N_carried : List Str := ["text", "marks", "numbers", "own", "alone", "taken", "found", "gap", "put"]
abbrev P_carried : List Str := ["text", "marks", "numbers", "own"]
abbrev N_place_of : List Str := ["text", "word", "place", "one"]
abbrev P_place_of : List Str := ["text", "word"]
abbrev N_where_now : List Str := ["old", "new", "i", "j", "begin", "place", "at"]
abbrev P_where_now : List Str := ["old", "new", "i", "j"]
abbrev N_ask_anew : List Str := ["mark", "old", "found", "proof", "begin"]
abbrev P_ask_anew : List Str := ["mark", "old", "found", "proof"]
abbrev N_settle_marks : List Str := ["marks", "numbers", "old", "found", "proof", "number"]
abbrev P_settle_marks : List Str := ["marks", "numbers", "old", "found", "proof"]
abbrev N_pair_cost : List Str := ["costs", "one", "other"]
abbrev P_pair_cost : List Str := ["costs", "one", "other"]
abbrev N_cheapest : List Str := ["base", "copy", "costs", "rows", "i", "j", "found"]
abbrev P_cheapest : List Str := ["base", "copy", "costs"]
abbrev N_steps_of : List Str := ["base", "copy", "costs", "rows", "i", "j", "found", "step"]
abbrev P_steps_of : List Str := ["base", "copy", "costs"]
abbrev N_is_like : List Str := ["base", "copy", "i", "j", "step"]
abbrev P_is_like : List Str := ["base", "copy", "i", "j", "step"]
abbrev N_slots_of : List Str := ["base", "copy", "costs", "found", "i", "j", "step", "slot"]
abbrev P_slots_of : List Str := ["base", "copy", "costs"]
abbrev N_places_of : List Str := ["base", "copy", "costs", "slots", "found", "before", "is_open", "slot", "many"]
abbrev P_places_of : List Str := ["base", "copy", "costs"]
abbrev N_way_cost : List Str := ["base", "copy", "costs"]
abbrev P_way_cost : List Str := ["base", "copy", "costs"]
abbrev N_ask : List Str := ["holds", "number"]
abbrev P_ask : List Str := ["holds", "number"]
abbrev N_are_words : List Str := ["row", "word"]
abbrev P_are_words : List Str := ["row"]
abbrev N_told : List Str := ["words", "word"]
abbrev P_told : List Str := ["words"]
abbrev N_begins : List Str := ["holder", "numbers", "row", "place", "value"]
abbrev P_begins : List Str := ["holder", "numbers", "row"]
abbrev N_reader : List Str := ["holder", "numbers", "row"]
abbrev P_reader : List Str := ["holder", "numbers", "row"]
abbrev N_put_mark : List Str := ["holder", "mark"]
abbrev P_put_mark : List Str := ["holder", "mark"]
abbrev N_change : List Str := ["holder", "numbers", "row", "who_asks", "i", "j", "mark"]
abbrev P_change : List Str := ["holder", "numbers", "row"]
abbrev N_keep : List Str := ["holder", "numbers", "row", "who_asks", "i", "j"]
abbrev P_keep : List Str := ["holder", "numbers", "row"]
abbrev N_move : List Str := ["holder", "numbers", "row", "who_asks", "i", "j", "k", "mark"]
abbrev P_move : List Str := ["holder", "numbers", "row"]
abbrev N_withdraw : List Str := ["holder", "numbers", "row"]
abbrev P_withdraw : List Str := ["holder", "numbers", "row"]
abbrev N_clashes : List Str := ["holder", "numbers", "row", "pairs", "found", "pair"]
abbrev P_clashes : List Str := ["holder", "numbers", "row"]
abbrev N_carry : List Str := ["holder", "numbers", "row", "choice", "found", "one"]
abbrev P_carry : List Str := ["holder", "numbers", "row"]
abbrev N_shown : List Str := ["holder", "numbers", "row"]
abbrev P_shown : List Str := ["holder", "numbers", "row"]
abbrev N_who : List Str := ["holder", "numbers", "row", "word"]
abbrev P_who : List Str := ["holder", "numbers", "row"]
abbrev N_mark_told : List Str := ["holder", "numbers", "row", "mark", "found"]
abbrev P_mark_told : List Str := ["holder", "numbers", "row"]
abbrev N_gone : List Str := ["holder", "numbers", "row", "found", "word", "mark"]
abbrev P_gone : List Str := ["holder", "numbers", "row"]
abbrev N_test : List Str := ["holder", "numbers", "row", "number", "at", "one", "other", "words"]
abbrev P_test : List Str := ["holder", "numbers", "row"]
abbrev N_set_costs : List Str := ["holder", "numbers", "row", "one"]
abbrev P_set_costs : List Str := ["holder", "numbers", "row"]
abbrev N_fault_places : List Str := ["holder"]
abbrev P_fault_places : List Str := ["holder"]
abbrev N_set_setting : List Str := ["holder", "numbers", "row"]
abbrev P_set_setting : List Str := ["holder", "numbers", "row"]
abbrev N_faults : List Str := ["holder", "numbers", "row", "places", "found", "place", "words"]
abbrev P_faults : List Str := ["holder", "numbers", "row"]
abbrev N_adopt : List Str := ["holder", "numbers", "row", "places", "place"]
abbrev P_adopt : List Str := ["holder", "numbers", "row"]
abbrev N_clean : List Str := ["holder", "numbers", "row"]
abbrev P_clean : List Str := ["holder", "numbers", "row"]
abbrev N_explained_place : List Str := ["holder", "place", "words", "took", "word", "mark", "marks", "stand", "due", "found", "first"]
abbrev P_explained_place : List Str := ["holder", "place"]
abbrev N_explained : List Str := ["holder", "numbers", "row", "places", "found", "place"]
abbrev P_explained : List Str := ["holder", "numbers", "row"]
abbrev N_answer : List Str := ["holder", "number", "numbers", "row", "deed", "told", "refused"]
abbrev P_answer : List Str := ["holder", "number", "numbers", "row"]
abbrev N_answers : List Str := ["calls", "holder", "found", "at", "number", "behind", "numbers", "row", "told"]
abbrev P_answers : List Str := ["calls"]
/-- a def of the top -/
structure FnAt (K : PySem.W.Frag) (mg : Str → Option Value) (x : Str) (st : Stmt) (ps : List Str) where
  f : Addr
  fd : FuncData
  F : Fun K x x st f fd
  g : mg x = some (.ref f)
  b : Binds K fd ps []
/-- a class of the top -/
structure ClAt (K : PySem.W.Frag) (mg : Str → Option Value) (x q : Str) (st : Stmt) (ps fl : List Str) where
  C : Addr
  g : mg x = some (.ref C)
  cl : Cls K C
  no : ∀ f ∈ fl, NoAttr K C f
  fI : Addr
  fdI : FuncData
  F : Fun K "__init__" q st fI fdI
  b : Binds K fdI ps []
  mkd : Mk K C fI
/-- the error's class -/
structure ExAt (K : PySem.W.Frag) (mg : Str → Option Value) (x q : Str) (st : Stmt) (ps : List Str) where
  C : Addr
  g : mg x = some (.ref C)
  oex : OexC K C
  xf : XfC K C
  no : PySem.W.findIn K (.ref C) "number" = some none
  fI : Addr
  fdI : FuncData
  F : Fun K "__init__" q st fI fdI
  b : Binds K fdI ps []
  iC : PySem.W.findIn K (.ref C) "__init__" = some (some (.ref fI))
  tI : PySem.W.typeIn K (.ref fI) = some (.type "function")
  ex : PySem.W.exmOne K (.ref C) (.ref C) = some true

structure Tp (K : PySem.W.Frag) (mg : Str → Option Value) where
  Word : ClAt K mg "Word" "Word.__init__" s_Word_init P_Word_init ["value", "own", "first", "mark"]
  Mark : ClAt K mg "Mark" "Mark.__init__" s_Mark_init P_Mark_init ["kind", "reader", "i", "j", "k", "words", "state", "proof"]
  Choice : ClAt K mg "Choice" "Choice.__init__" s_Choice_init P_Choice_init ["numbers", "weight"]
  Carried : ClAt K mg "Carried" "Carried.__init__" s_Carried_init P_Carried_init ["words", "gaps", "taken"]
  Costs : ClAt K mg "Costs" "Costs.__init__" s_Costs_init P_Costs_init ["other", "out", "into"]
  Place : ClAt K mg "Place" "Place.__init__" s_Place_init P_Place_init ["begin", "end", "first", "last"]
  Slots : ClAt K mg "Slots" "Slots.__init__" s_Slots_init P_Slots_init ["counts", "varied"]
  Refused : ExAt K mg "Refused" "Refused.__init__" s_Refused_init P_Refused_init
  Holder : ClAt K mg "Holder" "Holder.__init__" s_Holder_init P_Holder_init ["first", "text", "proof", "weights", "marks", "taken", "setting", "costs", "own"]
  are_same : FnAt K mg "are_same" s_are_same P_are_same
  breaks_into : FnAt K mg "breaks_into" s_breaks_into P_breaks_into
  gainsay : FnAt K mg "gainsay" s_gainsay P_gainsay
  open_marks : FnAt K mg "open_marks" s_open_marks P_open_marks
  clashing : FnAt K mg "clashing" s_clashing P_clashing
  longer : FnAt K mg "longer" s_longer P_longer
  heaviest : FnAt K mg "heaviest" s_heaviest P_heaviest
  once : FnAt K mg "once" s_once P_once
  takers : FnAt K mg "takers" s_takers P_takers
  put_at : FnAt K mg "put_at" s_put_at P_put_at
  carried : FnAt K mg "carried" s_carried P_carried
  place_of : FnAt K mg "place_of" s_place_of P_place_of
  where_now : FnAt K mg "where_now" s_where_now P_where_now
  ask_anew : FnAt K mg "ask_anew" s_ask_anew P_ask_anew
  settle_marks : FnAt K mg "settle_marks" s_settle_marks P_settle_marks
  pair_cost : FnAt K mg "pair_cost" s_pair_cost P_pair_cost
  cheapest : FnAt K mg "cheapest" s_cheapest P_cheapest
  steps_of : FnAt K mg "steps_of" s_steps_of P_steps_of
  is_like : FnAt K mg "is_like" s_is_like P_is_like
  slots_of : FnAt K mg "slots_of" s_slots_of P_slots_of
  places_of : FnAt K mg "places_of" s_places_of P_places_of
  way_cost : FnAt K mg "way_cost" s_way_cost P_way_cost
  ask : FnAt K mg "ask" s_ask P_ask
  are_words : FnAt K mg "are_words" s_are_words P_are_words
  told : FnAt K mg "told" s_told P_told
  begins : FnAt K mg "begins" s_begins P_begins
  reader : FnAt K mg "reader" s_reader P_reader
  put_mark : FnAt K mg "put_mark" s_put_mark P_put_mark
  change : FnAt K mg "change" s_change P_change
  keep : FnAt K mg "keep" s_keep P_keep
  move : FnAt K mg "move" s_move P_move
  withdraw : FnAt K mg "withdraw" s_withdraw P_withdraw
  clashes : FnAt K mg "clashes" s_clashes P_clashes
  carry : FnAt K mg "carry" s_carry P_carry
  shown : FnAt K mg "shown" s_shown P_shown
  who : FnAt K mg "who" s_who P_who
  mark_told : FnAt K mg "mark_told" s_mark_told P_mark_told
  gone : FnAt K mg "gone" s_gone P_gone
  test : FnAt K mg "test" s_test P_test
  set_costs : FnAt K mg "set_costs" s_set_costs P_set_costs
  fault_places : FnAt K mg "fault_places" s_fault_places P_fault_places
  set_setting : FnAt K mg "set_setting" s_set_setting P_set_setting
  faults : FnAt K mg "faults" s_faults P_faults
  adopt : FnAt K mg "adopt" s_adopt P_adopt
  clean : FnAt K mg "clean" s_clean P_clean
  explained_place : FnAt K mg "explained_place" s_explained_place P_explained_place
  explained : FnAt K mg "explained" s_explained P_explained
  answer : FnAt K mg "answer" s_answer P_answer
  answers : FnAt K mg "answers" s_answers P_answers
  tCHANGE : Tok
  kCHANGE : mg "CHANGE" = some (.int 0 tCHANGE)
  tKEEP : Tok
  kKEEP : mg "KEEP" = some (.int 1 tKEEP)
  tMOVE : Tok
  kMOVE : mg "MOVE" = some (.int 2 tMOVE)
  tOPEN : Tok
  kOPEN : mg "OPEN" = some (.int 0 tOPEN)
  tDONE : Tok
  kDONE : mg "DONE" = some (.int 1 tDONE)
  tLOST : Tok
  kLOST : mg "LOST" = some (.int 2 tLOST)
  tWITHDRAWN : Tok
  kWITHDRAWN : mg "WITHDRAWN" = some (.int 3 tWITHDRAWN)
  tMOST_WORD : Tok
  kMOST_WORD : mg "MOST_WORD" = some (.int 99999 tMOST_WORD)
  tMOST_TEXT : Tok
  kMOST_TEXT : mg "MOST_TEXT" = some (.int 100 tMOST_TEXT)
  tMOST_SETTING : Tok
  kMOST_SETTING : mg "MOST_SETTING" = some (.int 120 tMOST_SETTING)
  tMOST_PUT : Tok
  kMOST_PUT : mg "MOST_PUT" = some (.int 20 tMOST_PUT)
  tMOST_READERS : Tok
  kMOST_READERS : mg "MOST_READERS" = some (.int 8 tMOST_READERS)
  tMOST_WEIGHT : Tok
  kMOST_WEIGHT : mg "MOST_WEIGHT" = some (.int 1000 tMOST_WEIGHT)
  tMOST_OPEN : Tok
  kMOST_OPEN : mg "MOST_OPEN" = some (.int 10 tMOST_OPEN)
  tMOST_MARKS : Tok
  kMOST_MARKS : mg "MOST_MARKS" = some (.int 60 tMOST_MARKS)
  tMOST_COST : Tok
  kMOST_COST : mg "MOST_COST" = some (.int 100 tMOST_COST)
  nValueError : mg "ValueError" = none
  nenumerate : mg "enumerate" = none
  nint : mg "int" = none
  nlen : mg "len" = none
  nlist : mg "list" = none
  nmax : mg "max" = none
  nmin : mg "min" = none
  nrange : mg "range" = none
  nreversed : mg "reversed" = none
  nset : mg "set" = none
  nsorted : mg "sorted" = none
  vV : PySem.W.findCls K (.type "ValueError") (.type "type") "__init__" = some (.val (.builtin "ValueError.__init__"))
  aWITH_ROW : Addr
  gWITH_ROW : mg "WITH_ROW" = some (.ref aWITH_ROW)
  aNUMBERS : Addr
  gNUMBERS : mg "NUMBERS" = some (.ref aNUMBERS)
  aDEEDS : Addr
  gDEEDS : mg "DEEDS" = some (.ref aDEEDS)
  hWITH_ROW : ∀ H, SqT K H aWITH_ROW ([0, 2, 12, 14].map V.int)
  hNUMBERS : ∀ H, SqT K H aNUMBERS ([0, 1, 3, 3, 4, 1, 0, 0, 0, 1, 1, 0, 0, 3, 0, 0, 2, 0, 0].map V.int)
  hDEEDS : ∀ H, SqT K H aDEEDS [.ref begins.f, .ref reader.f, .ref change.f, .ref keep.f, .ref move.f, .ref withdraw.f, .ref clashes.f, .ref carry.f, .ref shown.f, .ref who.f, .ref mark_told.f, .ref gone.f, .ref test.f, .ref set_costs.f, .ref set_setting.f, .ref faults.f, .ref adopt.f, .ref clean.f, .ref explained.f]
end Pf

end
section
set_option Elab.async false
set_option maxRecDepth 100000
/-! The defs' scopes; printed by gen.py. -/
namespace Pf
open PySem PySem.Spec PyProof.Rows L2
theorem sc_Word_init : FnScope N_Word_init P_Word_init (defScope s_Word_init) := ⟨rfl, rfl, rfl, by decide +kernel, rfl, by decide +kernel, by decide +kernel⟩
theorem sc_Mark_init : FnScope N_Mark_init P_Mark_init (defScope s_Mark_init) := ⟨rfl, rfl, rfl, by decide +kernel, rfl, by decide +kernel, by decide +kernel⟩
theorem sc_Choice_init : FnScope N_Choice_init P_Choice_init (defScope s_Choice_init) := ⟨rfl, rfl, rfl, by decide +kernel, rfl, by decide +kernel, by decide +kernel⟩
theorem sc_Carried_init : FnScope N_Carried_init P_Carried_init (defScope s_Carried_init) := ⟨rfl, rfl, rfl, by decide +kernel, rfl, by decide +kernel, by decide +kernel⟩
theorem sc_Costs_init : FnScope N_Costs_init P_Costs_init (defScope s_Costs_init) := ⟨rfl, rfl, rfl, by decide +kernel, rfl, by decide +kernel, by decide +kernel⟩
theorem sc_Place_init : FnScope N_Place_init P_Place_init (defScope s_Place_init) := ⟨rfl, rfl, rfl, by decide +kernel, rfl, by decide +kernel, by decide +kernel⟩
theorem sc_Slots_init : FnScope N_Slots_init P_Slots_init (defScope s_Slots_init) := ⟨rfl, rfl, rfl, by decide +kernel, rfl, by decide +kernel, by decide +kernel⟩
theorem sc_Refused_init : FnScope N_Refused_init P_Refused_init (defScope s_Refused_init) := ⟨rfl, rfl, rfl, by decide +kernel, rfl, by decide +kernel, by decide +kernel⟩
theorem sc_Holder_init : FnScope N_Holder_init P_Holder_init (defScope s_Holder_init) := ⟨rfl, rfl, rfl, by decide +kernel, rfl, by decide +kernel, by decide +kernel⟩
theorem sc_are_same : FnScope N_are_same P_are_same (defScope s_are_same) := ⟨rfl, rfl, rfl, by decide +kernel, rfl, by decide +kernel, by decide +kernel⟩
theorem sc_breaks_into : FnScope N_breaks_into P_breaks_into (defScope s_breaks_into) := ⟨rfl, rfl, rfl, by decide +kernel, rfl, by decide +kernel, by decide +kernel⟩
theorem sc_gainsay : FnScope N_gainsay P_gainsay (defScope s_gainsay) := ⟨rfl, rfl, rfl, by decide +kernel, rfl, by decide +kernel, by decide +kernel⟩
theorem sc_open_marks : FnScope N_open_marks P_open_marks (defScope s_open_marks) := ⟨rfl, rfl, rfl, by decide +kernel, rfl, by decide +kernel, by decide +kernel⟩
theorem sc_clashing : FnScope N_clashing P_clashing (defScope s_clashing) := ⟨rfl, rfl, rfl, by decide +kernel, rfl, by decide +kernel, by decide +kernel⟩
theorem sc_longer : FnScope N_longer P_longer (defScope s_longer) := ⟨rfl, rfl, rfl, by decide +kernel, rfl, by decide +kernel, by decide +kernel⟩
theorem sc_heaviest : FnScope N_heaviest P_heaviest (defScope s_heaviest) := ⟨rfl, rfl, rfl, by decide +kernel, rfl, by decide +kernel, by decide +kernel⟩
theorem sc_once : FnScope N_once P_once (defScope s_once) := ⟨rfl, rfl, rfl, by decide +kernel, rfl, by decide +kernel, by decide +kernel⟩
theorem sc_takers : FnScope N_takers P_takers (defScope s_takers) := ⟨rfl, rfl, rfl, by decide +kernel, rfl, by decide +kernel, by decide +kernel⟩
theorem sc_put_at : FnScope N_put_at P_put_at (defScope s_put_at) := ⟨rfl, rfl, rfl, by decide +kernel, rfl, by decide +kernel, by decide +kernel⟩
theorem sc_carried : FnScope N_carried P_carried (defScope s_carried) := ⟨rfl, rfl, rfl, by decide +kernel, rfl, by decide +kernel, by decide +kernel⟩
theorem sc_place_of : FnScope N_place_of P_place_of (defScope s_place_of) := ⟨rfl, rfl, rfl, by decide +kernel, rfl, by decide +kernel, by decide +kernel⟩
theorem sc_where_now : FnScope N_where_now P_where_now (defScope s_where_now) := ⟨rfl, rfl, rfl, by decide +kernel, rfl, by decide +kernel, by decide +kernel⟩
theorem sc_ask_anew : FnScope N_ask_anew P_ask_anew (defScope s_ask_anew) := ⟨rfl, rfl, rfl, by decide +kernel, rfl, by decide +kernel, by decide +kernel⟩
theorem sc_settle_marks : FnScope N_settle_marks P_settle_marks (defScope s_settle_marks) := ⟨rfl, rfl, rfl, by decide +kernel, rfl, by decide +kernel, by decide +kernel⟩
theorem sc_pair_cost : FnScope N_pair_cost P_pair_cost (defScope s_pair_cost) := ⟨rfl, rfl, rfl, by decide +kernel, rfl, by decide +kernel, by decide +kernel⟩
theorem sc_cheapest : FnScope N_cheapest P_cheapest (defScope s_cheapest) := ⟨rfl, rfl, rfl, by decide +kernel, rfl, by decide +kernel, by decide +kernel⟩
theorem sc_steps_of : FnScope N_steps_of P_steps_of (defScope s_steps_of) := ⟨rfl, rfl, rfl, by decide +kernel, rfl, by decide +kernel, by decide +kernel⟩
theorem sc_is_like : FnScope N_is_like P_is_like (defScope s_is_like) := ⟨rfl, rfl, rfl, by decide +kernel, rfl, by decide +kernel, by decide +kernel⟩
theorem sc_slots_of : FnScope N_slots_of P_slots_of (defScope s_slots_of) := ⟨rfl, rfl, rfl, by decide +kernel, rfl, by decide +kernel, by decide +kernel⟩
theorem sc_places_of : FnScope N_places_of P_places_of (defScope s_places_of) := ⟨rfl, rfl, rfl, by decide +kernel, rfl, by decide +kernel, by decide +kernel⟩
theorem sc_way_cost : FnScope N_way_cost P_way_cost (defScope s_way_cost) := ⟨rfl, rfl, rfl, by decide +kernel, rfl, by decide +kernel, by decide +kernel⟩
theorem sc_ask : FnScope N_ask P_ask (defScope s_ask) := ⟨rfl, rfl, rfl, by decide +kernel, rfl, by decide +kernel, by decide +kernel⟩
theorem sc_are_words : FnScope N_are_words P_are_words (defScope s_are_words) := ⟨rfl, rfl, rfl, by decide +kernel, rfl, by decide +kernel, by decide +kernel⟩
theorem sc_told : FnScope N_told P_told (defScope s_told) := ⟨rfl, rfl, rfl, by decide +kernel, rfl, by decide +kernel, by decide +kernel⟩
theorem sc_begins : FnScope N_begins P_begins (defScope s_begins) := ⟨rfl, rfl, rfl, by decide +kernel, rfl, by decide +kernel, by decide +kernel⟩
theorem sc_reader : FnScope N_reader P_reader (defScope s_reader) := ⟨rfl, rfl, rfl, by decide +kernel, rfl, by decide +kernel, by decide +kernel⟩
theorem sc_put_mark : FnScope N_put_mark P_put_mark (defScope s_put_mark) := ⟨rfl, rfl, rfl, by decide +kernel, rfl, by decide +kernel, by decide +kernel⟩
theorem sc_change : FnScope N_change P_change (defScope s_change) := ⟨rfl, rfl, rfl, by decide +kernel, rfl, by decide +kernel, by decide +kernel⟩
theorem sc_keep : FnScope N_keep P_keep (defScope s_keep) := ⟨rfl, rfl, rfl, by decide +kernel, rfl, by decide +kernel, by decide +kernel⟩
theorem sc_move : FnScope N_move P_move (defScope s_move) := ⟨rfl, rfl, rfl, by decide +kernel, rfl, by decide +kernel, by decide +kernel⟩
theorem sc_withdraw : FnScope N_withdraw P_withdraw (defScope s_withdraw) := ⟨rfl, rfl, rfl, by decide +kernel, rfl, by decide +kernel, by decide +kernel⟩
theorem sc_clashes : FnScope N_clashes P_clashes (defScope s_clashes) := ⟨rfl, rfl, rfl, by decide +kernel, rfl, by decide +kernel, by decide +kernel⟩
theorem sc_carry : FnScope N_carry P_carry (defScope s_carry) := ⟨rfl, rfl, rfl, by decide +kernel, rfl, by decide +kernel, by decide +kernel⟩
theorem sc_shown : FnScope N_shown P_shown (defScope s_shown) := ⟨rfl, rfl, rfl, by decide +kernel, rfl, by decide +kernel, by decide +kernel⟩
theorem sc_who : FnScope N_who P_who (defScope s_who) := ⟨rfl, rfl, rfl, by decide +kernel, rfl, by decide +kernel, by decide +kernel⟩
theorem sc_mark_told : FnScope N_mark_told P_mark_told (defScope s_mark_told) := ⟨rfl, rfl, rfl, by decide +kernel, rfl, by decide +kernel, by decide +kernel⟩
theorem sc_gone : FnScope N_gone P_gone (defScope s_gone) := ⟨rfl, rfl, rfl, by decide +kernel, rfl, by decide +kernel, by decide +kernel⟩
theorem sc_test : FnScope N_test P_test (defScope s_test) := ⟨rfl, rfl, rfl, by decide +kernel, rfl, by decide +kernel, by decide +kernel⟩
theorem sc_set_costs : FnScope N_set_costs P_set_costs (defScope s_set_costs) := ⟨rfl, rfl, rfl, by decide +kernel, rfl, by decide +kernel, by decide +kernel⟩
theorem sc_fault_places : FnScope N_fault_places P_fault_places (defScope s_fault_places) := ⟨rfl, rfl, rfl, by decide +kernel, rfl, by decide +kernel, by decide +kernel⟩
theorem sc_set_setting : FnScope N_set_setting P_set_setting (defScope s_set_setting) := ⟨rfl, rfl, rfl, by decide +kernel, rfl, by decide +kernel, by decide +kernel⟩
theorem sc_faults : FnScope N_faults P_faults (defScope s_faults) := ⟨rfl, rfl, rfl, by decide +kernel, rfl, by decide +kernel, by decide +kernel⟩
theorem sc_adopt : FnScope N_adopt P_adopt (defScope s_adopt) := ⟨rfl, rfl, rfl, by decide +kernel, rfl, by decide +kernel, by decide +kernel⟩
theorem sc_clean : FnScope N_clean P_clean (defScope s_clean) := ⟨rfl, rfl, rfl, by decide +kernel, rfl, by decide +kernel, by decide +kernel⟩
theorem sc_explained_place : FnScope N_explained_place P_explained_place (defScope s_explained_place) := ⟨rfl, rfl, rfl, by decide +kernel, rfl, by decide +kernel, by decide +kernel⟩
theorem sc_explained : FnScope N_explained P_explained (defScope s_explained) := ⟨rfl, rfl, rfl, by decide +kernel, rfl, by decide +kernel, by decide +kernel⟩
theorem sc_answer : FnScope N_answer P_answer (defScope s_answer) := ⟨rfl, rfl, rfl, by decide +kernel, rfl, by decide +kernel, by decide +kernel⟩
theorem sc_answers : FnScope N_answers P_answers (defScope s_answers) := ⟨rfl, rfl, rfl, by decide +kernel, rfl, by decide +kernel, by decide +kernel⟩
end Pf

end
section
set_option Elab.async false
set_option linter.all false
set_option maxRecDepth 100000
set_option maxHeartbeats 2000000
/-! The words of the walk: rows place by place, heaps without some addresses, instances by their fields, what an expression gives. -/
namespace Pf
open PySem PySem.Spec PyProof.Rows L2 Evl
/-! ### rows place by place -/
def Al2 {α β : Type} (R : α → β → Prop) (l : List α) (m : List β) : Prop := l.length = m.length ∧ ∀ (i : Nat) a b, l[i]? = some a → m[i]? = some b → R a b
section
variable {α β : Type} {R S : α → β → Prop} {l l' : List α} {m m' : List β} {a : α} {b : β} {i : Nat}
theorem Al2.nil : Al2 R [] [] := ⟨rfl, fun i a b h _ => by simp at h⟩
theorem Al2.mono (h : Al2 R l m) (f : ∀ a b, R a b → S a b) : Al2 S l m := ⟨h.1, fun i a b x y => f a b (h.2 i a b x y)⟩
theorem Al2.get (h : Al2 R l m) (e : m[i]? = some b) : ∃ a, l[i]? = some a ∧ R a b := by
  obtain ⟨hi, _⟩ := List.getElem?_eq_some_iff.mp e
  have hi' : i < l.length := by rw [h.1]; exact hi
  exact ⟨l[i], by simp [hi'], h.2 i _ b (by simp [hi']) e⟩
theorem Al2.getL (h : Al2 R l m) (e : l[i]? = some a) : ∃ b, m[i]? = some b ∧ R a b := by
  obtain ⟨hi, _⟩ := List.getElem?_eq_some_iff.mp e
  have hi' : i < m.length := by rw [← h.1]; exact hi
  exact ⟨m[i], by simp [hi'], h.2 i a _ e (by simp [hi'])⟩
theorem Al2.append (h : Al2 R l m) (k : Al2 R l' m') : Al2 R (l ++ l') (m ++ m') := by
  refine ⟨by rw [List.length_append, List.length_append, h.1, k.1], fun i a b x y => ?_⟩
  by_cases c : i < l.length
  · rw [List.getElem?_append_left c] at x
    rw [List.getElem?_append_left (by rw [← h.1]; exact c)] at y
    exact h.2 i a b x y
  · rw [List.getElem?_append_right (by omega)] at x
    rw [List.getElem?_append_right (by have := h.1; omega), ← h.1] at y
    exact k.2 _ a b x y
theorem Al2.one (h : R a b) : Al2 R [a] [b] := ⟨rfl, fun i x y hx hy => by
  cases i with
  | zero => simp at hx hy; rw [← hx, ← hy]; exact h
  | succ i => simp at hx⟩
theorem Al2.snoc (h : Al2 R l m) (r : R a b) : Al2 R (l ++ [a]) (m ++ [b]) := h.append (Al2.one r)
theorem Al2.take (n : Nat) (h : Al2 R l m) : Al2 R (l.take n) (m.take n) := by
  refine ⟨by rw [List.length_take, List.length_take, h.1], fun i a b x y => ?_⟩
  rw [List.getElem?_take] at x y
  split at x
  · rename_i c
    rw [if_pos c] at y
    exact h.2 i a b x y
  · cases x
theorem Al2.drop (n : Nat) (h : Al2 R l m) : Al2 R (l.drop n) (m.drop n) := by
  refine ⟨by rw [List.length_drop, List.length_drop, h.1], fun i a b x y => ?_⟩
  rw [List.getElem?_drop] at x y
  exact h.2 _ a b x y
theorem Al2.set (h : Al2 R l m) (r : R a b) (i : Nat) : Al2 R (l.set i a) (m.set i b) := by
  refine ⟨by rw [List.length_set, List.length_set, h.1], fun j x y hx hy => ?_⟩
  rw [List.getElem?_set] at hx hy
  by_cases c : i = j
  · rw [if_pos c] at hx hy
    split at hx
    · split at hy
      · cases hx; cases hy; exact r
      · cases hy
    · cases hx
  · rw [if_neg c] at hx hy
    exact h.2 j x y hx hy
end
theorem Al2.right {α β γ : Type} {R : α → β → Prop} {S : α → γ → Prop} {f : β → γ} {l : List α} {m : List β} (h : Al2 R l m) (k : ∀ a b, R a b → S a (f b)) : Al2 S l (m.map f) := by
  refine ⟨by rw [List.length_map]; exact h.1, fun i a c x y => ?_⟩
  rw [List.getElem?_map] at y
  cases e : m[i]? with
  | none => rw [e] at y; cases y
  | some b =>
    rw [e] at y
    have := Option.some.inj y
    subst this
    exact k a b (h.2 i a b x e)
/-! ### heaps without some addresses -/
def Off (F : List Addr) (H : Hp) : Hp := fun b => if b ∈ F then none else H b
theorem off_out {F : List Addr} {H : Hp} {b : Addr} (h : b ∉ F) : Off F H b = H b := if_neg h
theorem off_in {F : List Addr} {H : Hp} {b : Addr} (h : b ∈ F) : Off F H b = none := if_pos h
theorem off_some {F : List Addr} {H : Hp} {b : Addr} {o : HO} (h : Off F H b = some o) : b ∉ F ∧ H b = some o := by
  by_cases c : b ∈ F
  · rw [off_in c] at h; cases h
  · rw [off_out c] at h; exact ⟨c, h⟩
theorem off_le (F : List Addr) (H : Hp) : Ex (Off F H) H := fun b o h => (off_some h).2
theorem off_ex {F : List Addr} {H H' : Hp} (e : Ex H H') : Ex (Off F H) (Off F H') := fun b o h => by
  obtain ⟨c, q⟩ := off_some h
  rw [off_out c]
  exact e b o q
theorem off_upd {F : List Addr} {H : Hp} {a : Addr} {o : HO} (h : a ∈ F) : Off F (upd H a o) = Off F H := by
  funext b
  by_cases c : b ∈ F
  · rw [off_in c, off_in c]
  · rw [off_out c, off_out c, upd_ne (fun e => c (by rw [e]; exact h))]
/-- a heap that doesn't know some addresses lies in one without them -/
theorem off_of {F : List Addr} {H H' : Hp} (e : Ex H H') (h : ∀ a ∈ F, H a = none) : Ex H (Off F H') := fun b o q => by
  have c : b ∉ F := fun z => by rw [h b z] at q; cases q
  rw [off_out c]
  exact e b o q
theorem off_cons {F : List Addr} {H H' : Hp} {p : Addr} (e : Ex H H') (h : H p = none) : Ex (Off F H) (Off (p :: F) H') := fun b o q => by
  obtain ⟨c, q⟩ := off_some q
  have c2 : b ≠ p := fun z => by rw [z, h] at q; cases q
  rw [off_out (by simp [c, c2])]
  exact e b o q
theorem off_none {F : List Addr} {H : Hp} {p : Addr} (h : H p = none) : Off F H p = none := by
  by_cases c : p ∈ F
  · exact off_in c
  · rw [off_out c]; exact h
/-- what is new in H2 beside H -/
def New (H H2 : Hp) : Hp := fun b => match H b with
  | none => H2 b
  | some _ => none
theorem new_of {H H2 : Hp} {b : Addr} (h : H b = none) : New H H2 b = H2 b := by unfold New; rw [h]
theorem new_some {H H2 : Hp} {b : Addr} {o : HO} (h : New H H2 b = some o) : H b = none ∧ H2 b = some o := by
  unfold New at h
  cases e : H b with
  | none => rw [e] at h; exact ⟨rfl, h⟩
  | some u => rw [e] at h; cases h
theorem new_le (H H2 : Hp) : Ex (New H H2) H2 := fun b o h => (new_some h).2
theorem new_ex {H H2 H3 : Hp} (e : Ex H2 H3) : Ex (New H H2) (New H H3) := fun b o h => by
  obtain ⟨h1, h2⟩ := new_some h
  rw [new_of h1]
  exact e b o h2
theorem new_mono {H0 H H2 : Hp} (e : Ex H0 H) : Ex (New H H2) (New H0 H2) := fun b o h => by
  obtain ⟨h1, h2⟩ := new_some h
  rw [new_of (fresh_back e h1)]
  exact h2
theorem new_off {H H2 : Hp} {F : List Addr} (h : ∀ a ∈ F, ∃ o, H a = some o) : Ex (New H H2) (Off F H2) := fun b o q => by
  obtain ⟨h1, h2⟩ := new_some q
  have c : b ∉ F := fun z => by
    obtain ⟨u, hu⟩ := h b z
    rw [hu] at h1
    cases h1
  rw [off_out c]
  exact h2
theorem ex_none {H H' : Hp} {p : Addr} (e : Ex H H') (h : H' p = none) : H p = none := fresh_back e h
/-! ### instances by their fields -/
theorem zip_lookup : ∀ {nm : List Str} {vs : List V} {i : Nat} {f : Str} {v : V}, nm.Nodup → nm[i]? = some f → vs[i]? = some v → (nm.zip vs).lookup f = some v
  | [], vs, i, f, v, _, h, _ => by simp at h
  | n :: nm, [], i, f, v, _, _, h => by simp at h
  | n :: nm, x :: vs, 0, f, v, _, h, h2 => by
    have e : n = f := by simpa using h
    have e2 : x = v := by simpa using h2
    subst e e2
    simp [List.zip_cons_cons, List.lookup]
  | n :: nm, x :: vs, i + 1, f, v, nd, h, h2 => by
    have nd' := List.nodup_cons.mp nd
    have hf : nm[i]? = some f := by simpa using h
    have ne : (f == n) = false := by
      have : f ≠ n := fun e => nd'.1 (e ▸ List.mem_of_getElem? hf)
      simpa using this
    have ih := zip_lookup (nm := nm) (vs := vs) (i := i) nd'.2 hf (by simpa using h2)
    simp [List.zip_cons_cons, List.lookup, ne, ih]
theorem zip_put : ∀ {nm : List Str} {vs : List V} {i : Nat} {f : Str} {v : V}, nm.Nodup → nm[i]? = some f → vs.length = nm.length → putF f v (nm.zip vs) = nm.zip (vs.set i v)
  | [], vs, i, f, v, _, h, _ => by simp at h
  | n :: nm, [], i, f, v, _, _, h => by simp at h
  | n :: nm, x :: vs, 0, f, v, _, h, h2 => by
    have e : n = f := by simpa using h
    subst e
    simp [List.zip_cons_cons, putF]
  | n :: nm, x :: vs, i + 1, f, v, nd, h, h2 => by
    have nd' := List.nodup_cons.mp nd
    have hf : nm[i]? = some f := by simpa using h
    have ne : ¬ n = f := fun e => nd'.1 (e ▸ List.mem_of_getElem? hf)
    have ih := zip_put (nm := nm) (vs := vs) (i := i) (v := v) nd'.2 hf (by simpa using h2)
    simp [List.zip_cons_cons, putF, ne, ih]
theorem put_new : ∀ {fs : List (Str × V)} {f : Str} {v : V}, f ∉ fs.map (·.1) → putF f v fs = fs ++ [(f, v)]
  | [], f, v, _ => rfl
  | (g, x) :: fs, f, v, h => by
    have h' : ¬ f = g ∧ f ∉ fs.map (·.1) := by simpa using h
    have ih := put_new (fs := fs) (f := f) (v := v) h'.2
    have ne : ¬ g = f := fun e => h'.1 e.symm
    simp [putF, ne, ih]
def InsAt (H : Hp) (a C : Addr) (nm : List Str) (vs : List V) : Prop := vs.length = nm.length ∧ ∃ dx, H a = some (.ins C dx (nm.zip vs))
theorem InsAt.ex {H H' : Hp} {a C : Addr} {nm : List Str} {vs : List V} (h : InsAt H a C nm vs) (e : Ex H H') : InsAt H' a C nm vs := ⟨h.1, let ⟨dx, q⟩ := h.2; ⟨dx, e a _ q⟩⟩
/-! ### what an expression gives -/
/-- a new object -/
def EvR (te : TE) (σ : L2.St) (H : Hp) (P : Addr → Hp → Prop) : Prop := ∀ H1, Ex H H1 → ∀ Q : VK, (∀ p H2, H1 p = none → Ex H1 H2 → P p H2 → Q (.ref p) H2) → te σ H1 Q
/-- some value -/
def EvP (te : TE) (σ : L2.St) (H : Hp) (P : V → Hp → Prop) : Prop := ∀ H1, Ex H H1 → ∀ Q : VK, (∀ v H2, Ex H1 H2 → P v H2 → Q v H2) → te σ H1 Q
/-- arguments, some of them new objects -/
def EvAP (ta : TA) (σ : L2.St) (H : Hp) (P : List V → Hp → Prop) : Prop := ∀ H1, Ex H H1 → ∀ Q : List V → Hp → Prop, (∀ vs H2, Ex H1 H2 → P vs H2 → Q vs H2) → ta σ H1 Q
section
variable {K : PySem.W.Frag} {mg : Str → Option Value} {σ : L2.St} {H H' : Hp} {ta tb te tx : TE} {t u : TT} {x y z v : V} {r : R2} {P : Addr → Hp → Prop} {Pv : V → Hp → Prop} {D : Ends} {tu tz : TS}
theorem EvR.mono (e : Ex H H') (h : EvR te σ H P) : EvR te σ H' P := fun H1 a Q q => h H1 (e.trans a) Q q
theorem EvR.imp {P' : Addr → Hp → Prop} (h : EvR te σ H P) (f : ∀ p H2, Ex H H2 → P p H2 → P' p H2) : EvR te σ H P' := fun H1 a Q q => h H1 a Q fun p H2 hp e k => q p H2 hp e (f p H2 (a.trans e) k)
theorem EvR.fresh (h : EvR te σ H P) : EvR te σ H (fun p H2 => H p = none ∧ P p H2) := fun H1 a Q q => h H1 a Q fun p H2 hn e k => q p H2 hn e ⟨ex_none a hn, k⟩
theorem EvR.toP (h : EvR te σ H P) : EvP te σ H (fun v H2 => ∃ p, v = .ref p ∧ H p = none ∧ P p H2) := fun H1 a Q q => h H1 a Q fun p H2 hn e k => q _ H2 e ⟨p, rfl, ex_none a hn, k⟩
theorem evl_r {xs : List V} (h : EvL te σ H xs) : EvR te σ H (fun p H2 => H2 p = some (.lst xs)) := h
theorem evr_l {xs : List V} (h : EvR te σ H (fun p H2 => H2 p = some (.lst xs))) : EvL te σ H xs := h
theorem ev_p (h : Ev te σ H v) : EvP te σ H (fun w _ => w = v) := fun H1 a Q q => h H1 a Q fun H2 e => q v H2 e rfl
theorem EvA.toP {ta : TA} {vs : List V} (h : EvA ta σ H vs) : EvAP ta σ H (fun ws _ => ws = vs) := fun H1 a Q q => h H1 a Q fun H2 e => q vs H2 e rfl
theorem eap_nil : EvAP tNil σ H (fun ws _ => ws = []) := fun H1 _ _ q => q [] H1 (Ex.refl H1) rfl
/-- the first argument some value, the rest behind it -/
theorem eap_cons {tr : TA} {Pr : V → List V → Hp → Prop} (h : EvP te σ H Pv) (hr : ∀ v H1, Ex H H1 → Pv v H1 → EvAP tr σ H1 (Pr v)) : EvAP (tCons te tr) σ H (fun ws H2 => ∃ v r H1, ws = v :: r ∧ Ex H H1 ∧ Pv v H1 ∧ Ex H1 H2 ∧ Pr v r H2) := fun H1 e Q q =>
  h H1 e _ fun v H2 e2 pv => hr v H2 (e.trans e2) pv H2 (Ex.refl H2) _ fun r H3 e3 pr => q _ H3 (e2.trans e3) ⟨v, r, H2, rfl, e.trans e2, pv, e3, pr⟩
/-- a plain value ahead -/
theorem eap_v {tr : TA} {Pr : List V → Hp → Prop} (h : Ev te σ H v) (hr : EvAP tr σ H Pr) : EvAP (tCons te tr) σ H (fun ws H2 => ∃ r, ws = v :: r ∧ Pr r H2) := fun H1 e Q q =>
  h H1 e _ fun H2 e2 => hr H2 (e.trans e2) _ fun r H3 e3 pr => q _ H3 (e2.trans e3) ⟨r, rfl, pr⟩
theorem EvAP.imp {ta : TA} {P1 P2 : List V → Hp → Prop} (h : EvAP ta σ H P1) (f : ∀ vs H2, Ex H H2 → P1 vs H2 → P2 vs H2) : EvAP ta σ H P2 := fun H1 e Q q => h H1 e Q fun vs H2 e2 k => q vs H2 e2 (f vs H2 (e.trans e2) k)
/-- o.f -/
theorem ev_fl {q xq : Str} {st : Stmt} {ps fl : List Str} {a : Addr} {vs : List V} {f : Str} (c : ClAt K mg xq q st ps fl) (i : Nat) (ho : InsAt H a c.C fl vs) (ha : Ev ta σ H (.ref a)) (hv : vs[i]? = some v := by rfl)
    (hf : fl[i]? = some f := by rfl) (nd : fl.Nodup := by decide +kernel) : Ev (tFld K ta f) σ H v := fun H1 e Q k => ha H1 e _ fun H2 e2 => by
  obtain ⟨hl, dx, h⟩ := ho
  exact ⟨a, c.C, dx, _, v, rfl, e2 a _ (e a _ h), c.cl, c.no f (List.mem_of_getElem? hf), zip_lookup nd hf hv, k H2 e2⟩
/-- o.f = e, the object stands -/
theorem s_fl {q xq : Str} {st : Stmt} {ps fl : List Str} {a : Addr} {vs : List V} {f : Str} (c : ClAt K mg xq q st ps fl) (i : Nat) (ho : InsAt H a c.C fl vs) (ha : Ev ta σ H (.ref a)) (hy : Ev te σ H y)
    (k : ∀ H1 dx, Ex H H1 → H a = some (.ins c.C dx (fl.zip vs)) → InsAt (upd H1 a (.ins c.C dx (fl.zip (vs.set i y)))) a c.C fl (vs.set i y) → D.nx σ (upd H1 a (.ins c.C dx (fl.zip (vs.set i y)))))
    (hf : fl[i]? = some f := by rfl) (nd : fl.Nodup := by decide +kernel) (hz : fl.length < 1000 := by decide) : sFld K ta te f D σ H := by
  obtain ⟨hl, dx, h⟩ := ho
  refine hy H (Ex.refl H) _ fun H1 e1 => ha H1 e1 _ fun H2 e2 => ⟨a, c.C, dx, fl.zip vs, rfl, e2 a _ (e1 a _ h), c.cl, c.no f (List.mem_of_getElem? hf), ?_, ?_⟩
  · rw [List.length_zip]; omega
  · rw [zip_put nd hf hl]
    exact k H2 dx (e1.trans e2) h ⟨by rw [List.length_set]; exact hl, dx, upd_same⟩
/-- the same, the value a new object (or any) -/
theorem s_flP {q xq : Str} {st : Stmt} {ps fl : List Str} {a : Addr} {vs : List V} {f : Str} (c : ClAt K mg xq q st ps fl) (i : Nat) (ho : InsAt H a c.C fl vs) (ha : ∀ H1, Ex H H1 → Ev ta σ H1 (.ref a)) (hy : EvP te σ H Pv)
    (k : ∀ y H1 H2 dx, Ex H H1 → Pv y H1 → Ex H1 H2 → H a = some (.ins c.C dx (fl.zip vs)) → InsAt (upd H2 a (.ins c.C dx (fl.zip (vs.set i y)))) a c.C fl (vs.set i y) → D.nx σ (upd H2 a (.ins c.C dx (fl.zip (vs.set i y)))))
    (hf : fl[i]? = some f := by rfl) (nd : fl.Nodup := by decide +kernel) (hz : fl.length < 1000 := by decide) : sFld K ta te f D σ H := by
  obtain ⟨hl, dx, h⟩ := ho
  refine hy H (Ex.refl H) _ fun y H1 e1 py => ha H1 e1 H1 (Ex.refl H1) _ fun H2 e2 => ⟨a, c.C, dx, fl.zip vs, rfl, e2 a _ (e1 a _ h), c.cl, c.no f (List.mem_of_getElem? hf), ?_, ?_⟩
  · rw [List.length_zip]; omega
  · rw [zip_put nd hf hl]
    exact k y H1 H2 dx e1 py e2 h ⟨by rw [List.length_set]; exact hl, dx, upd_same⟩
theorem take_zip {fl : List Str} {vs : List V} {n : Nat} {f : Str} {y : V} (nd : fl.Nodup) (hf : fl[n]? = some f) (hn : vs.length = n) : putF f y ((fl.take n).zip vs) = (fl.take (n + 1)).zip (vs ++ [y]) := by
  have hlt : n < fl.length := (List.getElem?_eq_some_iff.mp hf).1
  have e : fl.take (n + 1) = fl.take n ++ [f] := by rw [List.take_add_one, hf]; rfl
  have hni : f ∉ ((fl.take n).zip vs).map (·.1) := fun h => by
    obtain ⟨⟨g, v⟩, hm, rfl⟩ := List.mem_map.mp h
    have hg : g ∈ fl.take n := (List.of_mem_zip hm).1
    obtain ⟨i, hi⟩ := List.mem_iff_getElem?.mp hg
    rw [List.getElem?_take] at hi
    split at hi
    · have := nd_ix nd hi hf
      omega
    · cases hi
  rw [put_new hni, e, List.zip_append (by rw [List.length_take]; omega)]
  rfl
/-- the stores of __init__: the next name -/
theorem s_new {q xq : Str} {st : Stmt} {ps fl : List Str} {a dx : Addr} {vs : List V} {f : Str} (n : Nat) (c : ClAt K mg xq q st ps fl) (ho : H a = some (.ins c.C dx ((fl.take n).zip vs))) (ha : ∀ H1, Ex H H1 → Ev ta σ H1 (.ref a)) (hy : EvP te σ H Pv)
    (k : ∀ y H1 H2, Ex H H1 → Pv y H1 → Ex H1 H2 → D.nx σ (upd H2 a (.ins c.C dx ((fl.take (n + 1)).zip (vs ++ [y]))))) (hn : vs.length = n := by rfl) (hf : fl[n]? = some f := by rfl) (nd : fl.Nodup := by decide +kernel) (hz : n < 1000 := by decide) : sFld K ta te f D σ H := by
  refine hy H (Ex.refl H) _ fun y H1 e1 py => ha H1 e1 H1 (Ex.refl H1) _ fun H2 e2 => ⟨a, c.C, dx, _, rfl, e2 a _ (e1 a _ ho), c.cl, c.no f (List.mem_of_getElem? hf), ?_, ?_⟩
  · rw [List.length_zip, List.length_take]; omega
  · rw [take_zip nd hf hn]
    exact k y H1 H2 e1 py e2
/-! ### promises -/
/-- a value, what stood stands -/
def spV (Pre : List V → V → Hp → Prop) : Sp := fun vs H Q _ => ∃ v, Pre vs v H ∧ ∀ H', Ex H H' → Q v H'
/-- a new object -/
def spR (Pre : List V → Hp → (Addr → Hp → Prop) → Prop) : Sp := fun vs H Q _ => ∃ P, Pre vs H P ∧ ∀ p H', H p = none → Ex H H' → P p H' → Q (.ref p) H'
/-- some value -/
def spP (Pre : List V → Hp → (V → Hp → Prop) → Prop) : Sp := fun vs H Q _ => ∃ P, Pre vs H P ∧ ∀ v H', Ex H H' → P v H' → Q v H'
/-- an __init__ -/
def spI (C : Addr) (n : Nat) (Post : Addr → List V → Hp → Prop) : Sp := fun vs H Q _ => ∃ p dx xs, vs = .ref p :: xs ∧ xs.length = n ∧ H p = some (.ins C dx []) ∧
  ∀ H', (∀ b o, H b = some o → b ≠ p → H' b = some o) → Post p xs H' → Q .non H'
theorem ev_callV {Pre : List V → V → Hp → Prop} {E : XK} {ta : TA} {vs : List V} (h : EvA ta σ H vs) (hs : ∀ H1, Ex H H1 → Pre vs v H1) : Ev (tCall (spV Pre) [] E ta) σ H v := fun H1 e Q q =>
  h H1 e _ fun H2 e2 => ⟨v, by rw [List.append_nil]; exact hs H2 (e.trans e2), fun H3 e3 => q H3 (e2.trans e3)⟩
theorem ev_callVP {Pre : List V → V → Hp → Prop} {E : XK} {ta : TA} {P1 : List V → Hp → Prop} (h : EvAP ta σ H P1) (hs : ∀ vs H1, Ex H H1 → P1 vs H1 → Pre vs v H1) : Ev (tCall (spV Pre) [] E ta) σ H v := fun H1 e Q q =>
  h H1 e _ fun vs H2 e2 p1 => ⟨v, by rw [List.append_nil]; exact hs vs H2 (e.trans e2) p1, fun H3 e3 => q H3 (e2.trans e3)⟩
theorem er_callR {Pre : List V → Hp → (Addr → Hp → Prop) → Prop} {E : XK} {ta : TA} {vs : List V} (h : EvA ta σ H vs) (hs : ∀ H1, Ex H H1 → Pre vs H1 P) : EvR (tCall (spR Pre) [] E ta) σ H P := fun H1 e Q q =>
  h H1 e _ fun H2 e2 => ⟨P, by rw [List.append_nil]; exact hs H2 (e.trans e2), fun p H3 hp e3 hP => q p H3 (ex_none e2 hp) (e2.trans e3) hP⟩
theorem er_callRP {Pre : List V → Hp → (Addr → Hp → Prop) → Prop} {E : XK} {ta : TA} {P1 : List V → Hp → Prop} (h : EvAP ta σ H P1) (hs : ∀ vs H1, Ex H H1 → P1 vs H1 → Pre vs H1 P) : EvR (tCall (spR Pre) [] E ta) σ H P := fun H1 e Q q =>
  h H1 e _ fun vs H2 e2 p1 => ⟨P, by rw [List.append_nil]; exact hs vs H2 (e.trans e2) p1, fun p H3 hp e3 hP => q p H3 (ex_none e2 hp) (e2.trans e3) hP⟩
theorem evp_callP {Pre : List V → Hp → (V → Hp → Prop) → Prop} {E : XK} {ta : TA} {vs : List V} (h : EvA ta σ H vs) (hs : ∀ H1, Ex H H1 → Pre vs H1 Pv) : EvP (tCall (spP Pre) [] E ta) σ H Pv := fun H1 e Q q =>
  h H1 e _ fun H2 e2 => ⟨Pv, by rw [List.append_nil]; exact hs H2 (e.trans e2), fun v H3 e3 hP => q v H3 (e2.trans e3) hP⟩
theorem er_make {C : Addr} {n : Nat} {Post : Addr → List V → Hp → Prop} {E : XK} {ta : TA} {P1 : List V → Hp → Prop} (h : EvAP ta σ H P1) (hn : ∀ vs H1, P1 vs H1 → vs.length = n) :
    EvR (tMake C (spI C n Post) [] E ta) σ H (fun p H2 => ∃ vs H1, P1 vs H1 ∧ Ex H1 H2 ∧ Post p vs H2) := fun H1 e Q q =>
  h H1 e _ fun vs H2 e2 p1 x dx hx hd hne => by
    refine ⟨x, dx, vs ++ [], rfl, by rw [List.append_nil]; exact hn vs H2 p1, upd_same, fun H3 keep post => ⟨rfl, ?_⟩⟩
    rw [List.append_nil] at post
    have s1 : Ex H2 H3 := Same.made hx hd keep
    exact q x H3 (ex_none e2 hx) (e2.trans s1) ⟨vs, H2, p1, s1, post⟩
theorem er_makeA {C : Addr} {n : Nat} {Post : Addr → List V → Hp → Prop} {E : XK} {ta : TA} {vs : List V} (h : EvA ta σ H vs) (hn : vs.length = n) :
    EvR (tMake C (spI C n Post) [] E ta) σ H (fun p H2 => Post p vs H2) := (er_make (EvA.toP h) (fun ws _ e => by rw [e]; exact hn)).imp fun p H2 _ ⟨ws, _, e, _, k⟩ => by rw [← e]; exact k
/-! ### statements -/
theorem s_asgR {i : Nat} (h : EvR te σ H P) (k : ∀ p H1, H p = none → Ex H H1 → P p H1 → D.nx (σ.set i (some (.ref p))) H1) : tAsg te (gName i) D σ H := h H (Ex.refl H) _ fun p H1 hp e h1 => k p H1 hp e h1
theorem q_asgR {i : Nat} (h : EvR te σ H P) (k : ∀ p H1, H p = none → Ex H H1 → P p H1 → tz D (σ.set i (some (.ref p))) H1) : tSeq (tAsg te (gName i)) tz D σ H := s_asgR (D := { D with nx := tz D }) h k
theorem s_asgP {i : Nat} (h : EvP te σ H Pv) (k : ∀ v H1, Ex H H1 → Pv v H1 → D.nx (σ.set i (some v)) H1) : tAsg te (gName i) D σ H := h H (Ex.refl H) _ fun v H1 e h1 => k v H1 e h1
theorem q_asgP {i : Nat} (h : EvP te σ H Pv) (k : ∀ v H1, Ex H H1 → Pv v H1 → tz D (σ.set i (some v)) H1) : tSeq (tAsg te (gName i)) tz D σ H := s_asgP (D := { D with nx := tz D }) h k
theorem s_retP (h : EvP te σ H Pv) (k : ∀ v H1, Ex H H1 → Pv v H1 → D.rt v H1) : tRet te D σ H := h H (Ex.refl H) _ fun v H1 e h1 => k v H1 e h1
theorem s_retR (h : EvR te σ H P) (k : ∀ p H1, H p = none → Ex H H1 → P p H1 → D.rt (.ref p) H1) : tRet te D σ H := h H (Ex.refl H) _ fun p H1 hp e h1 => k p H1 hp e h1
theorem q_fl {q xq : Str} {st : Stmt} {ps fl : List Str} {a : Addr} {vs : List V} {f : Str} (c : ClAt K mg xq q st ps fl) (i : Nat) (ho : InsAt H a c.C fl vs) (ha : Ev ta σ H (.ref a)) (hy : Ev te σ H y)
    (k : ∀ H1 dx, Ex H H1 → H a = some (.ins c.C dx (fl.zip vs)) → InsAt (upd H1 a (.ins c.C dx (fl.zip (vs.set i y)))) a c.C fl (vs.set i y) → tz D σ (upd H1 a (.ins c.C dx (fl.zip (vs.set i y)))))
    (hf : fl[i]? = some f := by rfl) (nd : fl.Nodup := by decide +kernel) (hz : fl.length < 1000 := by decide) : tSeq (sFld K ta te f) tz D σ H := s_fl (D := { D with nx := tz D }) c i ho ha hy k hf nd hz
theorem q_flP {q xq : Str} {st : Stmt} {ps fl : List Str} {a : Addr} {vs : List V} {f : Str} (c : ClAt K mg xq q st ps fl) (i : Nat) (ho : InsAt H a c.C fl vs) (ha : ∀ H1, Ex H H1 → Ev ta σ H1 (.ref a)) (hy : EvP te σ H Pv)
    (k : ∀ y H1 H2 dx, Ex H H1 → Pv y H1 → Ex H1 H2 → H a = some (.ins c.C dx (fl.zip vs)) → InsAt (upd H2 a (.ins c.C dx (fl.zip (vs.set i y)))) a c.C fl (vs.set i y) → tz D σ (upd H2 a (.ins c.C dx (fl.zip (vs.set i y)))))
    (hf : fl[i]? = some f := by rfl) (nd : fl.Nodup := by decide +kernel) (hz : fl.length < 1000 := by decide) : tSeq (sFld K ta te f) tz D σ H := s_flP (D := { D with nx := tz D }) c i ho ha hy k hf nd hz
theorem q_new {q xq : Str} {st : Stmt} {ps fl : List Str} {a dx : Addr} {vs : List V} {f : Str} (n : Nat) (c : ClAt K mg xq q st ps fl) (ho : H a = some (.ins c.C dx ((fl.take n).zip vs))) (ha : ∀ H1, Ex H H1 → Ev ta σ H1 (.ref a)) (hy : EvP te σ H Pv)
    (k : ∀ y H1 H2, Ex H H1 → Pv y H1 → Ex H1 H2 → tz D σ (upd H2 a (.ins c.C dx ((fl.take (n + 1)).zip (vs ++ [y]))))) (hn : vs.length = n := by rfl) (hf : fl[n]? = some f := by rfl) (nd : fl.Nodup := by decide +kernel) (hz : n < 1000 := by decide) : tSeq (sFld K ta te f) tz D σ H :=
  s_new (D := { D with nx := tz D }) n c ho ha hy k hn hf nd hz
end
end Pf

end
section
set_option Elab.async false
set_option linter.all false
set_option maxRecDepth 100000
set_option maxHeartbeats 2000000
/-! Rows of numbers compared, loops over enumerate, comprehensions that make objects; how words and marks lie in the heap. -/
namespace Pf
open PySem PySem.Spec PyProof.Rows L2 Evl
def nl (l : List Nat) : List V := l.map fun (n : Nat) => V.int (n : Int)
theorem nl_len (l : List Nat) : (nl l).length = l.length := by simp [nl]
theorem nl_app (l m : List Nat) : nl (l ++ m) = nl l ++ nl m := by simp [nl]
theorem nl_at {l : List Nat} {i n : Nat} (h : l[i]? = some n) : (nl l)[i]? = some (V.int (n : Int)) := by simp [nl, h]
theorem nl_inj : ∀ {l m : List Nat}, nl l = nl m → l = m
  | [], [], _ => rfl
  | [], _ :: _, h => by simp [nl] at h
  | _ :: _, [], h => by simp [nl] at h
  | a :: l, b :: m, h => by
    simp only [nl, List.map_cons, List.cons.injEq, V.int.injEq] at h
    have h2 := nl_inj (l := l) (m := m) h.2
    have h1 : a = b := by omega
    rw [h1, h2]
theorem nl_int (l : List Nat) : nl l = (l.map fun (n : Nat) => (n : Int)).map V.int := by simp [nl]
/-! ### == of rows of numbers -/
theorem eqv_ints : ∀ xs ys : List Int, PyData.eqvAll (xs.map .int) (ys.map .int) = decide (xs = ys)
  | [], [] => rfl
  | [], _ :: _ => by simp [PyData.eqvAll]
  | _ :: _, [] => by simp [PyData.eqvAll]
  | a :: xs, b :: ys => by
    have ih := eqv_ints xs ys
    simp only [List.map_cons, PyData.eqvAll, PyData.eqv, ih]
    by_cases h : a = b
    · by_cases h2 : xs = ys <;> simp [h, h2]
    · simp [h]
theorem lay_ints : ∀ xs : List Int, PyData.canLayAll0 (xs.map .int) = true
  | [] => rfl
  | a :: xs => by simp [PyData.canLayAll0, PyData.canLay0, lay_ints xs]
theorem deep_ints : ∀ xs : List Int, PyData.depthAll (xs.map .int) = 0
  | [] => rfl
  | a :: xs => by simp [PyData.depthAll, PyData.depth, deep_ints xs]
theorem shaped_list (xs : List Int) : SeqAt.shaped (.list (xs.map .int)) = true := by
  simp [SeqAt.shaped, PyData.canLay0, lay_ints, PyData.depth, deep_ints]
theorem shaped_tuple (xs : List Int) : SeqAt.shaped (.tuple (xs.map .int)) = true := by
  simp [SeqAt.shaped, PyData.canLay0, lay_ints, PyData.depth, deep_ints]
theorem dp_ints {K : PySem.W.Frag} {H : Hp} : ∀ xs : List Int, DpAll K H (xs.map V.int) (xs.map .int)
  | [] => .nil
  | a :: xs => .cons (.int a) (dp_ints xs)
section
variable {K : PySem.W.Frag} {H : Hp} {p q : Addr} {xs ys : List Int}
theorem rv_eqL (h1 : SqL K H p (xs.map V.int)) (h2 : SqL K H q (ys.map V.int)) : RV (rEqD K) (.ref p) (.ref q) H (.bl (decide (xs = ys))) := fun H1 e Q k =>
  ⟨_, _, .lst (ex_l e h1) (dp_ints xs), .lst (ex_l e h2) (dp_ints ys), shaped_list xs, shaped_list ys, by
    show Q (.bl (PyData.eqvAll (xs.map .int) (ys.map .int))) H1
    rw [eqv_ints]
    exact k H1 (Ex.refl H1)⟩
theorem rv_neL (h1 : SqL K H p (xs.map V.int)) (h2 : SqL K H q (ys.map V.int)) : RV (rNeD K) (.ref p) (.ref q) H (.bl (!decide (xs = ys))) := fun H1 e Q k =>
  ⟨_, _, .lst (ex_l e h1) (dp_ints xs), .lst (ex_l e h2) (dp_ints ys), shaped_list xs, shaped_list ys, by
    show Q (.bl (!PyData.eqvAll (xs.map .int) (ys.map .int))) H1
    rw [eqv_ints]
    exact k H1 (Ex.refl H1)⟩
theorem rv_eqT (h1 : SqT K H p (xs.map V.int)) (h2 : SqT K H q (ys.map V.int)) : RV (rEqD K) (.ref p) (.ref q) H (.bl (decide (xs = ys))) := fun H1 e Q k =>
  ⟨_, _, .tup (ex_t e h1) (dp_ints xs), .tup (ex_t e h2) (dp_ints ys), shaped_tuple xs, shaped_tuple ys, by
    show Q (.bl (PyData.eqvAll (xs.map .int) (ys.map .int))) H1
    rw [eqv_ints]
    exact k H1 (Ex.refl H1)⟩
theorem nl_eq (l m : List Nat) : decide ((l.map fun (n : Nat) => (n : Int)) = m.map fun (n : Nat) => (n : Int)) = decide (l = m) := by
  rw [Bool.eq_iff_iff, decide_eq_true_eq, decide_eq_true_eq]
  constructor
  · intro h
    refine nl_inj ?_
    rw [nl_int, nl_int, h]
  · intro h
    rw [h]
theorem rv_eqN {l m : List Nat} (h1 : SqL K H p (nl l)) (h2 : SqL K H q (nl m)) : RV (rEqD K) (.ref p) (.ref q) H (.bl (decide (l = m))) := by
  rw [nl_int] at h1 h2
  have := rv_eqL h1 h2
  rw [nl_eq] at this
  exact this
theorem rv_neN {l m : List Nat} (h1 : SqL K H p (nl l)) (h2 : SqL K H q (nl m)) : RV (rNeD K) (.ref p) (.ref q) H (.bl (!decide (l = m))) := by
  rw [nl_int] at h1 h2
  have := rv_neL h1 h2
  rw [nl_eq] at this
  exact this
theorem sq_l {K : PySem.W.Frag} {H : Hp} {a : Addr} {xs : List V} (h : H a = some (.lst xs)) : SqL K H a xs := sq_of h
theorem nl_nil : nl [] = [] := rfl
end
/-! ### ints -/
section
variable {K : PySem.W.Frag} {σ : L2.St} {H : Hp} {ta tb tc : TE} {i j k : Int} {a b : Bool} {t u : TT}
theorem ev_chain {r r' : R2} {x y z : V} (ha : Ev ta σ H x) (hb : Ev tb σ H y) (hr : RV r x y H (.bl a)) (hc : a = true → Ev tc σ H z) (hr' : a = true → RV r' y z H (.bl b)) :
    Ev (tChain r r' ta tb tc) σ H (.bl (a && b)) := fun H1 e Q q =>
  ha H1 e _ fun H2 e2 => hb H2 (e.trans e2) _ fun H3 e3 => hr H3 ((e.trans e2).trans e3) _ fun H4 e4 => ⟨a, rfl, by
    cases a with
    | true =>
      show tc σ H4 fun w' H5 => r' y w' H5 Q
      exact hc rfl H4 (((e.trans e2).trans e3).trans e4) _ fun H5 e5 => hr' rfl H5 ((((e.trans e2).trans e3).trans e4).trans e5) Q fun H6 e6 => q H6 ((((e2.trans e3).trans e4).trans e5).trans e6)
    | false =>
      show Q (.bl false) H4
      exact q H4 ((e2.trans e3).trans e4)⟩
theorem et_is' {c d : Bool} (h : EvT t σ H c) (e : c = d) : EvT t σ H d := e ▸ h
end
/-! ### for i, x in enumerate(xs) -/
abbrev g2 (K : PySem.W.Frag) (i j : Nat) : TG := gTup K 2 (gCons (gName i) (gCons (gName j) gNil))
section
variable {K : PySem.W.Frag} {σ : L2.St} {H : Hp} {te : TE} {t : TT} {D : Ends} {tu tz : TS}
theorem g2_of {T : Addr} {x y : V} {i j : Nat} {Q : L2.St → Hp → Prop} (h : SqT K H T [x, y]) (q : Q ((σ.set i (some x)).set j (some y)) H) : g2 K i j (.ref T) σ H Q := ⟨T, [x, y], rfl, h, rfl, x, [y], rfl, y, [], rfl, rfl, q⟩
theorem s_forE {ta : TA} {a : Addr} {xs : List V} {j1 j2 : Nat} (h : EvA ta σ H [.ref a]) (hx : SqL K H a xs) (Pv : Nat → L2.St → Hp → Prop) (h0 : ∀ H1, Ex H H1 → Pv 0 σ H1) (hl : ∀ i σ' H', i ≤ xs.length → Pv i σ' H' → SqL K H' a xs)
    (hs : ∀ i x σ' H', xs[i]? = some x → Pv i σ' H' → ∀ H2, Ex H' H2 → tu { D with nx := Pv (i + 1), ct := Pv (i + 1), bk := D.nx } ((σ'.set j1 (some (.int (i : Int)))).set j2 (some x)) H2) (hd : ∀ σ' H', Pv xs.length σ' H' → D.nx σ' H') :
    tFor (iEnum K ta) (g2 K j1 j2) tu D σ H :=
  h H (Ex.refl H) _ fun H1 e => ⟨a, xs, rfl, ex_l e hx, for_it walk_enum Pv (h0 H1 e) hl (fun i v σ' H' H2 hi p y => by
    obtain ⟨T, x, z, rfl, hT, rfl, e1, e2⟩ := y
    have e1' : x = .int (i : Int) := (Option.some.inj e1).symm
    subst e1'
    exact g2_of (st_of upd_same) (hs i z σ' H' e2 p _ (Ex.new hT))) hd⟩
theorem q_forE {ta : TA} {a : Addr} {xs : List V} {j1 j2 : Nat} (h : EvA ta σ H [.ref a]) (hx : SqL K H a xs) (Pv : Nat → L2.St → Hp → Prop) (h0 : ∀ H1, Ex H H1 → Pv 0 σ H1) (hl : ∀ i σ' H', i ≤ xs.length → Pv i σ' H' → SqL K H' a xs)
    (hs : ∀ i x σ' H', xs[i]? = some x → Pv i σ' H' → ∀ H2, Ex H' H2 → tu { D with nx := Pv (i + 1), ct := Pv (i + 1), bk := tz D } ((σ'.set j1 (some (.int (i : Int)))).set j2 (some x)) H2) (hd : ∀ σ' H', Pv xs.length σ' H' → tz D σ' H') :
    tSeq (tFor (iEnum K ta) (g2 K j1 j2) tu) tz D σ H := s_forE (D := { D with nx := tz D }) h hx Pv h0 hl hs hd
theorem s_forNLn {xs : List V} {tl : TE} {j : Nat} (h : EvL tl σ H xs) (Pv : Addr → Nat → L2.St → Hp → Prop) (h0 : ∀ p H1, H p = none → Ex H H1 → H1 p = some (.lst xs) → Pv p 0 σ H1) (hl : ∀ p i σ' H', i ≤ xs.length → Pv p i σ' H' → SqL K H' p xs)
    (hs : ∀ p i x σ' H', xs[i]? = some x → Pv p i σ' H' → tu { D with nx := Pv p (i + 1), ct := Pv p (i + 1), bk := D.nx } (σ'.set j (some x)) H') (hd : ∀ p σ' H', Pv p xs.length σ' H' → D.nx σ' H') : tFor (iList K tl) (gName j) tu D σ H := s_forNL h Pv h0 hl hs hd
/-- over a list of tuples: for x, y in xs -/
theorem s_forT2 {tl : TE} {a : Addr} {xs : List V} {j1 j2 : Nat} (h : Ev tl σ H (.ref a)) (hx : SqL K H a xs) (Pv : Nat → L2.St → Hp → Prop) (h0 : ∀ H1, Ex H H1 → Pv 0 σ H1) (hl : ∀ i σ' H', i ≤ xs.length → Pv i σ' H' → SqL K H' a xs)
    (hs : ∀ i v σ' H', xs[i]? = some v → Pv i σ' H' → ∃ T x y, v = .ref T ∧ SqT K H' T [x, y] ∧ tu { D with nx := Pv (i + 1), ct := Pv (i + 1), bk := D.nx } ((σ'.set j1 (some x)).set j2 (some y)) H') (hd : ∀ σ' H', Pv xs.length σ' H' → D.nx σ' H') :
    tFor (iList K tl) (g2 K j1 j2) tu D σ H := s_forL h hx Pv h0 hl (fun i v σ' H' hi p => by
    obtain ⟨T, x, y, rfl, hT, k⟩ := hs i v σ' H' hi p
    exact g2_of hT k) hd
/-- [e for i, x in enumerate(xs) if t], values -/
theorem el_lcE {ta : TA} {a : Addr} {xs : List V} {j1 j2 : Nat} {vs : List Nat} (f : Nat → Bool) (v : Nat → V) (h : EvA ta σ H [.ref a]) (hx : SqL K H a xs) (hz : xs.length ≤ 40000) (hw : ∀ x y, wipe (((wipe σ vs).set j1 (some x)).set j2 (some y)) vs = wipe σ vs)
    (ht : ∀ (i : Nat) (x : V) H1, Ex H H1 → xs[i]? = some x → EvT t (((wipe σ vs).set j1 (some (.int (i : Int)))).set j2 (some x)) H1 (f i))
    (he : ∀ (i : Nat) (x : V) H1, Ex H H1 → xs[i]? = some x → f i = true → Ev te (((wipe σ vs).set j1 (some (.int (i : Int)))).set j2 (some x)) H1 (v i)) :
    EvL (tLc (iEnum K ta) (g2 K j1 j2) t te vs) σ H (given xs.length f v) := fun H0 e Q q => h H0 e _ fun H1 e1 => ⟨a, xs, rfl, ex_l (e.trans e1) hx, fun Dl hD =>
  lc_it walk_enum (Cw H1 f v Dl) ⟨hD, Ex.new hD, upd_same⟩ (fun i H' _ p => ex_l ((e.trans e1).trans p.2.1) hx) (fun i w H' H2 hi p y => by
    obtain ⟨T, x, z, rfl, hT, rfl, q1, q2⟩ := y
    have q1' : x = .int (i : Int) := (Option.some.inj q1).symm
    subst q1'
    have hn : Dl ≠ T := ne_of_none p.2.2 hT
    have p' : Cw H1 f v Dl i (upd H' T (.tup [.int (i : Int), z])) := ⟨p.1, p.2.1.trans (Ex.new hT), (Ex.new hT) _ _ p.2.2⟩
    refine g2_of (st_of upd_same) ⟨hw _ _, cw_turn p' (by omega) (ht i z H1 (e.trans e1) q2) (fun hf => he i z H1 (e.trans e1) q2 hf)⟩)
    (fun H' p => q Dl H' (fresh_back e1 p.1) (e1.trans p.2.1) p.2.2)⟩
/-- [C(..) for i, x in enumerate(xs)], new objects -/
theorem er_lcE {ta : TA} {a : Addr} {xs : List V} {j1 j2 : Nat} {vs : List Nat} (P : Nat → Addr → Hp → Prop) (hP : ∀ i p H H', Ex H H' → P i p H → P i p H') (hO : ∀ i p D l H, H D = some (.lst l) → P i p H → P i p (Off [D] H))
    (h : EvA ta σ H [.ref a]) (hx : SqL K H a xs) (hz : xs.length ≤ 40000) (hw : ∀ x y, wipe (((wipe σ vs).set j1 (some x)).set j2 (some y)) vs = wipe σ vs)
    (he : ∀ (i : Nat) (x : V) H1, Ex H H1 → xs[i]? = some x → EvR te (((wipe σ vs).set j1 (some (.int (i : Int)))).set j2 (some x)) H1 (P i)) :
    EvR (tLc (iEnum K ta) (g2 K j1 j2) tYes te vs) σ H (fun p H2 => ∃ as : List Addr, H2 p = some (.lst (as.map V.ref)) ∧ as.length = xs.length ∧ ∀ i a, as[i]? = some a → P i a H2) := fun H0 e Q q => h H0 e _ fun H1 e1 => ⟨a, xs, rfl, ex_l (e.trans e1) hx, fun Dl hD =>
  lc_it walk_enum (fun i H' => Ex H1 (Off [Dl] H') ∧ ∃ as : List Addr, H' Dl = some (.lst (as.map V.ref)) ∧ as.length = i ∧ ∀ j a, as[j]? = some a → P j a (Off [Dl] H'))
    ⟨off_of (Ex.new hD) (by simp [hD]), [], upd_same, rfl, fun j a z => by simp at z⟩ (fun i H' _ p => ex_l ((e.trans e1).trans (p.1.trans (off_le _ _))) hx) (fun i w H' H2 hi p y => by
    obtain ⟨T, x, z, rfl, hT, rfl, q1, q2⟩ := y
    have q1' : x = .int (i : Int) := (Option.some.inj q1).symm
    subst q1'
    obtain ⟨p1, as, p2, p3, p4⟩ := p
    have eT : Ex H' (upd H' T (.tup [.int (i : Int), z])) := Ex.new hT
    refine g2_of (st_of upd_same) ⟨hw _ _, ?_⟩
    show te _ _ _
    refine he i z _ (((e.trans e1).trans (p1.trans (off_le _ _))).trans eT) q2 _ (Ex.refl _) _ fun n H4 hn e4 pn => ?_
    have d4 : H4 Dl = some (.lst (as.map V.ref)) := e4 _ _ (eT _ _ p2)
    refine ⟨as.map V.ref, d4, by rw [List.length_map, p3]; exact sz_lt (by omega), ?_⟩
    have eo : Off [Dl] (upd H4 Dl (.lst (as.map V.ref ++ [V.ref n]))) = Off [Dl] H4 := off_upd (by simp)
    rw [eo]
    refine ⟨p1.trans (off_ex (eT.trans e4)), as ++ [n], by rw [upd_same, List.map_append]; rfl, by rw [List.length_append, p3]; rfl, fun j b hb => ?_⟩
    by_cases c : j < as.length
    · rw [List.getElem?_append_left c] at hb
      exact hP j b _ _ (off_ex (eT.trans e4)) (p4 j b hb)
    · rw [List.getElem?_append_right (by omega)] at hb
      have hj : j = i := by
        have := (List.getElem?_eq_some_iff.mp hb).1
        simp at this
        omega
      subst hj
      have : b = n := by
        rw [p3] at hb
        simp at hb
        exact hb.symm
      subst this
      exact hO j b Dl _ H4 d4 pn)
    (fun H' p => by
      obtain ⟨p1, as, p2, p3, p4⟩ := p
      exact q Dl H' (fresh_back e1 hD) (e1.trans (p1.trans (off_le _ _))) ⟨as, p2, p3, fun i b hb => hP i b _ _ (off_le _ _) (p4 i b hb)⟩)⟩
end
/-! ### rows, new or old; + and extend -/
def ELst (te : TE) (σ : L2.St) (H : Hp) (xs : List V) : Prop := ∀ H1, Ex H H1 → ∀ Q : VK, (∀ p H2, Ex H1 H2 → H2 p = some (.lst xs) → Q (.ref p) H2) → te σ H1 Q
section
variable {K : PySem.W.Frag} {σ : L2.St} {H H' : Hp} {te ta tb : TE} {D : Ends} {tz : TS} {xs ys : List V} {P : Addr → Hp → Prop}
theorem els_l (h : EvL te σ H xs) : ELst te σ H xs := fun H1 e Q q => h H1 e Q fun p H2 _ e2 hp => q p H2 e2 hp
theorem els_v {p : Addr} (h : Ev te σ H (.ref p)) (hp : H p = some (.lst xs)) : ELst te σ H xs := fun H1 e Q q => h H1 e Q fun H2 e2 => q p H2 e2 (e2 _ _ (e _ _ hp))
theorem ELst.mono (e : Ex H H') (h : ELst te σ H xs) : ELst te σ H' xs := fun H1 a Q q => h H1 (e.trans a) Q q
theorem el_cat (ha : ELst ta σ H xs) (hb : ELst tb σ H ys) (hz : xs.length + ys.length ≤ 1000000) : EvL (tOp rCat ta tb) σ H (xs ++ ys) := fun H1 e Q q =>
  ha H1 e _ fun p H2 e2 hp => hb H2 (e.trans e2) _ fun r H3 e3 hr => ⟨p, r, xs, ys, rfl, rfl, e3 _ _ hp, hr, Nat.le_trans hz (by decide), fun l hl => q l _ (ex_none (e2.trans e3) hl) ((e2.trans e3).trans (Ex.new hl)) upd_same⟩
/-- a display with new objects in it -/
theorem er_lstP {ta : TA} {P1 : List V → Hp → Prop} (h : EvAP ta σ H P1) (hn : ∀ vs H1, P1 vs H1 → vs.length ≤ 100000) : EvR (tLst ta) σ H (fun p H2 => ∃ vs H1, P1 vs H1 ∧ Ex H H1 ∧ H1 p = none ∧ Ex H1 H2 ∧ H2 p = some (.lst vs)) := fun H1 e Q q =>
  h H1 e _ fun vs H2 e2 p1 => ⟨sz_of (hn vs H2 p1), fun p hp => q p _ (ex_none e2 hp) (e2.trans (Ex.new hp)) ⟨vs, H2, p1, e.trans e2, hp, Ex.new hp, upd_same⟩⟩
theorem er_tupP {ta : TA} {P1 : List V → Hp → Prop} (h : EvAP ta σ H P1) (hn : ∀ vs H1, P1 vs H1 → vs.length ≤ 100000) : EvR (tTup ta) σ H (fun p H2 => ∃ vs H1, P1 vs H1 ∧ Ex H H1 ∧ H1 p = none ∧ Ex H1 H2 ∧ H2 p = some (.tup vs)) := fun H1 e Q q =>
  h H1 e _ fun vs H2 e2 p1 => ⟨sz_of (hn vs H2 p1), fun p hp => q p _ (ex_none e2 hp) (e2.trans (Ex.new hp)) ⟨vs, H2, p1, e.trans e2, hp, Ex.new hp, upd_same⟩⟩
/-- xs.extend(e) -/
theorem s_ext {l : Addr} (hl : H l = some (.lst xs)) (ha : Ev ta σ H (.ref l)) (h : EvR te σ H P) (k : ∀ p H1, H p = none → Ex H H1 → P p H1 → ∃ ys, H1 p = some (.lst ys) ∧ xs.length + ys.length ≤ 1000000 ∧ D.nx σ (upd H1 l (.lst (xs ++ ys)))) :
    tDrop (tBM K "list" rExtend ta (tCons te tNil)) D σ H := ha H (Ex.refl H) _ fun H1 e1 =>
  ⟨Or.inl ⟨rfl, xs, sq_of (e1 l _ hl)⟩, h H1 e1 _ fun p H2 hp e2 pp => by
    obtain ⟨ys, h1, h2, h3⟩ := k p H2 (ex_none e1 hp) (e1.trans e2) pp
    exact ⟨l, p, xs, ys, rfl, rfl, e2 l _ (e1 l _ hl), h1, Nat.le_trans h2 (by decide), h3⟩⟩
theorem q_ext {l : Addr} (hl : H l = some (.lst xs)) (ha : Ev ta σ H (.ref l)) (h : EvR te σ H P) (k : ∀ p H1, H p = none → Ex H H1 → P p H1 → ∃ ys, H1 p = some (.lst ys) ∧ xs.length + ys.length ≤ 1000000 ∧ tz D σ (upd H1 l (.lst (xs ++ ys)))) :
    tSeq (tDrop (tBM K "list" rExtend ta (tCons te tNil))) tz D σ H := s_ext (D := { D with nx := tz D }) hl ha h k
/-- xs.append(e), any value -/
theorem s_appP {Pv : V → Hp → Prop} {l : Addr} (hl : H l = some (.lst xs)) (ha : Ev ta σ H (.ref l)) (h : EvP te σ H Pv) (hz : xs.length < 100000) (k : ∀ v H1, Ex H H1 → Pv v H1 → D.nx σ (upd H1 l (.lst (xs ++ [v])))) :
    tDrop (tBM K "list" rAppend ta (tCons te tNil)) D σ H := ha H (Ex.refl H) _ fun H1 e1 =>
  ⟨Or.inl ⟨rfl, xs, sq_of (e1 l _ hl)⟩, h H1 e1 _ fun v H2 e2 pv => ⟨l, xs, v, rfl, rfl, e2 l _ (e1 l _ hl), sz_lt hz, k v H2 (e1.trans e2) pv⟩⟩
theorem q_appP {Pv : V → Hp → Prop} {l : Addr} (hl : H l = some (.lst xs)) (ha : Ev ta σ H (.ref l)) (h : EvP te σ H Pv) (hz : xs.length < 100000) (k : ∀ v H1, Ex H H1 → Pv v H1 → tz D σ (upd H1 l (.lst (xs ++ [v])))) :
    tSeq (tDrop (tBM K "list" rAppend ta (tCons te tNil))) tz D σ H := s_appP (D := { D with nx := tz D }) hl ha h hz k
end
/-! ### dicts by numbers -/
section
variable {K : PySem.W.Frag} {σ : L2.St} {H H' : Hp} {td ty tv : TE} {D : Ends} {tz : TS} {kvs : List (Key × V)} {d : Addr} {n : Int} {v : V}
theorem ev_dg (h1 : Ev td σ H (.ref d)) (h2 : Ev ty σ H (.int n)) (hd : H d = some (.dK kvs)) (hv : valV kvs (.inl n) = some v) : Ev (tDGet td ty) σ H v := fun H1 e Q q =>
  h1 H1 e _ fun H2 e2 => h2 H2 (e.trans e2) _ fun H3 e3 => ⟨d, v, rfl, by
    have := DGet.k (k := Sum.inl n) (((e.trans e2).trans e3) _ _ hd)
    rw [hv] at this
    exact this, q H3 (e2.trans e3)⟩
theorem et_dni (h1 : Ev ty σ H (.int n)) (h2 : Ev td σ H (.ref d)) (hd : H d = some (.dK kvs)) : EvT (tB (tDNotIn ty td)) σ H (!(valV kvs (.inl n)).isSome) := fun H1 e Q q =>
  h1 H1 e _ fun H2 e2 => h2 H2 (e.trans e2) _ fun H3 e3 => ⟨d, _, rfl, DGet.k (k := Sum.inl n) (((e.trans e2).trans e3) _ _ hd), _, rfl, q H3 (e2.trans e3)⟩
theorem s_dput (hv : Ev tv σ H v) (h1 : Ev td σ H (.ref d)) (h2 : Ev ty σ H (.int n)) (hd : H d = some (.dK kvs)) (hz : kvs.length < 100000) (k : ∀ H1, Ex H H1 → D.nx σ (upd H1 d (.dK (putK kvs (.inl n) v)))) : sDPut td ty tv D σ H :=
  hv H (Ex.refl H) _ fun H1 e1 => h1 H1 e1 _ fun H2 e2 => h2 H2 (e1.trans e2) _ fun H3 e3 => ⟨d, _, rfl, DPut.k (k := Sum.inl n) (((e1.trans e2).trans e3) _ _ hd) (sz_lt hz), k H3 ((e1.trans e2).trans e3)⟩
theorem er_dnew : EvR tDNewK σ H (fun p H2 => H2 p = some (.dK [])) := fun H1 _ Q q => fun p hp => q p _ hp (Ex.new hp) upd_same
theorem putK_len1 (k : Key) (x : V) (c : List (Key × V)) : (putK c k x).length ≤ c.length + 1 := by
  unfold putK
  split
  · rw [List.length_map]; omega
  · rw [List.length_append]; simp
end
/-! ### words and marks -/
abbrev flWord : List Str := ["value", "own", "first", "mark"]
abbrev flMark : List Str := ["kind", "reader", "i", "j", "k", "words", "state", "proof"]
def firstOf (t : Si42.Token) : Int := match t.by_ with
  | none => (t.id : Int)
  | some _ => -1
def markOf (t : Si42.Token) : Int := match t.by_ with
  | none => -1
  | some m => (m : Int)
section
variable {K : PySem.W.Frag} {mg : Str → Option Value} (T : Tp K mg)
def WordAt (H : Hp) (a : Addr) (x : Tw) : Prop := InsAt H a T.Word.C flWord [.int (x.1.word : Int), .int (x.2 : Int), .int (firstOf x.1), .int (markOf x.1)]
/-- an open mark at a, its words in I -/
def OpenAt (H I : Hp) (a : Addr) (r : Nat) (q : Si42.Ask) : Prop := ∃ (aw : Addr) (pr : Int), InsAt H a T.Mark.C flMark [.int (akKind q : Int), .int (r : Int), .int (akI q : Int), .int (akJ q : Int), .int (akK q : Int), .ref aw, .int 0, .int pr] ∧ I aw = some (.lst (nl (akW q)))
def MarkAt (H I : Hp) (a : Addr) (m : Si42.Mark) : Prop := match m.stand with
  | .open_ q => OpenAt T H I a m.reader q
  | .done p => ∃ v0 v2 v3 v4 v5, InsAt H a T.Mark.C flMark [v0, .int (m.reader : Int), v2, v3, v4, v5, .int 1, .int (p : Int)]
  | .lost p => ∃ v0 v2 v3 v4 v5, InsAt H a T.Mark.C flMark [v0, .int (m.reader : Int), v2, v3, v4, v5, .int 2, .int (p : Int)]
  | .withdrawn => ∃ v0 v2 v3 v4 v5 v7, InsAt H a T.Mark.C flMark [v0, .int (m.reader : Int), v2, v3, v4, v5, .int 3, v7]
def MarksAt (H I : Hp) (a : Addr) (as : List Addr) (ms : List Si42.Mark) : Prop := H a = some (.lst (as.map V.ref)) ∧ Al2 (MarkAt T H I) as ms
def RowAt (H : Hp) (a : Addr) (ws : Tx) : Prop := ∃ as : List Addr, H a = some (.lst (as.map V.ref)) ∧ Al2 (WordAt T H) as ws
variable {T} {H H' I I' : Hp} {a : Addr}
theorem WordAt.ex {x : Tw} (h : WordAt T H a x) (e : Ex H H') : WordAt T H' a x := InsAt.ex h e
theorem OpenAt.ex {r : Nat} {q : Si42.Ask} (h : OpenAt T H I a r q) (e : Ex H H') (e' : Ex I I') : OpenAt T H' I' a r q := by
  obtain ⟨aw, pr, h1, h2⟩ := h
  exact ⟨aw, pr, h1.ex e, e' _ _ h2⟩
theorem MarkAt.ex {m : Si42.Mark} (h : MarkAt T H I a m) (e : Ex H H') (e' : Ex I I') : MarkAt T H' I' a m := by
  unfold MarkAt at h ⊢
  split at h
  · exact h.ex e e'
  · obtain ⟨v0, v2, v3, v4, v5, h⟩ := h
    exact ⟨v0, v2, v3, v4, v5, h.ex e⟩
  · obtain ⟨v0, v2, v3, v4, v5, h⟩ := h
    exact ⟨v0, v2, v3, v4, v5, h.ex e⟩
  · obtain ⟨v0, v2, v3, v4, v5, v7, h⟩ := h
    exact ⟨v0, v2, v3, v4, v5, v7, h.ex e⟩
theorem MarksAt.ex {as : List Addr} {ms : List Si42.Mark} (h : MarksAt T H I a as ms) (e : Ex H H') (e' : Ex I I') : MarksAt T H' I' a as ms := ⟨e _ _ h.1, h.2.mono fun _ _ k => k.ex e e'⟩
theorem RowAt.ex {ws : Tx} (h : RowAt T H a ws) (e : Ex H H') : RowAt T H' a ws := by
  obtain ⟨as, h1, h2⟩ := h
  exact ⟨as, e _ _ h1, h2.mono fun _ _ k => k.ex e⟩
end
end Pf

end
section
set_option Elab.async false
set_option linter.all false
set_option maxRecDepth 100000
set_option maxHeartbeats 4000000
/-! Words, marks: the defs of marks.py. -/
namespace Pf
open PySem PySem.Spec PyProof.Rows L2 Evl
def Keep (p : Addr) (H H' : Hp) : Prop := ∀ b o, H b = some o → b ≠ p → H' b = some o
theorem Keep.refl {p : Addr} {H : Hp} : Keep p H H := fun _ _ h _ => h
theorem Keep.step {p : Addr} {H H1 H2 : Hp} {o : HO} (k : Keep p H H1) (e : Ex H1 H2) : Keep p H (upd H2 p o) := fun b u h hb => by
  rw [upd_ne hb]
  exact e b u (k b u h hb)
/-- an __init__ whose parts are new -/
def spIN (C : Addr) (n : Nat) (Post : Hp → Addr → List V → Hp → Prop) : Sp := fun vs H Q _ => ∃ p dx xs, vs = .ref p :: xs ∧ xs.length = n ∧ H p = some (.ins C dx []) ∧ ∀ H', Keep p H H' → Post H p xs H' → Q .non H'
theorem er_make0N {C : Addr} {Post : Hp → Addr → List V → Hp → Prop} {E : XK} {σ : L2.St} {H : Hp} : EvR (tMake C (spIN C 0 Post) [] E tNil) σ H (fun p H2 => ∃ H1, Ex H H1 ∧ Post H1 p [] H2) := fun H1 e Q q x dx hx hd hne => by
  have e1 : Ex H1 (upd (upd H1 dx (.own x)) x (.ins C dx [])) := fun b o h => by
    rw [upd_ne (ne_of_none h hx), upd_ne (ne_of_none h hd)]
    exact h
  exact ⟨x, dx, [], rfl, rfl, upd_same, fun H3 keep post => ⟨rfl, q x H3 hx (Same.made hx hd keep) ⟨_, e.trans e1, post⟩⟩⟩
theorem er_makeN {C : Addr} {n : Nat} {Post : Hp → Addr → List V → Hp → Prop} {E : XK} {σ : L2.St} {H : Hp} {ta : TA} {vs : List V} (h : EvA ta σ H vs) (hn : vs.length = n) : EvR (tMake C (spIN C n Post) [] E ta) σ H (fun p H2 => ∃ H1, Ex H H1 ∧ Post H1 p vs H2) := fun H1 e Q q =>
  h H1 e _ fun H2 e2 x dx hx hd hne => by
    have e1 : Ex H2 (upd (upd H2 dx (.own x)) x (.ins C dx [])) := fun b o h => by
      rw [upd_ne (ne_of_none h hx), upd_ne (ne_of_none h hd)]
      exact h
    refine ⟨x, dx, vs ++ [], rfl, by rw [List.append_nil]; exact hn, upd_same, fun H3 keep post => ⟨rfl, ?_⟩⟩
    rw [List.append_nil] at post
    exact q x H3 (ex_none e2 hx) (e2.trans (Same.made hx hd keep)) ⟨_, (e.trans e2).trans e1, post⟩
theorem dI (a b : Nat) : decide (V.int (a : Int) = V.int (b : Int)) = decide (a = b) := by
  rw [Bool.eq_iff_iff, decide_eq_true_eq, decide_eq_true_eq]
  constructor
  · intro h
    have := V.int.inj h
    omega
  · intro h
    rw [h]
theorem dI' (a : Nat) (b : Int) : decide (V.int (a : Int) = V.int b) = decide ((a : Int) = b) := by
  rw [Bool.eq_iff_iff, decide_eq_true_eq, decide_eq_true_eq]
  exact ⟨fun h => V.int.inj h, fun h => by rw [h]⟩
section
variable {P : Program} {w : World} {K : PySem.W.Frag} {mg : Str → Option Value} {base : Heap}
def sp_Word_init (T : Tp K mg) : Sp := spI T.Word.C 4 fun p xs H => InsAt H p T.Word.C flWord xs
-- slots: self 0, value 1, own 2, first 3, mark 4
theorem ok_Word_init (T : Tp K mg) : FnOk P w K mg base CX0 1 T.Word.fI T.Word.fdI P_Word_init (sp_Word_init T) := by
  refine T.Word.F.ok sc_Word_init (fun vs H Q E h => ?_) (fun cdv A outer s H vs Q E hr h => ⟨_, (pss_cons (ps_fld (pv 0) (pv 1) rfl)
    (pss_cons (ps_fld (pv 0) (pv 2) rfl)
    (pss_cons (ps_fld (pv 0) (pv 3) rfl)
    (pss_one (ps_fld (pv 0) (pv 4) rfl))))), ?_⟩)
  · obtain ⟨p, dx, xs, rfl, hl, _⟩ := h
    simp [hl]
  · obtain ⟨p, dx, xs, rfl, hl, hp, k⟩ := h
    match xs, hl with
    | [v1, v2, v3, v4], _ =>
      refine q_new 0 T.Word (vs := []) hp (fun H1 e => ev_var rfl) (ev_p (ev_var rfl)) fun y H1 H2 e1 hy e2 => ?_
      subst hy
      refine q_new 1 T.Word upd_same (fun H1 e => ev_var rfl) (ev_p (ev_var rfl)) fun y H3 H4 e3 hy e4 => ?_
      subst hy
      refine q_new 2 T.Word upd_same (fun H1 e => ev_var rfl) (ev_p (ev_var rfl)) fun y H5 H6 e5 hy e6 => ?_
      subst hy
      refine s_new 3 T.Word upd_same (fun H1 e => ev_var rfl) (ev_p (ev_var rfl)) fun y H7 H8 e7 hy e8 => ?_
      subst hy
      exact k _ (Keep.step (Keep.step (Keep.step (Keep.step Keep.refl (e1.trans e2)) (e3.trans e4)) (e5.trans e6)) (e7.trans e8)) ⟨rfl, dx, upd_same⟩
/-- a new mark: k is i, no words, open -/
def sp_Mark_init (T : Tp K mg) : Sp := spIN T.Mark.C 4 fun H0 p xs H => ∃ aw kd r i j, xs = [kd, r, i, j] ∧ H0 aw = none ∧ aw ≠ p ∧ H aw = some (.lst []) ∧ InsAt H p T.Mark.C flMark [kd, r, i, j, i, .ref aw, .int 0, .int 0]
-- slots: self 0, kind 1, reader 2, i 3, j 4
theorem ok_Mark_init (T : Tp K mg) : FnOk P w K mg base CX0 1 T.Mark.fI T.Mark.fdI P_Mark_init (sp_Mark_init T) := by
  refine T.Mark.F.ok sc_Mark_init (fun vs H Q E h => ?_) (fun cdv A outer s H vs Q E hr h => ⟨_, (pss_cons (ps_fld (pv 0) (pv 1) rfl)
    (pss_cons (ps_fld (pv 0) (pv 2) rfl)
    (pss_cons (ps_fld (pv 0) (pv 3) rfl)
    (pss_cons (ps_fld (pv 0) (pv 4) rfl)
    (pss_cons (ps_fld (pv 0) (pv 3) rfl)
    (pss_cons (ps_fld (pv 0) (pe_lst pa_nil) rfl)
    (pss_cons (ps_fld (pv 0) (pe_glob (v := .int 0) rfl T.kOPEN ⟨_, rfl⟩) rfl)
    (pss_one (ps_fld (pv 0) pe_int rfl))))))))), ?_⟩)
  · obtain ⟨p, dx, xs, rfl, hl, _⟩ := h
    simp [hl]
  · obtain ⟨p, dx, xs, rfl, hl, hp, k⟩ := h
    match xs, hl with
    | [v1, v2, v3, v4], _ =>
      refine q_new 0 T.Mark (vs := []) hp (fun H1 e => ev_var rfl) (ev_p (ev_var rfl)) fun y H1 H2 e1 hy e2 => ?_
      subst hy
      refine q_new 1 T.Mark upd_same (fun H1 e => ev_var rfl) (ev_p (ev_var rfl)) fun y H3 H4 e3 hy e4 => ?_
      subst hy
      refine q_new 2 T.Mark upd_same (fun H1 e => ev_var rfl) (ev_p (ev_var rfl)) fun y H5 H6 e5 hy e6 => ?_
      subst hy
      refine q_new 3 T.Mark upd_same (fun H1 e => ev_var rfl) (ev_p (ev_var rfl)) fun y H7 H8 e7 hy e8 => ?_
      subst hy
      refine q_new 4 T.Mark upd_same (fun H1 e => ev_var rfl) (ev_p (ev_var rfl)) fun y H9 HA e9 hy eA => ?_
      subst hy
      refine q_new 5 T.Mark upd_same (fun H1 e => ev_var rfl) (EvR.toP (el_lst ea_nil (by decide))) fun y HB HC eB hy eC => ?_
      obtain ⟨aw, rfl, n0, hw⟩ := hy
      have nw : aw ≠ p := ne_of hw (eB _ _ upd_same) (by intro z; cases z)
      refine q_new 6 T.Mark upd_same (fun H1 e => ev_var rfl) (ev_p ev_c) fun y HD HE eD hy eE => ?_
      subst hy
      refine s_new 7 T.Mark upd_same (fun H1 e => ev_var rfl) (ev_p ev_c) fun y HF HG eF hy eG => ?_
      subst hy
      refine k _ (Keep.step (Keep.step (Keep.step (Keep.step (Keep.step (Keep.step (Keep.step (Keep.step Keep.refl (e1.trans e2)) (e3.trans e4)) (e5.trans e6)) (e7.trans e8)) (e9.trans eA)) (eB.trans eC)) (eD.trans eE)) (eF.trans eG)) ⟨aw, _, _, _, _, rfl, ?_, nw, ?_, rfl, dx, upd_same⟩
      · cases q : H aw with
        | none => rfl
        | some o =>
          rw [Keep.step (Keep.step (Keep.step (Keep.step (Keep.step Keep.refl (e1.trans e2)) (e3.trans e4)) (e5.trans e6)) (e7.trans e8)) (e9.trans eA) _ _ q nw] at n0
          cases n0
      rw [upd_ne nw]
      refine (eF.trans eG) _ _ ?_
      rw [upd_ne nw]
      refine (eD.trans eE) _ _ ?_
      rw [upd_ne nw]
      exact eC _ _ hw
def sp_are_same (T : Tp K mg) : Sp := spV fun vs v H => ∃ a b r1 r2 x y, vs = [.ref a, .ref b] ∧ OpenAt T H H a r1 x ∧ OpenAt T H H b r2 y ∧ v = .bl (decide (x = y))
-- slots: one 0, other 1
theorem ok_are_same (T : Tp K mg) : FnOk P w K mg base CX0 1 T.are_same.f T.are_same.fd P_are_same (sp_are_same T) := by
  refine T.are_same.F.ok sc_are_same (fun vs H Q E h => ?_) (fun cdv A outer s H vs Q E hr h => ⟨_, (pss_cons (ps_if (PW.pt (pw_or (pt_cmpR op_ne (pe_fld (pv 0) rfl) (pe_fld (pv 1) rfl) (nomark _)) (pw_or (pt_cmpR op_ne (pe_fld (pv 0) rfl) (pe_fld (pv 1) rfl) (nomark _)) (pw_or1 (pt_cmpR op_ne (pe_fld (pv 0) rfl) (pe_fld (pv 1) rfl) (nomark _)))))) (pss_one (ps_ret pe_bl)) pss_nil)
    (pss_one (ps_ret (pe_and (pe_cmpR op_eq (pe_fld (pv 0) rfl) (pe_fld (pv 1) rfl) (nomark _)) (pe_one (pe_cmpR (op_eqD hr.units) (pe_fld (pv 0) rfl) (pe_fld (pv 1) rfl) (nomark _))))))), ?_⟩)
  · obtain ⟨v, ⟨a, b, r1, r2, x, y, rfl, _⟩, _⟩ := h
    rfl
  · obtain ⟨v, ⟨a, b, r1, r2, x, y, rfl, ⟨aw, pr, o1, w1⟩, ⟨bw, pr2, o2, w2⟩, rfl⟩, k⟩ := h
    rw [← smA_eq] at k
    refine q_when (b := decide (akKind x ≠ akKind y ∨ akI x ≠ akI y ∨ akJ x ≠ akJ y)) (et_is' (et_or (et_test (ev_op (ev_fl T.Mark 0 o1 (ev_var rfl)) (ev_fl T.Mark 0 o2 (ev_var rfl)) (rv_ne rfl))) (fun _ => et_or (et_test (ev_op (ev_fl T.Mark 2 o1 (ev_var rfl)) (ev_fl T.Mark 2 o2 (ev_var rfl)) (rv_ne rfl))) (fun _ => et_test (ev_op (ev_fl T.Mark 3 o1 (ev_var rfl)) (ev_fl T.Mark 3 o2 (ev_var rfl)) (rv_ne rfl))))) ?_)
      (fun hb H1 e1 => s_ret ev_c fun H2 e2 => ?_) (fun hb H1 e1 => s_ret (Ev.mono e1 (ev_andV (ev_op (ev_fl T.Mark 4 o1 (ev_var rfl)) (ev_fl T.Mark 4 o2 (ev_var rfl)) (rv_eq rfl)) (fun _ => ev_op (ev_fl T.Mark 5 o1 (ev_var rfl)) (ev_fl T.Mark 5 o2 (ev_var rfl)) (rv_eqN (sq_of w1) (sq_of w2))))) fun H2 e2 => ?_)
    · rw [dI, dI, dI]
      simp
    · have := k H2 (e1.trans e2)
      unfold smA at this
      rw [if_pos (of_decide_eq_true hb)] at this
      exact this
    · have := k H2 (e1.trans e2)
      unfold smA at this
      rw [if_neg (of_decide_eq_false hb)] at this
      rw [dI]
      exact this
def sp_breaks_into (T : Tp K mg) : Sp := spV fun vs v H => ∃ (a : Addr) (r i j : Nat) (x : Si42.Ask), vs = [.ref a, .int (i : Int), .int (j : Int)] ∧ OpenAt T H H a r x ∧ v = .bl (brk x i j)
-- slots: mark 0, i 1, j 2
theorem ok_breaks_into (T : Tp K mg) : FnOk P w K mg base CX0 1 T.breaks_into.f T.breaks_into.fd P_breaks_into (sp_breaks_into T) := by
  refine T.breaks_into.F.ok sc_breaks_into (fun vs H Q E h => ?_) (fun cdv A outer s H vs Q E hr h => ⟨_, (pss_cons (ps_if (pt_cmpR op_eq (pe_fld (pv 0) rfl) (pe_glob (v := .int 1) rfl T.kKEEP ⟨_, rfl⟩) (nomark _)) (pss_one (ps_ret pe_bl)) pss_nil)
    (pss_cons (ps_if (pt_cmpR op_lt (pe_callB (call_max2 rfl) rfl T.nmax (by decide +kernel) (pa_cons (pe_fld (pv 0) rfl) (pa_cons (pv 1) pa_nil))) (pe_callB (call_min2 rfl) rfl T.nmin (by decide +kernel) (pa_cons (pe_fld (pv 0) rfl) (pa_cons (pv 2) pa_nil))) (nomark _)) (pss_one (ps_ret pe_bl)) pss_nil)
    (pss_one (ps_ret (pe_chain op_lt op_lt (pv 1) (pe_fld (pv 0) rfl) (pv 2)))))), ?_⟩)
  · obtain ⟨v, ⟨a, r, i, j, x, rfl, _⟩, _⟩ := h
    rfl
  · obtain ⟨v, ⟨a, r, i, j, x, rfl, ⟨aw, pr, o1, w1⟩, rfl⟩, k⟩ := h
    refine q_when (b := decide (akKind x = 1)) (et_is' (et_test (ev_op (ev_fl T.Mark 0 o1 (ev_var rfl)) ev_c (rv_eq rfl))) ?_) (fun hb H1 e1 => s_ret ev_c fun H2 e2 => ?_)
      (fun hb H1 e1 => q_when (b := decide (max (akI x) i < min (akJ x) j)) (EvT.mono e1 (et_is' (et_test (ev_op (ev_max2 (ev_fl T.Mark 2 o1 (ev_var rfl)) (ev_var rfl)) (ev_cb (ea_cons (ev_fl T.Mark 3 o1 (ev_var rfl)) (ea_cons (ev_var rfl) ea_nil)) (fun H1 e Q q => ⟨_, _, rfl, q H1 (Ex.refl H1)⟩)) rv_I0)) ?_))
        (fun hc H2 e2 => s_ret ev_c fun H3 e3 => ?_)
        (fun hc H2 e2 => s_ret (Ev.mono (e1.trans e2) (ev_is (ev_chain (ev_var rfl) (ev_fl T.Mark 4 o1 (ev_var rfl)) rv_I0 (fun _ => ev_var rfl) (fun _ => rv_I0)) (w := .bl (decide (i < akK x) && decide (akK x < j))) ?_)) fun H3 e3 => ?_))
    · rw [dI']
      rw [Bool.eq_iff_iff, decide_eq_true_eq, decide_eq_true_eq]
      omega
    · have := k H2 (e1.trans e2)
      unfold brk at this
      rw [if_pos (of_decide_eq_true hb)] at this
      exact this
    · rw [Bool.eq_iff_iff, decide_eq_true_eq, decide_eq_true_eq, Nat.max_lt, Nat.lt_min, Nat.lt_min]
      split <;> split <;> omega
    · have := k H3 ((e1.trans e2).trans e3)
      unfold brk at this
      rw [if_neg (of_decide_eq_false hb), if_pos (of_decide_eq_true hc)] at this
      exact this
    · congr 1
      rw [Bool.eq_iff_iff]; simp
    · have := k H3 ((e1.trans e2).trans e3)
      unfold brk at this
      rw [if_neg (of_decide_eq_false hb), if_neg (of_decide_eq_false hc)] at this
      exact this
end
end Pf

end
section
set_option Elab.async false
set_option linter.all false
set_option maxRecDepth 100000
set_option maxHeartbeats 4000000
/-! Which marks gainsay, which are open, pairs of them. -/
namespace Pf
open PySem PySem.Spec PyProof.Rows L2 Evl
section
variable {P : Program} {w : World} {K : PySem.W.Frag} {mg : Str → Option Value} {base : Heap}
def sp_gainsay (T : Tp K mg) : Sp := spV fun vs v H => ∃ a b r1 r2 x y n, vs = [.ref a, .ref b] ∧ OpenAt T H H a r1 x ∧ OpenAt T H H b r2 y ∧ AskWf n x ∧ AskWf n y ∧ v = .bl (Si42.clash x y)
-- slots: one 0, other 1
theorem ok_gainsay (T : Tp K mg) : FnOk P w K mg base CX0 2 T.gainsay.f T.gainsay.fd P_gainsay (sp_gainsay T) := by
  refine T.gainsay.F.ok sc_gainsay (fun vs H Q E h => ?_) (fun cdv A outer s H vs Q E hr h => ⟨_, (pss_cons (ps_if (PW.pt (pw_or (pt_val (pe_call (ok_are_same T) (hr.mono (by decide)) rfl T.are_same.g T.are_same.F.kp T.are_same.b .nil pass0 (pa_cons (pv 0) (pa_cons (pv 1) pa_nil)))) (pw_or1 (PW.pt (pw_and (pt_cmpR op_eq (pe_fld (pv 0) rfl) (pe_glob (v := .int 1) rfl T.kKEEP ⟨_, rfl⟩) (nomark _)) (pw_and1 (pt_cmpR op_eq (pe_fld (pv 1) rfl) (pe_glob (v := .int 1) rfl T.kKEEP ⟨_, rfl⟩) (nomark _)))))))) (pss_one (ps_ret pe_bl)) pss_nil)
    (pss_cons (ps_if (PW.pt (pw_or (pt_val (pe_call (ok_breaks_into T) (hr.mono (by decide)) rfl T.breaks_into.g T.breaks_into.F.kp T.breaks_into.b .nil pass0 (pa_cons (pv 0) (pa_cons (pe_fld (pv 1) rfl) (pa_cons (pe_fld (pv 1) rfl) pa_nil))))) (pw_or1 (pt_val (pe_call (ok_breaks_into T) (hr.mono (by decide)) rfl T.breaks_into.g T.breaks_into.F.kp T.breaks_into.b .nil pass0 (pa_cons (pv 1) (pa_cons (pe_fld (pv 0) rfl) (pa_cons (pe_fld (pv 0) rfl) pa_nil)))))))) (pss_one (ps_ret pe_bl)) pss_nil)
    (pss_one (ps_ret (pe_and (pe_cmpR op_ne (pe_fld (pv 0) rfl) (pe_glob (v := .int 1) rfl T.kKEEP ⟨_, rfl⟩) (nomark _)) (pe_and (pe_cmpR op_ne (pe_fld (pv 1) rfl) (pe_glob (v := .int 1) rfl T.kKEEP ⟨_, rfl⟩) (nomark _)) (pe_one (pe_cmpR op_eq (pe_fld (pv 0) rfl) (pe_fld (pv 1) rfl) (nomark _))))))))), ?_⟩)
  · obtain ⟨v, ⟨a, b, r1, r2, x, y, n, rfl, _⟩, _⟩ := h
    rfl
  · obtain ⟨v, ⟨a, b, r1, r2, x, y, n, rfl, p1, p2, f1, f2, rfl⟩, k⟩ := h
    rw [← gsy_eq f1 f2] at k
    obtain ⟨aw, pr, o1, w1⟩ := id p1
    obtain ⟨bw, pr2, o2, w2⟩ := id p2
    refine q_when (b := decide (x = y ∨ (akKind x = 1 ∧ akKind y = 1))) (et_is' (et_or (et_B (ev_callV (ea_cons (ev_var rfl) (ea_cons (ev_var rfl) ea_nil)) (fun H1 e => ⟨a, b, r1, r2, x, y, rfl, p1.ex e e, p2.ex e e, rfl⟩)))
        (fun _ => et_and (et_test (ev_op (ev_fl T.Mark 0 o1 (ev_var rfl)) ev_c (rv_eq rfl))) (fun _ => et_test (ev_op (ev_fl T.Mark 0 o2 (ev_var rfl)) ev_c (rv_eq rfl))))) ?_)
      (fun hb H1 e1 => s_ret ev_c fun H2 e2 => ?_)
      (fun hb H1 e1 => q_when (b := decide (brk x (akI y) (akJ y) = true ∨ brk y (akI x) (akJ x) = true)) (EvT.mono e1 (et_is' (et_or
          (et_B (ev_callV (ea_cons (ev_var rfl) (ea_cons (ev_fl T.Mark 2 o2 (ev_var rfl)) (ea_cons (ev_fl T.Mark 3 o2 (ev_var rfl)) ea_nil))) (fun H1 e => ⟨a, r1, akI y, akJ y, x, rfl, p1.ex e e, rfl⟩)))
          (fun _ => et_B (ev_callV (ea_cons (ev_var rfl) (ea_cons (ev_fl T.Mark 2 o1 (ev_var rfl)) (ea_cons (ev_fl T.Mark 3 o1 (ev_var rfl)) ea_nil))) (fun H1 e => ⟨b, r2, akI x, akJ x, y, rfl, p2.ex e e, rfl⟩)))) ?_))
        (fun hc H2 e2 => s_ret ev_c fun H3 e3 => ?_)
        (fun hc H2 e2 => s_ret (Ev.mono (e1.trans e2) (ev_is (ev_andV (ev_op (ev_fl T.Mark 0 o1 (ev_var rfl)) ev_c (rv_ne rfl)) (fun _ => ev_andV (ev_op (ev_fl T.Mark 0 o2 (ev_var rfl)) ev_c (rv_ne rfl)) (fun _ => ev_op (ev_fl T.Mark 4 o1 (ev_var rfl)) (ev_fl T.Mark 4 o2 (ev_var rfl)) (rv_eq rfl))))
          (w := .bl (decide (akKind x ≠ 1) && (decide (akKind y ≠ 1) && decide (akK x = akK y)))) ?_)) fun H3 e3 => ?_))
    · rw [dI', dI']
      have q1 : decide ((akKind x : Int) = 1) = decide (akKind x = 1) := by rw [Bool.eq_iff_iff]; simp; omega
      have q2 : decide ((akKind y : Int) = 1) = decide (akKind y = 1) := by rw [Bool.eq_iff_iff]; simp; omega
      rw [q1, q2]
      simp
    · have := k H2 (e1.trans e2)
      unfold gsy at this
      rw [if_pos (of_decide_eq_true hb)] at this
      exact this
    · rw [Bool.eq_iff_iff]
      simp
    · have := k H3 ((e1.trans e2).trans e3)
      unfold gsy at this
      rw [if_neg (of_decide_eq_false hb), if_pos (of_decide_eq_true hc)] at this
      exact this
    · congr 1
      rw [dI', dI', dI]
      have q1 : decide ((akKind x : Int) = 1) = decide (akKind x = 1) := by rw [Bool.eq_iff_iff]; simp; omega
      have q2 : decide ((akKind y : Int) = 1) = decide (akKind y = 1) := by rw [Bool.eq_iff_iff]; simp; omega
      rw [q1, q2]
      simp
    · have := k H3 ((e1.trans e2).trans e3)
      unfold gsy at this
      rw [if_neg (of_decide_eq_false hb), if_neg (of_decide_eq_false hc)] at this
      exact this
/-- a mark's state as a number -/
def stN (m : Si42.Mark) : Nat := match m.stand with
  | .open_ _ => 0
  | .done _ => 1
  | .lost _ => 2
  | .withdrawn => 3
theorem stN_open {m : Si42.Mark} : (stN m = 0) = ((askOf m).isSome = true) := by
  unfold stN askOf
  cases m.stand <;> simp
theorem mark_st {T : Tp K mg} {H I : Hp} {a : Addr} {m : Si42.Mark} (h : MarkAt T H I a m) : ∃ vs, InsAt H a T.Mark.C flMark vs ∧ vs[6]? = some (.int (stN m : Int)) ∧ vs[1]? = some (.int (m.reader : Int)) := by
  unfold MarkAt at h
  unfold stN
  split at h
  · rename_i q e
    try rw [e]
    obtain ⟨aw, pr, h1, _⟩ := h
    exact ⟨_, h1, rfl, rfl⟩
  · rename_i q e
    try rw [e]
    obtain ⟨v0, v2, v3, v4, v5, h⟩ := h
    exact ⟨_, h, rfl, rfl⟩
  · rename_i q e
    try rw [e]
    obtain ⟨v0, v2, v3, v4, v5, h⟩ := h
    exact ⟨_, h, rfl, rfl⟩
  · rename_i e
    try rw [e]
    obtain ⟨v0, v2, v3, v4, v5, v7, h⟩ := h
    exact ⟨_, h, rfl, rfl⟩
theorem mark_open {T : Tp K mg} {H I : Hp} {a : Addr} {m : Si42.Mark} {q : Si42.Ask} (h : MarkAt T H I a m) (e : askOf m = some q) : OpenAt T H I a m.reader q := by
  unfold MarkAt at h
  unfold askOf at e
  cases hs : m.stand with
  | open_ q' => rw [hs] at h e; cases e; exact h
  | done p => rw [hs] at e; cases e
  | lost p => rw [hs] at e; cases e
  | withdrawn => rw [hs] at e; cases e
theorem given_isO (ms : List Si42.Mark) : given ms.length (isO ms) (fun i => V.int (i : Int)) = nl ((Si42.opens ms).map (·.1)) := by
  unfold given nl
  rw [opens_range]
def sp_open_marks (T : Tp K mg) : Sp := spR fun vs H P => ∃ am as ms, vs = [.ref am] ∧ MarksAt T H H am as ms ∧ ms.length ≤ 60 ∧ P = fun p H2 => H2 p = some (.lst (nl ((Si42.opens ms).map (·.1))))
-- slots: marks 0, number 1, mark 2
theorem ok_open_marks (T : Tp K mg) : FnOk P w K mg base CX0 1 T.open_marks.f T.open_marks.fd P_open_marks (sp_open_marks T) := by
  refine T.open_marks.F.ok sc_open_marks (fun vs H Q E h => ?_) (fun cdv A outer s H vs Q E hr h => ⟨_, (pss_one (ps_ret (pe_lc (own := [("number", 1), ("mark", 2)]) (g := (g2 K 1 2)) (tt := (tTest (tOp rEq (tFld K (tVar 2) "state") (tC (.int 0))))) (te := (tVar 1)) rfl sc_open_marks.nd (pi_enum rfl T.nenumerate (pa_cons (pv 0) pa_nil)) (blkOk_by (own := [("number", 1), ("mark", 2)]) (N := N_open_marks) (sc := defScope s_open_marks) (by decide +kernel)) (fun _ _ _ _ _ => (pg_tup rfl (pgs_cons (pg_name (i := 1) sc_open_marks.nd rfl (.inl rfl)) (pgs_cons (pg_name (i := 2) sc_open_marks.nd rfl (.inl rfl)) pgs_nil)))) (fun _ _ _ _ _ => (pts_one (pt_cmpR op_eq (pe_fld (pv 2) rfl) (pe_glob (v := .int 0) rfl T.kOPEN ⟨_, rfl⟩) (nomark _)))) (fun _ _ _ _ _ => (pv 1))))), ?_⟩)
  · obtain ⟨v, ⟨am, as, ms, rfl, _⟩, _⟩ := h
    rfl
  · obtain ⟨P', ⟨am, as, ms, rfl, ⟨hm, h2⟩, hl, rfl⟩, k⟩ := h
    have hz : (as.map V.ref).length = ms.length := by rw [List.length_map]; exact h2.1
    refine s_retR (evl_r (el_lcE (isO ms) (fun i => V.int (i : Int)) (ea_cons (ev_var rfl) ea_nil) (sq_of hm) (by rw [hz]; omega) (fun x y => rfl) (fun i x H1 e hx => ?_) (fun i x H1 e hx hf => ev_var rfl))) fun p H1 hp e h1 => k p H1 hp e ?_
    · rw [List.getElem?_map] at hx
      cases ha : as[i]? with
      | none => rw [ha] at hx; cases hx
      | some a =>
        rw [ha] at hx
        have hx' : V.ref a = x := Option.some.inj hx
        subst hx'
        obtain ⟨m, hm1, hm2⟩ := h2.getL ha
        obtain ⟨vs, o, s6, _⟩ := mark_st hm2
        refine et_is' (et_test (ev_op (ev_fl T.Mark 6 (o.ex e) (ev_var rfl) s6) ev_c (rv_eq rfl))) ?_
        rw [dI']
        unfold isO
        rw [hm1, Bool.eq_iff_iff, decide_eq_true_eq]
        show ((stN m : Int) = 0) ↔ (askOf m).isSome = true
        rw [← stN_open]
        omega
    · show H1 p = _
      rw [h1, hz, given_isO]
/-! ### pairs -/
def PairAt (H : Hp) (t : Addr) (x : Nat × Nat) : Prop := H t = some (.tup [.int (x.1 : Int), .int (x.2 : Int)])
theorem marks_get {T : Tp K mg} {H I : Hp} {am : Addr} {as : List Addr} {ms : List Si42.Mark} {n : Nat} {q : Si42.Ask} (h : MarksAt T H I am as ms) (hn : (n, q) ∈ Si42.opens ms) :
    ∃ a r, (as.map V.ref)[n]? = some (V.ref a) ∧ OpenAt T H I a r q := by
  obtain ⟨m, h1, h2⟩ := opens_mem.mp hn
  obtain ⟨a, ha, hma⟩ := h.2.get h1
  exact ⟨a, m.reader, by rw [List.getElem?_map, ha]; rfl, mark_open hma h2⟩
theorem at_nat {xs : List V} {n : Nat} {v : V} (h : xs[n]? = some v) : atI xs (n : Int) = some v := atI_nat h
theorem ev_at {σ : L2.St} {H : Hp} {ta tb : TE} {p : Addr} {xs : List V} {n : Nat} {v : V} (ha : Ev ta σ H (.ref p)) (hb : Ev tb σ H (.int (n : Int))) (hp : SqL K H p xs) (hv : xs[n]? = some v) : Ev (tOp (rIxL K) ta tb) σ H v :=
  ev_op ha hb (rv_ixL hp (at_nat hv))
theorem cutV_from (xs : List V) (n : Nat) : cutV xs (some (n : Int)) none = xs.drop n := by
  unfold cutV
  have e1 : HT.sIx xs.length 0 (some (n : Int)) = min n xs.length := by
    unfold HT.sIx
    simp
    omega
  have e2 : HT.sIx xs.length xs.length none = xs.length := rfl
  rw [e1, e2]
  by_cases h : n ≤ xs.length
  · rw [Nat.min_eq_left h, List.take_of_length_le (by rw [List.length_drop]; omega)]
  · rw [Nat.min_eq_right (by omega), List.drop_eq_nil_of_le (Nat.le_refl _), List.drop_eq_nil_of_le (by omega)]
    simp
end
end Pf

end
section
set_option Elab.async false
set_option linter.all false
set_option maxRecDepth 100000
set_option maxHeartbeats 4000000
/-! Pairs that gainsay; choices; the heaviest. -/
namespace Pf
open PySem PySem.Spec PyProof.Rows L2 Evl
theorem Al2.right_map {α β γ : Type} {S : α → γ → Prop} {f : β → γ} {l : List α} {m : List β} (h : Al2 S l (m.map f)) : Al2 (fun a b => S a (f b)) l m := by
  refine ⟨by rw [h.1, List.length_map], fun i a b x y => h.2 i a (f b) x (by rw [List.getElem?_map, y]; rfl)⟩
section
variable {P : Program} {w : World} {K : PySem.W.Frag} {mg : Str → Option Value} {base : Heap}
/-- all open asks stand in a text of n words -/
def WfO (n : Nat) (ms : List Si42.Mark) : Prop := ∀ x ∈ Si42.opens ms, AskWf n x.2
/-- the row of pairs that one mark makes with those behind it -/
def rowP (x : Nat × Si42.Ask) (r : List (Nat × Si42.Ask)) : List (Nat × Nat) := (r.filter fun y => Si42.clash x.2 y.2).map fun y => (x.1, y.1)
theorem prs_cons (x : Nat × Si42.Ask) (r : List (Nat × Si42.Ask)) : prs (x :: r) = rowP x r ++ prs r := rfl
theorem rowP_len (x : Nat × Si42.Ask) (r : List (Nat × Si42.Ask)) : (rowP x r).length ≤ r.length := by
  unfold rowP
  rw [List.length_map]
  exact List.length_filter_le _ _
theorem rowP_more (x y : Nat × Si42.Ask) (r : List (Nat × Si42.Ask)) : rowP x (r ++ [y]) = rowP x r ++ (if Si42.clash x.2 y.2 = true then [(x.1, y.1)] else []) := by
  unfold rowP
  rw [List.filter_append, List.map_append]
  congr 1
  by_cases h : Si42.clash x.2 y.2 = true
  · rw [if_pos h, List.filter_cons, if_pos h]; rfl
  · rw [if_neg h, List.filter_cons, if_neg h]; rfl
theorem PairAt.ex {H H' : Hp} {t : Addr} {x : Nat × Nat} (h : PairAt H t x) (e : Ex H H') : PairAt H' t x := e _ _ h
def sp_clashing (T : Tp K mg) : Sp := spR fun vs H P => ∃ am as ms n, vs = [.ref am] ∧ MarksAt T H H am as ms ∧ ms.length ≤ 60 ∧ WfO n ms ∧ P = fun p H2 => ∃ ts : List Addr, H2 p = some (.lst (ts.map V.ref)) ∧ Al2 (PairAt H2) ts (prs (Si42.opens ms))
theorem opens_le60 {ms : List Si42.Mark} (h : ms.length ≤ 60) : (Si42.opens ms).length ≤ 60 := by
  have h1 := congrArg List.length (opens_range ms)
  rw [List.length_map] at h1
  have h2 := List.length_filter_le (isO ms) (List.range ms.length)
  rw [List.length_range] at h2
  omega
theorem take_next {α : Type} {l : List α} {i : Nat} {x : α} (h : l[i]? = some x) : l.take (i + 1) = l.take i ++ [x] := by
  rw [List.take_add_one, h]; rfl
theorem drop_next {α : Type} {l : List α} {i : Nat} {x : α} (h : l[i]? = some x) : l.drop i = x :: l.drop (i + 1) := by
  obtain ⟨h1, h2⟩ := List.getElem?_eq_some_iff.mp h
  rw [List.drop_eq_getElem_cons h1, h2]
-- slots: marks 0, numbers 1, found 2, at 3, one 4, other 5
theorem ok_clashing (T : Tp K mg) : FnOk P w K mg base CX0 3 T.clashing.f T.clashing.fd P_clashing (sp_clashing T) := by
  refine T.clashing.F.ok sc_clashing (fun vs H Q E h => ?_) (fun cdv A outer s H vs Q E hr h => ⟨_, (pss_cons (ps_set (i := 1) sc_clashing.nd rfl (.inl rfl) (pe_call (ok_open_marks T) (hr.mono (by decide)) rfl T.open_marks.g T.open_marks.F.kp T.open_marks.b .nil pass0 (pa_cons (pv 0) pa_nil)))
    (pss_cons (ps_set (i := 2) sc_clashing.nd rfl (.inl rfl) (pe_lst pa_nil))
    (pss_cons (ps_for PassesOwn.never rfl (pi_enum rfl T.nenumerate (pa_cons (pv 1) pa_nil)) (pg_tup rfl (pgs_cons (pg_name (i := 3) sc_clashing.nd rfl (.inl rfl)) (pgs_cons (pg_name (i := 4) sc_clashing.nd rfl (.inl rfl)) pgs_nil))) (pss_one (ps_for PassesOwn.never rfl (pi_list (pe_slice sl_list (pv 1) (po_some (pe_op op_add (pv 3) pe_int)) po_none)) (pg_name (i := 5) sc_clashing.nd rfl (.inl rfl)) (pss_one (ps_if (pt_val (pe_call (ok_gainsay T) (hr.mono (by decide)) rfl T.gainsay.g T.gainsay.F.kp T.gainsay.b .nil pass0 (pa_cons (pe_ix ix_list (pv 0) (pv 4) (fun _ _ => rfl)) (pa_cons (pe_ix ix_list (pv 0) (pv 5) (fun _ _ => rfl)) pa_nil)))) (pss_one (ps_expr (pe_bm PySem.F.plainAttrs_list PySem.F.slot_list_append PySem.F.type_list_append mt_append (pv 2) (pa_cons (pe_tup (pa_cons (pv 4) (pa_cons (pv 5) pa_nil))) pa_nil)))) pss_nil)))))
    (pss_one (ps_ret (pv 2)))))), ?_⟩)
  · obtain ⟨v, ⟨am, as, ms, n, rfl, _⟩, _⟩ := h
    rfl
  · obtain ⟨P', ⟨am, as, ms, n, rfl, hM, hl, hwf, rfl⟩, k⟩ := h
    have ho60 := opens_le60 hl
    refine q_asgR (er_callR (ea_cons (ev_var rfl) ea_nil) (fun H1 e => ⟨am, as, ms, rfl, hM.ex e e, hl, rfl⟩)) fun an H1 n1 e1 hn => ?_
    refine q_asgL (el_lst ea_nil (by decide)) fun fd H2 n2 e2 hf => ?_
    have hnum : ∀ H', Ex H1 H' → SqL K H' an (nl ((Si42.opens ms).map (·.1))) := fun H' e => ex_l e (sq_of hn)
    refine q_forE (ea_cons (ev_var rfl) ea_nil) (hnum H2 e2) (fun i σ' H' => Ex H1 (Off [fd] H') ∧ (∃ x y z, σ' = [some (.ref am), some (.ref an), some (.ref fd), x, y, z]) ∧
        ∃ (ts : List Addr) (acc : List (Nat × Nat)), H' fd = some (.lst (ts.map V.ref)) ∧ Al2 (PairAt (Off [fd] H')) ts acc ∧ acc.length ≤ 60 * i ∧ acc ++ prs ((Si42.opens ms).drop i) = prs (Si42.opens ms)) ?h0 ?hl ?hs ?hd
    case h0 =>
      intro H3 e3
      refine ⟨off_of (e2.trans e3) (by simp [n2]), ⟨_, _, _, rfl⟩, [], [], e3 _ _ hf, Al2.nil, Nat.zero_le _, rfl⟩
    case hl =>
      intro i σ' H' _ p
      exact hnum H' (p.1.trans (off_le _ _))
    case hd =>
      rintro σ' H' ⟨p1, ⟨x, y, z, rfl⟩, ts, acc, p2, p3, p4, p5⟩
      rw [List.drop_eq_nil_of_le (by rw [nl_len, List.length_map]; exact Nat.le_refl _)] at p5
      rw [show prs [] = [] from rfl, List.append_nil] at p5
      subst p5
      refine s_ret (ev_var rfl) fun H4 e4 => k fd H4 (ex_none e1 n2) ((e1.trans (p1.trans (off_le _ _))).trans e4) ⟨ts, e4 _ _ p2, p3.mono fun a b h => h.ex ((off_le _ _).trans e4)⟩
    case hs =>
      rintro i v σ' H' hv ⟨p1, ⟨x, y, z, rfl⟩, ts, acc, p2, p3, p4, p5⟩ H3 e3
      -- the i-th open mark
      unfold nl at hv
      rw [List.getElem?_map, List.getElem?_map] at hv
      cases hx : (Si42.opens ms)[i]? with
      | none => rw [hx] at hv; cases hv
      | some xi =>
        rw [hx] at hv
        have hv' : V.int (xi.1 : Int) = v := Option.some.inj hv
        subst hv'
        have hxm : xi ∈ Si42.opens ms := List.mem_of_getElem? hx
        have hi60 : i < (Si42.opens ms).length := (List.getElem?_eq_some_iff.mp hx).1
        have hH : ∀ H', Ex H1 H' → MarksAt T H' H' am as ms := fun H' e => hM.ex (e1.trans e) (e1.trans e)
        obtain ⟨ai, ri, hai, _⟩ := marks_get hM hxm
        have eb : Ex H1 H3 := (p1.trans (off_le _ _)).trans e3
        rw [drop_next hx, prs_cons] at p5
        refine s_forNLn (el_sl (ev_var rfl) (eo_some (ev_op (ev_var rfl) ev_c rv_I0)) eo_none (hnum H3 eb)) (fun sl j σ' H' => Ex H1 (Off [fd] H') ∧ Off [fd] H' sl = some (.lst (nl (((Si42.opens ms).drop (i + 1)).map (·.1)))) ∧ (∃ z', σ' = [some (.ref am), some (.ref an), some (.ref fd), some (.int (i : Int)), some (.int (xi.1 : Int)), z']) ∧
          ∃ (ts' : List Addr), H' fd = some (.lst (ts'.map V.ref)) ∧ Al2 (PairAt (Off [fd] H')) ts' (acc ++ rowP xi (((Si42.opens ms).drop (i + 1)).take j))) ?g0 ?gl ?gs ?gd
        case g0 =>
          intro sl H4 n4 e4 h4
          have ec : cutV (nl ((Si42.opens ms).map (·.1))) (some ((i : Int) + 1)) none = nl (((Si42.opens ms).drop (i + 1)).map (·.1)) := by
            have := cutV_from (nl ((Si42.opens ms).map (·.1))) (i + 1)
            rw [show (((i + 1 : Nat) : Int)) = (i : Int) + 1 by omega] at this
            rw [this, nl, nl, List.map_drop, List.map_drop]
          rw [ec] at h4
          refine ⟨p1.trans (off_ex (e3.trans e4)), by rw [off_out (by simp; exact fun z => by rw [z, e3 _ _ p2] at n4; cases n4)]; exact h4, ⟨_, rfl⟩, ts, e4 _ _ (e3 _ _ p2), ?_⟩
          rw [List.take_zero]
          show Al2 _ ts (acc ++ [])
          rw [List.append_nil]
          exact p3.mono fun a b h => h.ex (off_ex (e3.trans e4))
        case gl =>
          rintro sl j σ' H' _ ⟨_, q, _⟩
          have ec : cutV (nl ((Si42.opens ms).map (·.1))) (some ((i : Int) + 1)) none = nl (((Si42.opens ms).drop (i + 1)).map (·.1)) := by
            have := cutV_from (nl ((Si42.opens ms).map (·.1))) (i + 1)
            rw [show (((i + 1 : Nat) : Int)) = (i : Int) + 1 by omega] at this
            rw [this, nl, nl, List.map_drop, List.map_drop]
          rw [ec]
          exact sq_of ((off_le _ _) _ _ q)
        case gd =>
          rintro sl σ' H' ⟨q1, q2, ⟨z', rfl⟩, ts', q3, q4⟩
          have ec : (cutV (nl ((Si42.opens ms).map (·.1))) (some ((i : Int) + 1)) none).length = ((Si42.opens ms).drop (i + 1)).length := by
            have := cutV_from (nl ((Si42.opens ms).map (·.1))) (i + 1)
            rw [show (((i + 1 : Nat) : Int)) = (i : Int) + 1 by omega] at this
            rw [this, nl]
            simp
          rw [ec, List.take_length] at q4
          refine ⟨q1, ⟨_, _, _, rfl⟩, ts', _, q3, q4, ?_, by rw [List.append_assoc]; exact p5⟩
          have := rowP_len xi ((Si42.opens ms).drop (i + 1))
          rw [List.length_drop] at this
          rw [List.length_append]
          omega
        case gs =>
          rintro sl j v σ' H' hj ⟨q1, q2, ⟨z', rfl⟩, ts', q3, q4⟩
          have ec : cutV (nl ((Si42.opens ms).map (·.1))) (some ((i : Int) + 1)) none = nl (((Si42.opens ms).drop (i + 1)).map (·.1)) := by
            have := cutV_from (nl ((Si42.opens ms).map (·.1))) (i + 1)
            rw [show (((i + 1 : Nat) : Int)) = (i : Int) + 1 by omega] at this
            rw [this, nl, nl, List.map_drop, List.map_drop]
          rw [ec, nl, List.getElem?_map, List.getElem?_map] at hj
          cases hy : ((Si42.opens ms).drop (i + 1))[j]? with
          | none => rw [hy] at hj; cases hj
          | some yj =>
            rw [hy] at hj
            have hv' : V.int (yj.1 : Int) = v := Option.some.inj hj
            subst hv'
            have hym : yj ∈ Si42.opens ms := List.mem_of_mem_drop (List.mem_of_getElem? hy)
            obtain ⟨aj, rj, haj, _⟩ := marks_get hM hym
            have eH : Ex H1 H' := q1.trans (off_le _ _)
            obtain ⟨ai', ri', hai', oi⟩ := marks_get (hH H' eH) hxm
            obtain ⟨aj', rj', haj', oj⟩ := marks_get (hH H' eH) hym
            have hm' : SqL K H' am (as.map V.ref) := sq_of (hH H' eH).1
            refine s_when (et_B (ev_callV (ea_cons (ev_at (ev_var rfl) (ev_var rfl) hm' hai') (ea_cons (ev_at (ev_var rfl) (ev_var rfl) hm' haj') ea_nil)) (fun H5 e5 => ⟨ai', aj', ri', rj', xi.2, yj.2, n, rfl, oi.ex e5 e5, oj.ex e5 e5, hwf _ hxm, hwf _ hym, rfl⟩)))
              (fun hb H5 e5 => ?_) (fun hb H5 e5 => ?_)
            · have hlen : ts'.length ≤ 60 * i + 60 := by
                rw [q4.1, List.length_append]
                have := rowP_len xi (((Si42.opens ms).drop (i + 1)).take j)
                rw [List.length_take, List.length_drop] at this
                omega
              refine s_appU (e5 _ _ q3) (ev_var rfl) (eu_tup (ea_cons (ev_var rfl) (ea_cons (ev_var rfl) ea_nil)) (by show 2 ≤ 100000; decide)) (by rw [List.length_map]; omega) fun t H6 n6 e6 ht => ?_
              have eo : Off [fd] (upd H6 fd (.lst (ts'.map V.ref ++ [V.ref t]))) = Off [fd] H6 := off_upd (by simp)
              have htf : t ≠ fd := fun z => by rw [z] at n6; rw [e5 _ _ q3] at n6; cases n6
              refine ⟨by rw [eo]; exact q1.trans (off_ex (e5.trans e6)), ?_, ⟨_, rfl⟩, ts' ++ [t], by rw [upd_same, List.map_append]; rfl, ?_⟩
              · rw [eo]; exact (off_ex (e5.trans e6)) _ _ q2
              · rw [eo, take_next hy, rowP_more, if_pos hb, ← List.append_assoc]
                refine Al2.snoc (q4.mono fun a b h => h.ex (off_ex (e5.trans e6))) ?_
                show Off [fd] H6 t = _
                rw [off_out (by simp [htf])]
                exact ht
            · refine ⟨q1.trans (off_ex e5), (off_ex e5) _ _ q2, ⟨_, rfl⟩, ts', e5 _ _ q3, ?_⟩
              rw [take_next hy, rowP_more, if_neg (by rw [hb]; decide), List.append_nil]
              exact q4.mono fun a b h => h.ex (off_ex e5)
end
end Pf

end
section
set_option Elab.async false
set_option linter.all false
set_option maxRecDepth 100000
set_option maxHeartbeats 4000000
/-! Choices; the heaviest. -/
namespace Pf
open PySem PySem.Spec PyProof.Rows L2 Evl
abbrev flChoice : List Str := ["numbers", "weight"]
section
variable {P : Program} {w : World} {K : PySem.W.Frag} {mg : Str → Option Value} {base : Heap}
def sp_Choice_init (T : Tp K mg) : Sp := spI T.Choice.C 2 fun p xs H => InsAt H p T.Choice.C flChoice xs
-- slots: self 0, numbers 1, weight 2
theorem ok_Choice_init (T : Tp K mg) : FnOk P w K mg base CX0 1 T.Choice.fI T.Choice.fdI P_Choice_init (sp_Choice_init T) := by
  refine T.Choice.F.ok sc_Choice_init (fun vs H Q E h => ?_) (fun cdv A outer s H vs Q E hr h => ⟨_, (pss_cons (ps_fld (pv 0) (pv 1) rfl)
    (pss_one (ps_fld (pv 0) (pv 2) rfl))), ?_⟩)
  · obtain ⟨p, dx, xs, rfl, hl, _⟩ := h
    simp [hl]
  · obtain ⟨p, dx, xs, rfl, hl, hp, k⟩ := h
    match xs, hl with
    | [v1, v2], _ =>
      refine q_new 0 T.Choice (vs := []) hp (fun H1 e => ev_var rfl) (ev_p (ev_var rfl)) fun y H1 H2 e1 hy e2 => ?_
      subst hy
      refine s_new 1 T.Choice upd_same (fun H1 e => ev_var rfl) (ev_p (ev_var rfl)) fun y H3 H4 e3 hy e4 => ?_
      subst hy
      exact k _ (Keep.step (Keep.step Keep.refl (e1.trans e2)) (e3.trans e4)) ⟨rfl, dx, upd_same⟩
def ChoiceAt (T : Tp K mg) (H : Hp) (c : Addr) (cs : List (Nat × Si42.Ask)) (W : Nat) : Prop := ∃ an : Addr, InsAt H c T.Choice.C flChoice [.ref an, .int (W : Int)] ∧ H an = some (.lst (nl (cs.map (·.1))))
theorem ChoiceAt.ex {T : Tp K mg} {H H' : Hp} {c : Addr} {cs : List (Nat × Si42.Ask)} {W : Nat} (h : ChoiceAt T H c cs W) (e : Ex H H') : ChoiceAt T H' c cs W := by
  obtain ⟨an, h1, h2⟩ := h
  exact ⟨an, h1.ex e, e _ _ h2⟩
/-- of a choice the j-th gainsays x -/
def hitC (cs : List (Nat × Si42.Ask)) (x : Nat × Si42.Ask) (j : Nat) : Bool := match cs[j]? with
  | some y => Si42.clash y.2 x.2
  | none => false
def numC (cs : List (Nat × Si42.Ask)) (j : Nat) : Int := match cs[j]? with
  | some y => (y.1 : Int)
  | none => 0
theorem hit_ok (cs : List (Nat × Si42.Ask)) (x : Nat × Si42.Ask) : (((List.range cs.length).filter (hitC cs x)).map (numC cs) = []) ↔ okC cs x = true := by
  rw [List.map_eq_nil_iff, List.filter_eq_nil_iff]
  unfold okC
  rw [List.all_eq_true]
  constructor
  · intro h y hy
    obtain ⟨j, hj⟩ := List.mem_iff_getElem?.mp hy
    have := h j (List.mem_range.mpr (List.getElem?_eq_some_iff.mp hj).1)
    unfold hitC at this
    rw [hj] at this
    simpa using this
  · intro h j hj
    have hl := List.mem_range.mp hj
    have := h cs[j] (List.getElem_mem hl)
    unfold hitC
    rw [List.getElem?_eq_getElem hl]
    simpa using this
def sp_longer (T : Tp K mg) : Sp := spR fun vs H P => ∃ c am as ms cs x wt W n, vs = [.ref c, .ref am, .int ((x : Nat × Si42.Ask).1 : Int), .int ((wt : Nat) : Int)] ∧ MarksAt T H H am as ms ∧ ChoiceAt T H c cs W ∧ WfO n ms ∧ cs.length ≤ 60 ∧ (∀ y ∈ cs, y ∈ Si42.opens ms) ∧ x ∈ Si42.opens ms ∧
  ∀ p H2, Ex H H2 → (if okC cs x = true then ∃ c', H2 p = some (.lst [.ref c']) ∧ H c' = none ∧ ChoiceAt T (New H H2) c' (cs ++ [x]) (W + wt) else H2 p = some (.lst [])) → P p H2
-- slots: choice 0, marks 1, number 2, weight 3, one 4
theorem ok_longer (T : Tp K mg) : FnOk P w K mg base CX0 3 T.longer.f T.longer.fd P_longer (sp_longer T) := by
  refine T.longer.F.ok sc_longer (fun vs H Q E h => ?_) (fun cdv A outer s H vs Q E hr h => ⟨_, (pss_cons (ps_if (pt_cmpR (op_neD hr.units) (pe_lc (own := [("one", 4)]) (g := (gName 4)) (tt := (tB (tCall (sp_gainsay T) [] E0 (tCons (tOp (rIxL K) (tVar 1) (tVar 4)) (tCons (tOp (rIxL K) (tVar 1) (tVar 2)) tNil))))) (te := (tVar 4)) rfl sc_longer.nd (pi_list (pe_fld (pv 0) rfl)) (blkOk_by (own := [("one", 4)]) (N := N_longer) (sc := defScope s_longer) (by decide +kernel)) (fun _ _ _ _ _ => (pg_name (i := 4) sc_longer.nd rfl (.inl rfl))) (fun _ _ _ _ _ => (pts_one (pt_val (pe_call (ok_gainsay T) (hr.mono (by decide)) rfl T.gainsay.g T.gainsay.F.kp T.gainsay.b .nil pass0 (pa_cons (pe_ix ix_list (pv 1) (pv 4) (fun _ _ => rfl)) (pa_cons (pe_ix ix_list (pv 1) (pv 2) (fun _ _ => rfl)) pa_nil)))))) (fun _ _ _ _ _ => (pv 4))) (pe_lst pa_nil) (nomark _)) (pss_one (ps_ret (pe_lst pa_nil))) pss_nil)
    (pss_one (ps_ret (pe_lst (pa_cons (pe_make T.Choice.mkd (ok_Choice_init T) (hr.mono (by decide)) rfl T.Choice.g T.Choice.b .nil pass0 (pa_cons (pe_op op_cat (pe_fld (pv 0) rfl) (pe_lst (pa_cons (pv 2) pa_nil))) (pa_cons (pe_op op_add (pe_fld (pv 0) rfl) (pv 3)) pa_nil))) pa_nil))))), ?_⟩)
  · obtain ⟨v, ⟨c, am, as, ms, cs, x, wt, W, n, rfl, _⟩, _⟩ := h
    rfl
  · obtain ⟨P', ⟨c, am, as, ms, cs, x, wt, W, n, rfl, hM, hC, hwf, hl, hcs, hx, hP⟩, k⟩ := h
    obtain ⟨an, hC1, hC2⟩ := id hC
    refine q_when (b := !decide (((List.range cs.length).filter (hitC cs x)).map (numC cs) = [])) (et_test (ev_opLL (el_lcL (hitC cs x) (fun j => V.int (numC cs j)) (ev_fl T.Choice 0 hC1 (ev_var rfl)) (sq_of hC2) (by rw [nl_len, List.length_map]; omega) (fun _ => rfl) (fun j v H1 e hj => ?_) (fun j v H1 e hj hf => ?_)) (el_lst ea_nil (by decide)) (fun p q H1 hp hq e => ?_)))
      (fun hb H1 e1 => ?_) (fun hb H1 e1 => ?_)
    · -- the test
      unfold nl at hj
      rw [List.getElem?_map, List.getElem?_map] at hj
      cases hy : cs[j]? with
      | none => rw [hy] at hj; cases hj
      | some y =>
        rw [hy] at hj
        have hv : V.int (y.1 : Int) = v := Option.some.inj hj
        subst hv
        have hym := hcs y (List.mem_of_getElem? hy)
        obtain ⟨ay, ry, hay, oy⟩ := marks_get (hM.ex e e) hym
        obtain ⟨ax, rx, hax, ox⟩ := marks_get (hM.ex e e) hx
        refine et_is' (et_B (ev_callV (ea_cons (ev_at (ev_var rfl) (ev_var rfl) (sq_of (e _ _ hM.1)) hay) (ea_cons (ev_at (ev_var rfl) (ev_var rfl) (sq_of (e _ _ hM.1)) hax) ea_nil)) (fun H5 e5 => ⟨ay, ax, ry, rx, y.2, x.2, n, rfl, oy.ex e5 e5, ox.ex e5 e5, hwf _ hym, hwf _ hx, rfl⟩))) ?_
        unfold hitC
        rw [hy]
    · unfold nl at hj
      rw [List.getElem?_map, List.getElem?_map] at hj
      cases hy : cs[j]? with
      | none => rw [hy] at hj; cases hj
      | some y =>
        rw [hy] at hj
        have hv : V.int (y.1 : Int) = v := Option.some.inj hj
        subst hv
        refine ev_is (ev_var rfl) ?_
        show V.int (y.1 : Int) = V.int (numC cs j)
        unfold numC
        rw [hy]
    · have eg : given (nl (cs.map (·.1))).length (hitC cs x) (fun j => V.int (numC cs j)) = (((List.range cs.length).filter (hitC cs x)).map (numC cs)).map V.int := by
        unfold given
        rw [nl_len, List.length_map, List.map_map]
        rfl
      rw [eg] at hp
      exact rv_neL (sq_of hp) (sq_of (show H1 q = some (.lst (([] : List Int).map V.int)) from hq))
    · have ho : ¬ okC cs x = true := by
        rw [← hit_ok]
        simpa using hb
      refine s_retL (el_lst ea_nil (by decide)) fun p H2 n2 e2 h2 => k p H2 (ex_none e1 n2) (e1.trans e2) (hP p H2 (e1.trans e2) ?_)
      rw [if_neg ho]
      exact h2
    · have ho : okC cs x = true := by
        rw [← hit_ok]
        simpa using hb
      have C1 := hC1.ex e1
      have C2 := e1 _ _ hC2
      have hz : (nl (cs.map (·.1))).length + [V.int (x.1 : Int)].length ≤ 1000000 := by
        rw [nl_len, List.length_map]
        show cs.length + 1 ≤ _
        omega
      refine s_retR (er_lstP (eap_cons (EvR.toP (er_make (eap_cons (EvR.toP (evl_r (el_cat (els_v (ev_fl T.Choice 0 C1 (ev_var rfl)) C2) (els_l (el_lst (ea_cons (ev_var rfl) ea_nil) (by show 1 ≤ 100000; decide))) hz)))
          (fun v H2 e2 hv => eap_v (ev_op (ev_fl T.Choice 1 (C1.ex e2) (ev_var rfl)) (ev_var rfl) rv_I0) eap_nil)) ?_)) (fun v H2 e2 hv => eap_nil)) ?_) fun p H2 n2 e2 h2 => ?_
      · rintro vs H2 ⟨v, r, H3, rfl, _, _, _, r', rfl, rfl⟩
        rfl
      · rintro vs H2 ⟨v, r, H3, rfl, _, _, _, rfl⟩
        show 1 ≤ 100000
        decide
      · refine k p H2 (ex_none e1 n2) (e1.trans e2) (hP p H2 (e1.trans e2) ?_)
        obtain ⟨ws, H3, ⟨v, r, H4, rfl, e4, ⟨c', rfl, nc, vs, H5, ⟨va, ra, H6, rfl, e6, ⟨an', rfl, na, han⟩, e67, rb, rfl, rfl⟩, e54, oc⟩, e43, rfl⟩, _, np, e32, hp⟩ := h2
        rw [if_pos ho]
        have k1 : Ex H6 H2 := ((e67.trans e54).trans e43).trans e32
        have nc' : H c' = none := ex_none e1 nc
        have na' : H an' = none := ex_none e1 na
        refine ⟨c', hp, nc', an', ⟨oc.1, ?_⟩, ?_⟩
        · obtain ⟨_, dx, q⟩ := oc
          refine ⟨dx, ?_⟩
          rw [new_of nc']
          have := (e43.trans e32) _ _ q
          rw [show ((W + wt : Nat) : Int) = (W : Int) + (wt : Int) by omega]
          exact this
        · rw [new_of na']
          have := k1 _ _ han
          rw [this, List.map_append, nl_app]
          rfl
/-! ### the heaviest -/
/-- a choice that stands, of open marks, with what it weighs -/
def ChAt (T : Tp K mg) (ws : List Nat) (ms : List Si42.Mark) (H : Hp) (c : Addr) (cs : List (Nat × Si42.Ask)) : Prop := ChoiceAt T H c cs (Si42.weightOf ws ms cs) ∧ ∀ y ∈ cs, y ∈ Si42.opens ms
theorem ChAt.ex {T : Tp K mg} {ws : List Nat} {ms : List Si42.Mark} {H H' : Hp} {c : Addr} {cs : List (Nat × Si42.Ask)} (h : ChAt T ws ms H c cs) (e : Ex H H') : ChAt T ws ms H' c cs := ⟨h.1.ex e, h.2⟩
theorem rows_short {l : List (Nat × Si42.Ask)} {R : List (List (Nat × Si42.Ask))} {n : Nat} (h : ∀ c ∈ R, c.length ≤ n) : ∀ c ∈ l.foldl rowS R, c.length ≤ n + l.length := by
  induction l generalizing R n with
  | nil => exact h
  | cons x l ih =>
    intro c hc
    rw [List.foldl_cons] at hc
    have := ih (R := rowS R x) (n := n + 1) (fun d hd => ?_) c hc
    · rw [List.length_cons]; omega
    · unfold rowS at hd
      obtain ⟨e, he, hd⟩ := List.mem_flatMap.mp hd
      have := h e he
      rcases List.mem_append.mp hd with hd | hd
      · split at hd
        · have : d = e ++ [x] := by simpa using hd
          rw [this, List.length_append]
          simp; omega
        · simp at hd
      · have : d = e := by simpa using hd
        rw [this]
        omega
theorem rowS_more (R : List (List (Nat × Si42.Ask))) (c : List (Nat × Si42.Ask)) (x : Nat × Si42.Ask) : rowS (R ++ [c]) x = rowS R x ++ ((if okC c x = true then [c ++ [x]] else []) ++ [c]) := by
  unfold rowS
  rw [List.flatMap_append]
  simp
def sp_heaviest (T : Tp K mg) : Sp := spP fun vs H P => ∃ am as ms wa ws n, vs = [.ref am, .ref wa] ∧ MarksAt T H H am as ms ∧ H wa = some (.lst (nl ws)) ∧ ms.length ≤ 60 ∧ (Si42.opens ms).length ≤ 10 ∧ WfO n ms ∧ (∀ m ∈ ms, m.reader < ws.length) ∧
  P = fun v H2 => ∃ c, v = .ref c ∧ ChAt T ws ms H2 c (Si42.chosen ws ms)
-- slots: marks 0, weights 1, rows 2, number 3, more 4, choice 5, best 6
theorem ok_heaviest (T : Tp K mg) : FnOk P w K mg base CX0 4 T.heaviest.f T.heaviest.fd P_heaviest (sp_heaviest T) := by
  refine T.heaviest.F.ok sc_heaviest (fun vs H Q E h => ?_) (fun cdv A outer s H vs Q E hr h => ⟨_, (pss_cons (ps_set (i := 2) sc_heaviest.nd rfl (.inl rfl) (pe_lst (pa_cons (pe_make T.Choice.mkd (ok_Choice_init T) (hr.mono (by decide)) rfl T.Choice.g T.Choice.b .nil pass0 (pa_cons (pe_lst pa_nil) (pa_cons pe_int pa_nil))) pa_nil)))
    (pss_cons (ps_for PassesOwn.never rfl (pi_list (pe_call (ok_open_marks T) (hr.mono (by decide)) rfl T.open_marks.g T.open_marks.F.kp T.open_marks.b .nil pass0 (pa_cons (pv 0) pa_nil))) (pg_name (i := 3) sc_heaviest.nd rfl (.inl rfl)) (pss_cons (ps_set (i := 4) sc_heaviest.nd rfl (.inl rfl) (pe_lst pa_nil))
    (pss_cons (ps_for PassesOwn.never rfl (pi_list (pv 2)) (pg_name (i := 5) sc_heaviest.nd rfl (.inl rfl)) (pss_cons (ps_expr (pe_bm PySem.F.plainAttrs_list PySem.F.slot_list_extend PySem.F.type_list_extend mt_extend (pv 4) (pa_cons (pe_call (ok_longer T) (hr.mono (by decide)) rfl T.longer.g T.longer.F.kp T.longer.b .nil pass0 (pa_cons (pv 5) (pa_cons (pv 0) (pa_cons (pv 3) (pa_cons (pe_ix ix_list (pv 1) (pe_fld (pe_ix ix_list (pv 0) (pv 3) (fun _ _ => rfl)) rfl) (fun _ _ => rfl)) pa_nil))))) pa_nil)))
    (pss_one (ps_expr (pe_bm PySem.F.plainAttrs_list PySem.F.slot_list_append PySem.F.type_list_append mt_append (pv 4) (pa_cons (pv 5) pa_nil))))))
    (pss_one (ps_set (i := 2) sc_heaviest.nd rfl (.inl rfl) (pv 4))))))
    (pss_cons (ps_set (i := 6) sc_heaviest.nd rfl (.inl rfl) (pe_ix ix_list (pv 2) pe_int (fun _ _ => rfl)))
    (pss_cons (ps_for PassesOwn.never rfl (pi_list (pv 2)) (pg_name (i := 5) sc_heaviest.nd rfl (.inl rfl)) (pss_one (ps_if (pt_cmpR op_gt (pe_fld (pv 5) rfl) (pe_fld (pv 6) rfl) (nomark _)) (pss_one (ps_set (i := 6) sc_heaviest.nd rfl (.inl rfl) (pv 5))) pss_nil)))
    (pss_one (ps_ret (pv 6))))))), ?_⟩)
  · obtain ⟨v, ⟨am, as, ms, wa, ws, n, rfl, _⟩, _⟩ := h
    rfl
  · obtain ⟨P', ⟨am, as, ms, wa, ws, n, rfl, hM, hW, hl, h10, hwf, hrd, rfl⟩, k⟩ := h
    -- rows = [Choice([], 0)]
    refine q_asgR (er_lstP (eap_cons (EvR.toP (er_make (eap_cons (EvR.toP (evl_r (el_lst ea_nil (by decide)))) (fun v H2 e2 hv => eap_v ev_c eap_nil)) ?_)) (fun v H2 e2 hv => eap_nil)) ?_) fun ar H1 n1 e1 h1 => ?_
    · rintro vs H2 ⟨v, r, H3, rfl, _, _, _, r', rfl, rfl⟩
      rfl
    · rintro vs H2 ⟨v, r, H3, rfl, _, _, _, rfl⟩
      show 1 ≤ 100000
      decide
    obtain ⟨vs, H3, ⟨v, r, H4, rfl, e4, ⟨c0, rfl, nc, vs, H5, ⟨va, ra, H6, rfl, e6, ⟨an0, rfl, na, han⟩, e67, rb, rfl, rfl⟩, e54, oc⟩, e43, rfl⟩, _, np, e32, hp⟩ := h1
    have c0At : ChAt T ws ms H1 c0 [] := ⟨⟨an0, oc.ex (e43.trans e32), by exact (((e67.trans e54).trans e43).trans e32) _ _ han⟩, fun y hy => by simp at hy⟩
    have hM' : ∀ H', Ex H1 H' → MarksAt T H' H' am as ms := fun H' e => hM.ex (e1.trans e) (e1.trans e)
    refine q_forNLn (evr_l (er_callR (ea_cons (ev_var rfl) ea_nil) (fun H2 e2 => ⟨am, as, ms, rfl, hM.ex (e1.trans e2) (e1.trans e2), hl, rfl⟩))) (fun sl i σ' H' => Ex H1 H' ∧ H' sl = some (.lst (nl ((Si42.opens ms).map (·.1)))) ∧ (∃ ar x y z u, σ' = [some (.ref am), some (.ref wa), some (.ref ar), x, y, z, u] ∧
        ∃ cr : List Addr, H' ar = some (.lst (cr.map V.ref)) ∧ Al2 (ChAt T ws ms H') cr (((Si42.opens ms).take i).foldl rowS [[]]))) ?h0 ?hl ?hs ?hd
    case h0 =>
      intro sl H2 n2 e2 h2
      exact ⟨e2, h2, ar, _, _, _, _, rfl, [c0], e2 _ _ hp, Al2.one (c0At.ex e2)⟩
    case hl =>
      rintro sl i σ' H' _ ⟨_, q, _⟩
      exact sq_of q
    case hs =>
      rintro sl i v σ' H' hv ⟨p1, p2, ar, x, y, z, u, rfl, cr, p3, p4⟩
      unfold nl at hv
      rw [List.getElem?_map, List.getElem?_map] at hv
      cases hx : (Si42.opens ms)[i]? with
      | none => rw [hx] at hv; cases hv
      | some xi =>
        rw [hx] at hv
        have hv' : V.int (xi.1 : Int) = v := Option.some.inj hv
        subst hv'
        have hxm : xi ∈ Si42.opens ms := List.mem_of_getElem? hx
        have hi : i < (Si42.opens ms).length := (List.getElem?_eq_some_iff.mp hx).1
        have hrl : (((Si42.opens ms).take i).foldl rowS [[]]).length ≤ 1024 := by
          have h1 := rows_len ((Si42.opens ms).take i) [[]]
          have h2 : 2 ^ ((Si42.opens ms).take i).length ≤ 2 ^ 10 := Nat.pow_le_pow_right (by decide) (by rw [List.length_take]; omega)
          simp only [List.length_cons, List.length_nil] at h1
          omega
        have hcl : ∀ c ∈ ((Si42.opens ms).take i).foldl rowS [[]], c.length ≤ 60 := fun c hc => by
          have := rows_short (R := [[]]) (n := 0) (l := (Si42.opens ms).take i) (fun c hc => by simp at hc; rw [hc]; simp) c hc
          rw [List.length_take] at this
          omega
        refine q_asgL (el_lst ea_nil (by decide)) fun mr H2 n2 e2 h2 => ?_
        -- the reader's weight
        obtain ⟨mx, hmx, _⟩ := opens_mem.mp hxm
        obtain ⟨ax, hax, hmax⟩ := hM.2.get hmx
        have hrx : mx.reader < ws.length := hrd mx (List.mem_of_getElem? hmx)
        have hwx : ws[mx.reader]? = some (wtOf ws ms xi) := by
          unfold wtOf
          rw [hmx]
          simp [hrx]
        refine q_forLn (ev_var rfl) (sq_of (e2 _ _ p3)) (fun j σ' H'' => Ex H' (Off [mr] H'') ∧ (∃ z', σ' = [some (.ref am), some (.ref wa), some (.ref ar), some (.int (xi.1 : Int)), some (.ref mr), z', u]) ∧
          ∃ dr : List Addr, H'' mr = some (.lst (dr.map V.ref)) ∧ Al2 (ChAt T ws ms (Off [mr] H'')) dr (rowS ((((Si42.opens ms).take i).foldl rowS [[]]).take j) xi)) ?g0 ?gl ?gs ?gd
        case g0 =>
          intro H3 e3
          exact ⟨off_of (e2.trans e3) (by simp [n2]), ⟨_, rfl⟩, [], e3 _ _ h2, Al2.nil⟩
        case gl =>
          rintro j σ' H'' _ ⟨q1, _⟩
          exact sq_of ((q1.trans (off_le _ _)) _ _ p3)
        case gd =>
          rintro σ' H'' ⟨q1, ⟨z', rfl⟩, dr, q2, q3⟩
          rw [List.length_map, p4.1, List.take_length] at q3
          refine s_asg (ev_var rfl) fun H3 e3 => ⟨p1.trans ((q1.trans (off_le _ _)).trans e3), ((q1.trans (off_le _ _)).trans e3) _ _ p2, mr, _, _, _, _, rfl, dr, e3 _ _ q2, ?_⟩
          rw [take_next hx, List.foldl_append]
          exact q3.mono fun a b h => h.ex ((off_le _ _).trans e3)
        case gs =>
          rintro j v σ' H'' hj ⟨q1, ⟨z', rfl⟩, dr, q2, q3⟩
          rw [List.getElem?_map] at hj
          cases hc : cr[j]? with
          | none => rw [hc] at hj; cases hj
          | some c =>
            rw [hc] at hj
            have hv' : V.ref c = v := Option.some.inj hj
            subst hv'
            obtain ⟨cs, hcs, hC⟩ := p4.getL hc
            have e'' : Ex H' H'' := q1.trans (off_le _ _)
            have hC'' : ChAt T ws ms H'' c cs := hC.ex e''
            obtain ⟨vx, ox, _, rx1⟩ := mark_st (hmax.ex (e1.trans (p1.trans e'')) (e1.trans (p1.trans e'')))
            have hdl : dr.length ≤ 2048 := by
              rw [q3.1]
              have h1 := rowS_len ((((Si42.opens ms).take i).foldl rowS [[]]).take j) xi
              rw [List.length_take] at h1
              omega
            refine q_ext q2 (ev_var rfl) (er_callR (ea_cons (ev_var rfl) (ea_cons (ev_var rfl) (ea_cons (ev_var rfl) (ea_cons (ev_at (ev_var rfl) (ev_fl T.Mark 1 ox (ev_at (ev_var rfl) (ev_var rfl) (sq_of (hM' H'' (p1.trans e'')).1) (by rw [List.getElem?_map, hax]; rfl)) rx1) (sq_of ((e1.trans (p1.trans e'')) _ _ hW)) (nl_at hwx)) ea_nil))))
              (P := fun p H2 => ∃ H1, Ex H'' H1 ∧ (if okC cs xi = true then ∃ c', H2 p = some (.lst [.ref c']) ∧ H1 c' = none ∧ ChoiceAt T (New H1 H2) c' (cs ++ [xi]) (Si42.weightOf ws ms cs + wtOf ws ms xi) else H2 p = some (.lst [])))
              (fun H3 e3 => ⟨c, am, as, ms, cs, xi, wtOf ws ms xi, Si42.weightOf ws ms cs, n, rfl, hM' H3 (p1.trans (e''.trans e3)), hC''.1.ex e3, hwf, hcl cs (List.mem_of_getElem? hcs), hC.2, hxm, fun p H4 e4 h4 => ⟨H3, e3, h4⟩⟩)) fun p H3 n3 e3 hp3 => ?_
            obtain ⟨H4, e4, hp3⟩ := hp3
            by_cases ho : okC cs xi = true
            · rw [if_pos ho] at hp3
              obtain ⟨c', hp', nc', cc'⟩ := hp3
              have hcm : c' ≠ mr := fun z => by rw [z, e4 _ _ q2] at nc'; cases nc'
              refine ⟨[.ref c'], hp', by rw [List.length_map]; show dr.length + 1 ≤ _; omega, ?_⟩
              refine s_app upd_same (ev_var rfl) (ev_var rfl) (by rw [List.length_append, List.length_map]; show dr.length + 1 < _; omega) fun H5 e5 => ?_
              have eo : ∀ o, Off [mr] (upd H5 mr o) = Off [mr] H5 := fun o => off_upd (by simp)
              have e35 : Ex (Off [mr] H3) (Off [mr] H5) := by
                have := off_ex (F := [mr]) e5
                rw [off_upd (by simp)] at this
                exact this
              refine ⟨by rw [eo]; exact q1.trans ((off_ex e3).trans e35), ⟨_, rfl⟩, dr ++ [c', c], by rw [upd_same]; simp, ?_⟩
              rw [eo, take_next hcs, rowS_more, if_pos ho]
              refine Al2.append (q3.mono fun a b h => h.ex ((off_ex e3).trans e35)) ?_
              refine Al2.append (Al2.one ⟨?_, fun y hy => ?_⟩) (Al2.one (hC.ex (q1.trans ((off_ex e3).trans e35))))
              · rw [weight_snoc]
                exact cc'.ex ((new_off (fun a ha => by simp at ha; subst ha; exact ⟨_, e4 _ _ q2⟩)).trans e35)
              · rcases List.mem_append.mp hy with hy | hy
                · exact hC.2 y hy
                · simp at hy; rw [hy]; exact hxm
            · rw [if_neg ho] at hp3
              refine ⟨[], hp3, by rw [List.length_map]; show dr.length + 0 ≤ _; omega, ?_⟩
              refine s_app upd_same (ev_var rfl) (ev_var rfl) (by rw [List.length_append, List.length_map]; show dr.length + 0 < _; omega) fun H5 e5 => ?_
              have eo : ∀ o, Off [mr] (upd H5 mr o) = Off [mr] H5 := fun o => off_upd (by simp)
              have e35 : Ex (Off [mr] H3) (Off [mr] H5) := by
                have := off_ex (F := [mr]) e5
                rw [off_upd (by simp)] at this
                exact this
              refine ⟨by rw [eo]; exact q1.trans ((off_ex e3).trans e35), ⟨_, rfl⟩, dr ++ [c], by rw [upd_same]; simp, ?_⟩
              rw [eo, take_next hcs, rowS_more, if_neg ho, List.nil_append]
              exact Al2.append (q3.mono fun a b h => h.ex ((off_ex e3).trans e35)) (Al2.one (hC.ex (q1.trans ((off_ex e3).trans e35))))
    case hd =>
      rintro sl σ' H' ⟨p1, p2, ar, x, y, z, u, rfl, cr, p3, p4⟩
      rw [nl_len, List.length_map, List.take_length, rows_eq] at p4
      cases hs : Si42.sets (Si42.opens ms) with
      | nil => exact absurd hs (sets_ne _)
      | cons s r =>
        rw [hs] at p4
        obtain ⟨b0, hb0, hB0⟩ := p4.get (show (s :: r)[0]? = some s from rfl)
        refine q_asg (ev_at (n := 0) (ev_var rfl) ev_c (sq_of p3) (by rw [List.getElem?_map, hb0]; rfl)) fun H2 e2 => ?_
        refine q_forLn (ev_var rfl) (sq_of (e2 _ _ p3)) (fun j σ' H'' => Ex H' H'' ∧ (∃ z' b, σ' = [some (.ref am), some (.ref wa), some (.ref ar), x, y, z', some (.ref b)] ∧ ChAt T ws ms H'' b (((s :: r).take j).foldl (bestS (Si42.weightOf ws ms)) s))) ?f0 ?fl ?fs ?fd
        case f0 =>
          intro H3 e3
          exact ⟨e2.trans e3, _, b0, rfl, hB0.ex (e2.trans e3)⟩
        case fl =>
          rintro j σ' H'' _ ⟨q1, _⟩
          exact sq_of (q1 _ _ p3)
        case fs =>
          rintro j v σ' H'' hj ⟨q1, z', b, rfl, hB⟩
          rw [List.getElem?_map] at hj
          cases hc : cr[j]? with
          | none => rw [hc] at hj; cases hj
          | some c =>
            rw [hc] at hj
            have hv' : V.ref c = v := Option.some.inj hj
            subst hv'
            obtain ⟨cs, hcs, hC⟩ := p4.getL hc
            obtain ⟨anb, ob, _⟩ := id hB.1
            obtain ⟨anc, oc, _⟩ := (hC.ex q1).1
            rw [take_next hcs, List.foldl_append, List.foldl_cons, List.foldl_nil]
            refine s_when (b := decide (Si42.weightOf ws ms (((s :: r).take j).foldl (bestS (Si42.weightOf ws ms)) s) < Si42.weightOf ws ms cs)) (et_is' (et_test (ev_op (ev_fl T.Choice 1 oc (ev_var rfl)) (ev_fl T.Choice 1 ob (ev_var rfl)) rv_I0)) ?_) (fun hb H3 e3 => s_asg (ev_var rfl) fun H4 e4 => ⟨q1.trans (e3.trans e4), _, c, rfl, ?_⟩) (fun hb H3 e3 => ⟨q1.trans e3, _, b, rfl, ?_⟩)
            · rw [Bool.eq_iff_iff]; simp
            · unfold bestS at hb ⊢
              rw [if_pos (of_decide_eq_true hb)]
              exact hC.ex (q1.trans (e3.trans e4))
            · unfold bestS at hb hB ⊢
              rw [if_neg (of_decide_eq_false hb)]
              exact hB.ex e3
        case fd =>
          rintro σ' H'' ⟨q1, z', b, rfl, hB⟩
          rw [List.length_map, p4.1, List.take_length] at hB
          refine s_ret (ev_var rfl) fun H3 e3 => k _ H3 (e1.trans (p1.trans (q1.trans e3))) ⟨b, rfl, ?_⟩
          rw [chosen_eq ws ms hs]
          exact hB.ex e3
end
end Pf

end
section
set_option Elab.async false
set_option linter.all false
set_option maxRecDepth 100000
set_option maxHeartbeats 4000000
/-! Marks once, who takes words, what is put into a gap. -/
namespace Pf
open PySem PySem.Spec PyProof.Rows L2 Evl
theorem cutV_mid (xs : List V) (i j : Nat) (h : i ≤ j) (hj : j ≤ xs.length) : cutV xs (some (i : Int)) (some (j : Int)) = (xs.drop i).take (j - i) := by
  unfold cutV
  rw [HT.sIx_nat, HT.sIx_nat, Nat.min_eq_left (Nat.le_trans h hj), Nat.min_eq_left hj]
section
variable {P : Program} {w : World} {K : PySem.W.Frag} {mg : Str → Option Value} {base : Heap}
/-- of a row the j-th asks the same as x -/
def sameC (cs : List (Nat × Si42.Ask)) (x : Nat × Si42.Ask) (j : Nat) : Bool := match cs[j]? with
  | some y => decide (y.2 = x.2)
  | none => false
theorem same_any (cs : List (Nat × Si42.Ask)) (x : Nat × Si42.Ask) : (((List.range cs.length).filter (sameC cs x)).map (numC cs) = []) ↔ (cs.any fun y => decide (y.2 = x.2)) = false := by
  rw [List.map_eq_nil_iff, List.filter_eq_nil_iff, List.any_eq_false]
  constructor
  · intro h y hy
    obtain ⟨j, hj⟩ := List.mem_iff_getElem?.mp hy
    have := h j (List.mem_range.mpr (List.getElem?_eq_some_iff.mp hj).1)
    unfold sameC at this
    rw [hj] at this
    exact this
  · intro h j hj
    have hl := List.mem_range.mp hj
    have := h cs[j] (List.getElem_mem hl)
    unfold sameC
    rw [List.getElem?_eq_getElem hl]
    exact this
theorem onceS_sub {l : List (Nat × Si42.Ask)} : ∀ (n : Nat) (y : Nat × Si42.Ask), y ∈ (l.take n).foldl onceS [] → y ∈ l := by
  intro n y hy
  rw [once_eq] at hy
  exact List.mem_of_mem_take (once_sub _ _ hy)
def sp_once (T : Tp K mg) : Sp := spR fun vs H P => ∃ am as ms nn l, vs = [.ref am, .ref nn] ∧ MarksAt T H H am as ms ∧ H nn = some (.lst (nl ((l : List (Nat × Si42.Ask)).map (·.1)))) ∧ (∀ x ∈ l, x ∈ Si42.opens ms) ∧ l.length ≤ 60 ∧
  P = fun p H2 => H2 p = some (.lst (nl ((Si42.once l).map (·.1))))
theorem once_len (l : List (Nat × Si42.Ask)) : ((l.foldl onceS []).length) ≤ l.length := by
  have key : ∀ (l acc : List (Nat × Si42.Ask)), (l.foldl onceS acc).length ≤ acc.length + l.length := by
    intro l
    induction l with
    | nil => intro acc; exact Nat.le_refl _
    | cons x l ih =>
      intro acc
      rw [List.foldl_cons, List.length_cons]
      have := ih (onceS acc x)
      have h2 : (onceS acc x).length ≤ acc.length + 1 := by
        unfold onceS
        split
        · omega
        · rw [List.length_append]; simp
      omega
  have := key l []
  simpa using this
-- slots: marks 0, numbers 1, found 2, number 3, one 4
theorem ok_once (T : Tp K mg) : FnOk P w K mg base CX0 2 T.once.f T.once.fd P_once (sp_once T) := by
  refine T.once.F.ok sc_once (fun vs H Q E h => ?_) (fun cdv A outer s H vs Q E hr h => ⟨_, (pss_cons (ps_set (i := 2) sc_once.nd rfl (.inl rfl) (pe_lst pa_nil))
    (pss_cons (ps_for PassesOwn.never rfl (pi_list (pv 1)) (pg_name (i := 3) sc_once.nd rfl (.inr rfl)) (pss_one (ps_if (pt_cmpR (op_eqD hr.units) (pe_lc (own := [("one", 4)]) (g := (gName 4)) (tt := (tB (tCall (sp_are_same T) [] E0 (tCons (tOp (rIxL K) (tVar 0) (tVar 4)) (tCons (tOp (rIxL K) (tVar 0) (tVar 3)) tNil))))) (te := (tVar 4)) rfl sc_once.nd (pi_list (pv 2)) (blkOk_by (own := [("one", 4)]) (N := N_once) (sc := defScope s_once) (by decide +kernel)) (fun _ _ _ _ _ => (pg_name (i := 4) sc_once.nd rfl (.inl rfl))) (fun _ _ _ _ _ => (pts_one (pt_val (pe_call (ok_are_same T) (hr.mono (by decide)) rfl T.are_same.g T.are_same.F.kp T.are_same.b .nil pass0 (pa_cons (pe_ix ix_list (pv 0) (pv 4) (fun _ _ => rfl)) (pa_cons (pe_ix ix_list (pv 0) (pv 3) (fun _ _ => rfl)) pa_nil)))))) (fun _ _ _ _ _ => (pv 4))) (pe_lst pa_nil) (nomark _)) (pss_one (ps_expr (pe_bm PySem.F.plainAttrs_list PySem.F.slot_list_append PySem.F.type_list_append mt_append (pv 2) (pa_cons (pv 3) pa_nil)))) pss_nil)))
    (pss_one (ps_ret (pv 2))))), ?_⟩)
  · obtain ⟨v, ⟨am, as, ms, nn, l, rfl, _⟩, _⟩ := h
    rfl
  · obtain ⟨P', ⟨am, as, ms, nn, l, rfl, hM, hN, hsub, hl, rfl⟩, k⟩ := h
    refine q_asgL (el_lst ea_nil (by decide)) fun fd H1 n1 e1 h1 => ?_
    refine q_forLn (ev_var rfl) (sq_of (e1 _ _ hN)) (fun i σ' H' => Ex H (Off [fd] H') ∧ (∃ x y, σ' = [some (.ref am), some (.ref nn), some (.ref fd), x, y]) ∧ H' fd = some (.lst (nl (((l.take i).foldl onceS []).map (·.1))))) ?h0 ?hl ?hs ?hd
    case h0 =>
      intro H2 e2
      exact ⟨off_of (e1.trans e2) (by simp [n1]), ⟨_, _, rfl⟩, e2 _ _ h1⟩
    case hl =>
      rintro i σ' H' _ ⟨p1, _⟩
      exact sq_of ((p1.trans (off_le _ _)) _ _ hN)
    case hd =>
      rintro σ' H' ⟨p1, ⟨x, y, rfl⟩, p2⟩
      rw [nl_len, List.length_map, List.take_length, once_eq] at p2
      exact s_ret (ev_var rfl) fun H2 e2 => k fd H2 n1 ((p1.trans (off_le _ _)).trans e2) (e2 _ _ p2)
    case hs =>
      rintro i v σ' H' hv ⟨p1, ⟨x, y, rfl⟩, p2⟩
      unfold nl at hv
      rw [List.getElem?_map, List.getElem?_map] at hv
      cases hx : l[i]? with
      | none => rw [hx] at hv; cases hv
      | some xi =>
        rw [hx] at hv
        have hv' : V.int (xi.1 : Int) = v := Option.some.inj hv
        subst hv'
        have hxm := hsub xi (List.mem_of_getElem? hx)
        have eH : Ex H H' := p1.trans (off_le _ _)
        have hcl : ((l.take i).foldl onceS []).length ≤ 60 := by
          have := once_len (l.take i)
          rw [List.length_take] at this
          omega
        refine s_when (b := decide (((List.range ((l.take i).foldl onceS []).length).filter (sameC ((l.take i).foldl onceS []) xi)).map (numC ((l.take i).foldl onceS [])) = [])) (et_test (ev_opLL (el_lcL (sameC ((l.take i).foldl onceS []) xi) (fun j => V.int (numC ((l.take i).foldl onceS []) j)) (ev_var rfl) (sq_of p2) (by rw [nl_len, List.length_map]; omega) (fun _ => rfl) (fun j v H1 e hj => ?_) (fun j v H1 e hj hf => ?_)) (el_lst ea_nil (by decide)) (fun p q H1 hp hq e => ?_)))
          (fun hb H2 e2 => ?_) (fun hb H2 e2 => ?_)
        · unfold nl at hj
          rw [List.getElem?_map, List.getElem?_map] at hj
          cases hy : ((l.take i).foldl onceS [])[j]? with
          | none => rw [hy] at hj; cases hj
          | some yj =>
            rw [hy] at hj
            have hv : V.int (yj.1 : Int) = v := Option.some.inj hj
            subst hv
            have hym := hsub yj (onceS_sub i yj (List.mem_of_getElem? hy))
            have eM : Ex H H1 := eH.trans e
            obtain ⟨ay, ry, hay, oy⟩ := marks_get (hM.ex eM eM) hym
            obtain ⟨ax, rx, hax, ox⟩ := marks_get (hM.ex eM eM) hxm
            refine et_is' (et_B (ev_callV (ea_cons (ev_at (ev_var rfl) (ev_var rfl) (sq_of (eM _ _ hM.1)) hay) (ea_cons (ev_at (ev_var rfl) (ev_var rfl) (sq_of (eM _ _ hM.1)) hax) ea_nil)) (fun H5 e5 => ⟨ay, ax, ry, rx, yj.2, xi.2, rfl, oy.ex e5 e5, ox.ex e5 e5, rfl⟩))) ?_
            unfold sameC
            rw [hy]
        · unfold nl at hj
          rw [List.getElem?_map, List.getElem?_map] at hj
          cases hy : ((l.take i).foldl onceS [])[j]? with
          | none => rw [hy] at hj; cases hj
          | some yj =>
            rw [hy] at hj
            have hv : V.int (yj.1 : Int) = v := Option.some.inj hj
            subst hv
            refine ev_is (ev_var rfl) ?_
            show V.int (yj.1 : Int) = V.int (numC ((l.take i).foldl onceS []) j)
            unfold numC
            rw [hy]
        · have eg : given (nl (((l.take i).foldl onceS []).map (·.1))).length (sameC ((l.take i).foldl onceS []) xi) (fun j => V.int (numC ((l.take i).foldl onceS []) j)) = (((List.range ((l.take i).foldl onceS []).length).filter (sameC ((l.take i).foldl onceS []) xi)).map (numC ((l.take i).foldl onceS []))).map V.int := by
            unfold given
            rw [nl_len, List.length_map, List.map_map]
            rfl
          rw [eg] at hp
          exact rv_eqL (sq_of hp) (sq_of (show H1 q = some (.lst (([] : List Int).map V.int)) from hq))
        · have ho := (same_any _ _).mp (of_decide_eq_true hb)
          refine s_app (e2 _ _ p2) (ev_var rfl) (ev_var rfl) (by rw [nl_len, List.length_map]; omega) fun H3 e3 => ⟨?_, ⟨_, _, rfl⟩, ?_⟩
          · rw [off_upd (by simp)]
            exact p1.trans (off_ex (e2.trans e3))
          · rw [upd_same, take_next hx, List.foldl_append, List.foldl_cons, List.foldl_nil]
            unfold onceS
            rw [if_neg (by unfold onceS at ho; rw [ho]; decide), List.map_append, nl_app]
            rfl
        · have ho : (((l.take i).foldl onceS []).any fun y => decide (y.2 = xi.2)) = true := by
            cases e : (((l.take i).foldl onceS []).any fun y => decide (y.2 = xi.2)) with
            | true => rfl
            | false => exact absurd ((same_any _ _).mpr e) (of_decide_eq_false hb)
          refine ⟨p1.trans (off_ex e2), ⟨_, _, rfl⟩, ?_⟩
          rw [take_next hx, List.foldl_append, List.foldl_cons, List.foldl_nil]
          have e : onceS ((l.take i).foldl onceS []) xi = (l.take i).foldl onceS [] := by
            rw [onceS, if_pos ho]
          rw [e]
          exact e2 _ _ p2
/-! ### who takes -/
def DictAt (H : Hp) (d : Addr) (f : Nat → Option V) (N : Nat) : Prop := ∃ kvs : List (Key × V), H d = some (.dK kvs) ∧ (∀ p : Nat, valV kvs (.inl (p : Int)) = f p) ∧ kvs.length ≤ N
def tkV (l : List (Nat × Si42.Ask)) (p : Nat) : Option V := (tkF l p).map fun x => V.int (x.1 : Int)
def sp_takers (T : Tp K mg) : Sp := spR fun vs H P => ∃ am as ms nn l n, vs = [.ref am, .ref nn] ∧ MarksAt T H H am as ms ∧ H nn = some (.lst (nl ((l : List (Nat × Si42.Ask)).map (·.1)))) ∧ (∀ x ∈ l, x ∈ Si42.opens ms) ∧ l.length ≤ 60 ∧ n ≤ 200 ∧ WfO n ms ∧
  P = fun p H2 => ∃ N, DictAt H2 p (tkV l) N
theorem taken_kind {n : Nat} {q : Si42.Ask} (h : AskWf n q) (hk : akKind q ≠ 1) : Si42.taken q = (akI q, akJ q) := by
  cases q with
  | change i j w => rfl
  | keep i j => simp [akKind] at hk
  | move i j k => rfl
-- slots: marks 0, numbers 1, found 2, number 3, place 4
theorem ok_takers (T : Tp K mg) : FnOk P w K mg base CX0 1 T.takers.f T.takers.fd P_takers (sp_takers T) := by
  refine T.takers.F.ok sc_takers (fun vs H Q E h => ?_) (fun cdv A outer s H vs Q E hr h => ⟨_, (pss_cons (ps_set (i := 2) sc_takers.nd rfl (.inl rfl) pe_dnewK)
    (pss_cons (ps_for PassesOwn.never rfl (pi_list (pv 1)) (pg_name (i := 3) sc_takers.nd rfl (.inl rfl)) (pss_one (ps_if (pt_cmpR op_ne (pe_fld (pe_ix ix_list (pv 0) (pv 3) (fun _ _ => rfl)) rfl) (pe_glob (v := .int 1) rfl T.kKEEP ⟨_, rfl⟩) (nomark _)) (pss_one (ps_for PassesOwn.never rfl (pi_range2 rfl T.nrange (pa_cons (pe_fld (pe_ix ix_list (pv 0) (pv 3) (fun _ _ => rfl)) rfl) (pa_cons (pe_fld (pe_ix ix_list (pv 0) (pv 3) (fun _ _ => rfl)) rfl) pa_nil))) (pg_name (i := 4) sc_takers.nd rfl (.inl rfl)) (pss_one (ps_dput (hu_of hr) (pv 2) (pv 4) (pv 3) rfl)))) pss_nil)))
    (pss_one (ps_ret (pv 2))))), ?_⟩)
  · obtain ⟨v, ⟨am, as, ms, nn, l, n, rfl, _⟩, _⟩ := h
    rfl
  · obtain ⟨P', ⟨am, as, ms, nn, l, n, rfl, hM, hN, hsub, hl, hn, hwf, rfl⟩, k⟩ := h
    refine q_asgR er_dnew fun fd H1 n1 e1 h1 => ?_
    refine q_forLn (ev_var rfl) (sq_of (e1 _ _ hN)) (fun i σ' H' => Ex H (Off [fd] H') ∧ (∃ x y, σ' = [some (.ref am), some (.ref nn), some (.ref fd), x, y]) ∧ DictAt H' fd (tkV (l.take i)) (200 * i)) ?h0 ?hl ?hs ?hd
    case h0 =>
      intro H2 e2
      exact ⟨off_of (e1.trans e2) (by simp [n1]), ⟨_, _, rfl⟩, [], e2 _ _ h1, fun p => rfl, Nat.zero_le _⟩
    case hl =>
      rintro i σ' H' _ ⟨p1, _⟩
      exact sq_of ((p1.trans (off_le _ _)) _ _ hN)
    case hd =>
      rintro σ' H' ⟨p1, ⟨x, y, rfl⟩, kvs, p2, p3, p4⟩
      rw [nl_len, List.length_map, List.take_length] at p3
      exact s_ret (ev_var rfl) fun H2 e2 => k fd H2 n1 ((p1.trans (off_le _ _)).trans e2) ⟨_, kvs, e2 _ _ p2, p3, p4⟩
    case hs =>
      rintro i v σ' H' hv ⟨p1, ⟨x, y, rfl⟩, kvs, p2, p3, p4⟩
      unfold nl at hv
      rw [List.getElem?_map, List.getElem?_map] at hv
      cases hx : l[i]? with
      | none => rw [hx] at hv; cases hv
      | some xi =>
        rw [hx] at hv
        have hv' : V.int (xi.1 : Int) = v := Option.some.inj hv
        subst hv'
        have hi60 : i < 60 := by
          have := (List.getElem?_eq_some_iff.mp hx).1
          omega
        have hxm := hsub xi (List.mem_of_getElem? hx)
        have eH : Ex H H' := p1.trans (off_le _ _)
        obtain ⟨ax, rx, hax, ox⟩ := marks_get (hM.ex eH eH) hxm
        obtain ⟨aw, pr, o1, w1⟩ := ox
        have hwx := hwf _ hxm
        have hAt : Ev (tOp (rIxL K) (tVar 0) (tVar 3)) [some (.ref am), some (.ref nn), some (.ref fd), some (.int (xi.1 : Int)), y] H' (.ref ax) := ev_at (ev_var rfl) (ev_var rfl) (sq_of (eH _ _ hM.1)) hax
        refine s_when (b := decide (akKind xi.2 ≠ 1)) (et_is' (et_test (ev_op (ev_fl T.Mark 0 o1 hAt) ev_c (rv_ne rfl))) ?_) (fun hb H2 e2 => ?_) (fun hb H2 e2 => ?_)
        · rw [dI']
          rw [Bool.eq_iff_iff]
          simp
          omega
        · have hb' := of_decide_eq_true hb
          have hij := hwx.ij
          have htk := taken_kind hwx hb'
          refine s_forR2 (lo := (akI xi.2 : Int)) (n := (akJ xi.2 : Int)) (ea_cons (Ev.mono e2 (ev_fl T.Mark 2 o1 hAt)) (ea_cons (Ev.mono e2 (ev_fl T.Mark 3 o1 hAt)) ea_nil)) ⟨by omega, by omega, by omega, by omega⟩
            (fun j σ' H'' => Ex H (Off [fd] H'') ∧ (∃ y, σ' = [some (.ref am), some (.ref nn), some (.ref fd), some (.int (xi.1 : Int)), y]) ∧ DictAt H'' fd (fun p => if akI xi.2 ≤ p ∧ p < akI xi.2 + j then some (.int (xi.1 : Int)) else tkV (l.take i) p) (200 * i + j)) ?g0 ?gs ?gd
          case g0 =>
            intro H3 e3
            refine ⟨p1.trans (off_ex (e2.trans e3)), ⟨_, rfl⟩, kvs, e3 _ _ (e2 _ _ p2), fun p => ?_, by omega⟩
            dsimp only
            rw [if_neg (by omega)]
            exact p3 p
          case gs =>
            rintro j σ' H'' hj ⟨q1, ⟨y, rfl⟩, kvs', q2, q3, q4⟩
            refine s_dput (ev_var rfl) (ev_var rfl) (ev_var rfl) q2 (by omega) fun H3 e3 => ⟨?_, ⟨_, rfl⟩, _, upd_same, fun p => ?_, ?_⟩
            · rw [off_upd (by simp)]
              exact q1.trans (off_ex e3)
            · dsimp only at q3 ⊢
              rw [valV_put, q3]
              by_cases c : p = akI xi.2 + j
              · subst c
                rw [if_pos (by congr 1), if_pos (by omega)]
              · rw [if_neg (by intro z; have := Sum.inl.inj z; omega)]
                by_cases c2 : akI xi.2 ≤ p ∧ p < akI xi.2 + j
                · rw [if_pos c2, if_pos (by omega)]
                · rw [if_neg c2, if_neg (by omega)]
            · have := putK_len1 (.inl ((akI xi.2 : Int) + (j : Int))) (.int (xi.1 : Int)) kvs'
              omega
          case gd =>
            rintro σ' H'' ⟨q1, ⟨y, rfl⟩, kvs', q2, q3, q4⟩
            refine ⟨q1, ⟨_, _, rfl⟩, kvs', q2, fun p => ?_, ?_⟩
            · dsimp only at q3 ⊢
              rw [q3, take_next hx]
              unfold tkV
              rw [tkF_snoc]
              unfold takes
              rw [htk]
              by_cases c : akI xi.2 ≤ p ∧ p < akJ xi.2
              · rw [if_pos (by omega), if_pos (by simp; exact c)]
                rfl
              · rw [if_neg (by omega), if_neg (by simpa using c)]
            · have : ((akJ xi.2 : Int) - (akI xi.2 : Int)).toNat ≤ 200 := by omega
              omega
        · have hk : akKind xi.2 = 1 := by
            have := of_decide_eq_false hb
            omega
          refine ⟨p1.trans (off_ex e2), ⟨_, _, rfl⟩, kvs, e2 _ _ p2, fun p => ?_, by omega⟩
          rw [p3, take_next hx]
          unfold tkV
          rw [tkF_snoc, if_neg]
          cases hq : xi.2 with
          | keep i j =>
            intro hc
            simp only [takes, Bool.and_eq_true, decide_eq_true_eq] at hc
            rw [hq] at hc
            simp only [Si42.taken] at hc
            omega
          | change i j w => rw [hq] at hk; simp [akKind] at hk
          | move i j k => rw [hq] at hk; simp [akKind] at hk
end
end Pf

end
section
set_option Elab.async false
set_option linter.all false
set_option maxRecDepth 100000
set_option maxHeartbeats 4000000
/-! What is put into a gap; all carried out. -/
namespace Pf
open PySem PySem.Spec PyProof.Rows L2 Evl
section
variable {P : Program} {w : World} {K : PySem.W.Frag} {mg : Str → Option Value} {base : Heap}
theorem InsAt.off {H : Hp} {a C D : Addr} {nm : List Str} {vs : List V} {l : List V} (h : InsAt H a C nm vs) (hD : H D = some (.lst l)) : InsAt (Off [D] H) a C nm vs := by
  obtain ⟨h1, dx, h2⟩ := h
  refine ⟨h1, dx, ?_⟩
  rw [off_out]
  · exact h2
  · simp
    intro e
    rw [e, hD] at h2
    cases h2
theorem InsAt.offN {H : Hp} {a C : Addr} {F : List Addr} {nm : List Str} {vs : List V} (h : InsAt H a C nm vs) (hF : a ∉ F) : InsAt (Off F H) a C nm vs := by
  obtain ⟨h1, dx, h2⟩ := h
  exact ⟨h1, dx, by rw [off_out hF]; exact h2⟩
theorem nwQ_at (m : Nat) : ∀ (w : List Nat) (n o i : Nat) (x : Tw), (nwQ m n o w)[i]? = some x → ∃ v, w[i]? = some v ∧ x = (⟨n + i, v, some m⟩, o + i)
  | [], n, o, i, x, h => by simp [nwQ] at h
  | a :: w, n, o, 0, x, h => by
    have : (⟨n, a, some m⟩, o) = x := by simpa [nwQ] using h
    exact ⟨a, rfl, this.symm⟩
  | a :: w, n, o, i + 1, x, h => by
    obtain ⟨v, h1, h2⟩ := nwQ_at m w (n + 1) (o + 1) i x (by simpa [nwQ] using h)
    refine ⟨v, by simpa using h1, ?_⟩
    rw [h2, show n + 1 + i = n + (i + 1) by omega, show o + 1 + i = o + (i + 1) by omega]
/-- the marks' words are few -/
def WdO (ms : List Si42.Mark) : Prop := ∀ x ∈ Si42.opens ms, (akW x.2).length ≤ 40
theorem putOne_len {P : Tx} {n o g : Nat} {x : Nat × Si42.Ask} (hP : P.length ≤ 100) (h : (akW x.2).length ≤ 40) : (putOne P n o g x).length ≤ 100 := by
  obtain ⟨m, a⟩ := x
  cases a with
  | change i j w =>
    unfold putOne
    simp only
    split
    · rw [nwQ_len]
      have : w.length ≤ 40 := h
      omega
    · exact Nat.zero_le _
  | keep i j => exact Nat.zero_le _
  | move i j k =>
    unfold putOne
    simp only
    split
    · rw [List.length_take, List.length_drop]; omega
    · exact Nat.zero_le _
def sp_put_at (T : Tp K mg) : Sp := spR fun vs H P => ∃ F ta ats Q am as ms nn l n0 n o g, vs = [.ref ta, .ref am, .ref nn, .int ((g : Nat) : Int), .int ((o : Nat) : Int)] ∧ (∀ a ∈ F, ∃ o, H a = some o) ∧ H ta = some (.lst (ats.map V.ref)) ∧ Al2 (WordAt T (Off F H)) ats Q ∧ Q.length ≤ 100 ∧ MarksAt T H H am as ms ∧
  H nn = some (.lst (nl ((l : List (Nat × Si42.Ask)).map (·.1)))) ∧ (∀ x ∈ l, x ∈ Si42.opens ms) ∧ l.length ≤ 60 ∧ WfO Q.length ms ∧ WdO ms ∧ n = (n0 : Nat) ∧
  P = fun p H2 => ∃ bs : List Addr, H2 p = some (.lst (bs.map V.ref)) ∧ Al2 (WordAt T (Off F H2)) bs (putAll Q n o g l)
-- slots: text 0, marks 1, numbers 2, gap 3, own 4, found 5, number 6, mark 7, at 8, value 9
theorem ok_put_at (T : Tp K mg) : FnOk P w K mg base CX0 3 T.put_at.f T.put_at.fd P_put_at (sp_put_at T) := by
  refine T.put_at.F.ok sc_put_at (fun vs H Q E h => ?_) (fun cdv A outer s H vs Q E hr h => ⟨_, (pss_cons (ps_set (i := 5) sc_put_at.nd rfl (.inl rfl) (pe_lst pa_nil))
    (pss_cons (ps_for PassesOwn.never rfl (pi_list (pv 2)) (pg_name (i := 6) sc_put_at.nd rfl (.inr rfl)) (pss_cons (ps_set (i := 7) sc_put_at.nd rfl (.inl rfl) (pe_ix ix_list (pv 1) (pv 6) (fun _ _ => rfl)))
    (pss_cons (ps_if (PW.pt (pw_and (pt_cmpR op_eq (pe_fld (pv 7) rfl) (pe_glob (v := .int 0) rfl T.kCHANGE ⟨_, rfl⟩) (nomark _)) (pw_and1 (pt_cmpR op_eq (pe_fld (pv 7) rfl) (pv 3) (nomark _))))) (pss_one (ps_expr (pe_bm PySem.F.plainAttrs_list PySem.F.slot_list_extend PySem.F.type_list_extend mt_extend (pv 5) (pa_cons (pe_lc (own := [("at", 8), ("value", 9)]) (g := (g2 K 8 9)) (tt := tYes) (te := (tMake T.Word.C (sp_Word_init T) [] E0 (tCons (tVar 9) (tCons (tOp (rI0 fun i j => .int (i + j)) (tVar 4) (tVar 8)) (tCons (tUn (rU fun i => .int (-i)) (tC (.int 1))) (tCons (tVar 6) tNil)))))) rfl sc_put_at.nd (pi_enum rfl T.nenumerate (pa_cons (pe_fld (pv 7) rfl) pa_nil)) (blkOk_by (own := [("at", 8), ("value", 9)]) (N := N_put_at) (sc := defScope s_put_at) (by decide +kernel)) (fun _ _ _ _ _ => (pg_tup rfl (pgs_cons (pg_name (i := 8) sc_put_at.nd rfl (.inl rfl)) (pgs_cons (pg_name (i := 9) sc_put_at.nd rfl (.inl rfl)) pgs_nil)))) (fun _ _ _ _ _ => pts_nil) (fun _ _ _ _ _ => (pe_make T.Word.mkd (ok_Word_init T) (hr.mono (by decide)) rfl T.Word.g T.Word.b .nil pass0 (pa_cons (pv 9) (pa_cons (pe_op op_add (pv 4) (pv 8)) (pa_cons (pe_un un_neg pe_int) (pa_cons (pv 6) pa_nil))))))) pa_nil)))) pss_nil)
    (pss_one (ps_if (PW.pt (pw_and (pt_cmpR op_eq (pe_fld (pv 7) rfl) (pe_glob (v := .int 2) rfl T.kMOVE ⟨_, rfl⟩) (nomark _)) (pw_and1 (pt_cmpR op_eq (pe_fld (pv 7) rfl) (pv 3) (nomark _))))) (pss_one (ps_expr (pe_bm PySem.F.plainAttrs_list PySem.F.slot_list_extend PySem.F.type_list_extend mt_extend (pv 5) (pa_cons (pe_slice sl_list (pv 0) (po_some (pe_fld (pv 7) rfl)) (po_some (pe_fld (pv 7) rfl))) pa_nil)))) pss_nil)))))
    (pss_one (ps_ret (pv 5))))), ?_⟩)
  · obtain ⟨v, ⟨F, ta, ats, Q', am, as, ms, nn, l, n0, n, o, g, rfl, _⟩, _⟩ := h
    rfl
  · obtain ⟨P', ⟨F, ta, ats, Q', am, as, ms, nn, l, n0, n, o, g, rfl, hF, hT, hA, hQ, hM, hN, hsub, hl, hwf, hwd, hn, rfl⟩, k⟩ := h
    refine q_asgL (el_lst ea_nil (by decide)) fun fd H1 n1 e1 h1 => ?_
    refine q_forLn (ev_var rfl) (sq_of (e1 _ _ hN)) (fun i σ' H' => Ex H (Off [fd] H') ∧ (∃ x y z u, σ' = [some (.ref ta), some (.ref am), some (.ref nn), some (.int (g : Int)), some (.int (o : Int)), some (.ref fd), x, y, z, u]) ∧
      ∃ bs : List Addr, H' fd = some (.lst (bs.map V.ref)) ∧ Al2 (WordAt T (Off F (Off [fd] H'))) bs (putAll Q' n o g (l.take i)) ∧ bs.length ≤ 100 * i) ?h0 ?hl ?hs ?hd
    case h0 =>
      intro H2 e2
      exact ⟨off_of (e1.trans e2) (by simp [n1]), ⟨_, _, _, _, rfl⟩, [], e2 _ _ h1, Al2.nil, Nat.zero_le _⟩
    case hl =>
      rintro i σ' H' _ ⟨p1, _⟩
      exact sq_of ((p1.trans (off_le _ _)) _ _ hN)
    case hd =>
      rintro σ' H' ⟨p1, ⟨x, y, z, u, rfl⟩, bs, p2, p3, p4⟩
      rw [nl_len, List.length_map, List.take_length] at p3
      exact s_ret (ev_var rfl) fun H2 e2 => k fd H2 n1 ((p1.trans (off_le _ _)).trans e2) ⟨bs, e2 _ _ p2, p3.mono fun a b h => h.ex (off_ex ((off_le _ _).trans e2))⟩
    case hs =>
      rintro i v σ' H' hv ⟨p1, ⟨x, y, z, u, rfl⟩, bs, p2, p3, p4⟩
      unfold nl at hv
      rw [List.getElem?_map, List.getElem?_map] at hv
      cases hx : l[i]? with
      | none => rw [hx] at hv; cases hv
      | some xi =>
        rw [hx] at hv
        have hv' : V.int (xi.1 : Int) = v := Option.some.inj hv
        subst hv'
        have hi60 : i < 60 := by
          have := (List.getElem?_eq_some_iff.mp hx).1
          omega
        have hxm := hsub xi (List.mem_of_getElem? hx)
        have eH : Ex H H' := p1.trans (off_le _ _)
        obtain ⟨ax, rx, hax, ox⟩ := marks_get (hM.ex eH eH) hxm
        obtain ⟨aw, pr, o1, w1⟩ := ox
        have hwx := hwf _ hxm
        have hwl := hwd _ hxm
        have epa : putAll Q' n o g (l.take (i + 1)) = putAll Q' n o g (l.take i) ++ putOne Q' n o g xi := by
          unfold putAll
          rw [take_next hx, List.flatMap_append]
          simp
        have hpl := putOne_len (n := n) (o := o) (g := g) hQ hwl
        refine q_asg (ev_at (ev_var rfl) (ev_var rfl) (sq_of (eH _ _ hM.1)) hax) fun H2 e2 => ?_
        have o2 := o1.ex e2
        have w2 := e2 _ _ w1
        have p2' := e2 _ _ p2
        -- if mark.kind == CHANGE and mark.k == gap
        have tK : ∀ H3 (q : Int), InsAt H3 ax T.Mark.C flMark [V.int ↑(akKind xi.2), V.int ↑rx, V.int ↑(akI xi.2), V.int ↑(akJ xi.2), V.int ↑(akK xi.2), V.ref aw, V.int 0, V.int pr] →
            EvT (tAnd (tTest (tOp rEq (tFld K (tVar 7) "kind") (tC (.int q)))) (tTest (tOp rEq (tFld K (tVar 7) "k") (tVar 3)))) [some (.ref ta), some (.ref am), some (.ref nn), some (.int (g : Int)), some (.int (o : Int)), some (.ref fd), some (.int (xi.1 : Int)), some (.ref ax), z, u] H3 (decide ((akKind xi.2 : Int) = q ∧ akK xi.2 = g)) := by
          intro H3 q o3
          refine et_is' (et_and (et_test (ev_op (ev_fl T.Mark 0 o3 (ev_var rfl)) ev_c (rv_eq rfl))) (fun _ => et_test (ev_op (ev_fl T.Mark 4 o3 (ev_var rfl)) (ev_var rfl) (rv_eq rfl)))) ?_
          rw [dI', dI]
          simp
        refine q_when (tK H2 0 o2) (fun hb H3 e3 => ?_) (fun hb H3 e3 => ?_)
        · have hb' := of_decide_eq_true hb
          have hk0 : akKind xi.2 = 0 := by omega
          obtain ⟨i0, j0, ww, hxi⟩ : ∃ i0 j0 ww, xi.2 = .change i0 j0 ww := by
            cases hq : xi.2 with
            | change i0 j0 ww => exact ⟨i0, j0, ww, rfl⟩
            | keep _ _ => rw [hq] at hk0; simp [akKind] at hk0
            | move _ _ _ => rw [hq] at hk0; simp [akKind] at hk0
          have hpo : putOne Q' n o g xi = nwQ xi.1 n o ww := by
            unfold putOne
            rw [hxi]
            have : i0 = g := by have := hb'.2; rw [hxi] at this; exact this
            simp only [this, if_true]
          have hww : akW xi.2 = ww := by rw [hxi]; rfl
          rw [hww] at w2 w1 hwl
          refine s_ext (e3 _ _ p2') (ev_var rfl) (er_lcE (fun i a H => ∃ v, ww[i]? = some v ∧ a ∉ F ∧ WordAt T H a (⟨n + i, v, some xi.1⟩, o + i)) (fun i p H H' e ⟨v, h1, hn, h2⟩ => ⟨v, h1, hn, h2.ex e⟩) (fun i p D l H hD ⟨v, h1, hn, h2⟩ => ⟨v, h1, hn, InsAt.off h2 hD⟩)
            (ea_cons (ev_fl T.Mark 5 (o2.ex e3) (ev_var rfl)) ea_nil) (sq_of (e3 _ _ w2)) (by rw [nl_len]; omega) (fun x y => rfl) (fun j v H4 e4 hj => ?_)) fun p H4 n4 e4 h4 => ?_
          · unfold nl at hj
            rw [List.getElem?_map] at hj
            cases hy : ww[j]? with
            | none => rw [hy] at hj; cases hj
            | some vj =>
              rw [hy] at hj
              have hv : V.int (vj : Int) = v := Option.some.inj hj
              subst hv
              refine (er_makeA (ea_cons (ev_var rfl) (ea_cons (ev_op (ev_var rfl) (ev_var rfl) rv_I0) (ea_cons (ev_un ev_c ru_neg) (ea_cons (ev_var rfl) ea_nil)))) rfl).fresh.imp fun p H5 e5 ⟨np, h5⟩ => ⟨vj, rfl, fun z => ?_, ?_⟩
              · obtain ⟨u, hu⟩ := hF p z
                rw [((((eH.trans e2).trans e3).trans e4)) _ _ hu] at np
                cases np
              · unfold WordAt
                have e1 : firstOf (⟨n + j, vj, some xi.1⟩ : Si42.Token) = -1 := rfl
                have e2 : markOf (⟨n + j, vj, some xi.1⟩ : Si42.Token) = (xi.1 : Int) := rfl
                rw [e1, e2, show ((o + j : Nat) : Int) = (o : Int) + (j : Int) by omega]
                exact h5
          · obtain ⟨cs, hc1, hc2, hc3⟩ := h4
            have hcl : cs.length ≤ 40 := by rw [hc2, nl_len]; exact hwl
            refine ⟨cs.map V.ref, hc1, by rw [List.length_map, List.length_map]; omega, ?_⟩
            -- if mark.kind == MOVE: no
            have e4' : Ex (Off [fd] H') (Off [fd] (upd H4 fd (.lst (bs.map V.ref ++ cs.map V.ref)))) := by
              rw [off_upd (by simp)]
              exact off_ex ((e2.trans e3).trans e4)
            have o5 : InsAt (upd H4 fd (.lst (bs.map V.ref ++ cs.map V.ref))) ax T.Mark.C flMark [V.int ↑(akKind xi.2), V.int ↑rx, V.int ↑(akI xi.2), V.int ↑(akJ xi.2), V.int ↑(akK xi.2), V.ref aw, V.int 0, V.int pr] := (InsAt.off o1 p2).ex (e4'.trans (off_le _ _))
            refine s_when (tK _ 2 o5) (fun hb2 H6 e6 => ?_) (fun hb2 H6 e6 => ?_)
            · have := of_decide_eq_true hb2
              omega
            · refine ⟨p1.trans (e4'.trans (off_ex e6)), ⟨_, _, _, _, rfl⟩, bs ++ cs, by rw [e6 _ _ upd_same, List.map_append], ?_, by rw [List.length_append]; omega⟩
              rw [epa, hpo]
              refine Al2.append (p3.mono fun a b h => h.ex (off_ex (e4'.trans (off_ex e6)))) ⟨by rw [nwQ_len, hc2, nl_len], fun j a b ha hb => ?_⟩
              obtain ⟨v, h1, hn2, h2⟩ := hc3 j a ha
              obtain ⟨v', h3, rfl⟩ := nwQ_at _ _ _ _ _ _ hb
              rw [h1] at h3
              cases h3
              have hq := e4 _ _ (e3 _ _ p2')
              refine WordAt.ex (InsAt.offN (InsAt.off h2 hq) hn2) ?_
              have : Ex (Off [fd] H4) (Off [fd] (upd H4 fd (.lst (bs.map V.ref ++ cs.map V.ref)))) := by rw [off_upd (by simp)]; exact Ex.refl _
              exact off_ex (this.trans (off_ex e6))
        · have o3 := o2.ex e3
          refine s_when (tK H3 2 o3) (fun hb2 H4 e4 => ?_) (fun hb2 H4 e4 => ?_)
          · have hb' := of_decide_eq_true hb2
            have hk0 : akKind xi.2 = 2 := by omega
            obtain ⟨i0, j0, k0, hxi⟩ : ∃ i0 j0 k0, xi.2 = .move i0 j0 k0 := by
              cases hq : xi.2 with
              | move i0 j0 ww => exact ⟨i0, j0, ww, rfl⟩
              | keep _ _ => rw [hq] at hk0; simp [akKind] at hk0
              | change _ _ _ => rw [hq] at hk0; simp [akKind] at hk0
            have hpo : putOne Q' n o g xi = (Q'.drop i0).take (j0 - i0) := by
              unfold putOne
              rw [hxi]
              have : k0 = g := by have := hb'.2; rw [hxi] at this; exact this
              simp only [this, if_true]
            rw [hxi] at hwx
            have e03 : Ex H H4 := ((eH.trans e2).trans e3).trans e4
            have ecut : cutV (ats.map V.ref) (some (akI xi.2 : Int)) (some (akJ xi.2 : Int)) = ((ats.drop i0).take (j0 - i0)).map V.ref := by
              rw [hxi]
              show cutV (ats.map V.ref) (some (i0 : Int)) (some (j0 : Int)) = _
              rw [cutV_mid _ _ _ (Nat.le_of_lt hwx.1) (by rw [List.length_map, hA.1]; exact hwx.2.1), List.map_take, List.map_drop]
            refine s_ext (e4 _ _ (e3 _ _ p2')) (ev_var rfl) (evl_r (el_sl (ev_var rfl) (eo_some (ev_fl T.Mark 2 (o3.ex e4) (ev_var rfl))) (eo_some (ev_fl T.Mark 3 (o3.ex e4) (ev_var rfl))) (sq_of (e03 _ _ hT)))) fun p H5 n5 e5 h5 => ?_
            rw [ecut] at h5
            have hdl : ((ats.drop i0).take (j0 - i0)).length ≤ 100 := by
              rw [List.length_take, List.length_drop, hA.1]; omega
            refine ⟨_, h5, by rw [List.length_map, List.length_map]; omega, ?_⟩
            have e5' : Ex (Off [fd] H') (Off [fd] (upd H5 fd (.lst (bs.map V.ref ++ ((ats.drop i0).take (j0 - i0)).map V.ref)))) := by
              rw [off_upd (by simp)]
              exact off_ex (((e2.trans e3).trans e4).trans e5)
            refine ⟨p1.trans e5', ⟨_, _, _, _, rfl⟩, bs ++ (ats.drop i0).take (j0 - i0), by rw [upd_same, List.map_append], ?_, by rw [List.length_append]; omega⟩
            rw [epa, hpo]
            exact Al2.append (p3.mono fun a b h => h.ex (off_ex e5')) (((hA.drop i0).take (j0 - i0)).mono fun a b h => h.ex (off_ex (p1.trans e5')))
          · have hpo : putOne Q' n o g xi = [] := by
              have h1 := of_decide_eq_false hb
              have h2 := of_decide_eq_false hb2
              unfold putOne
              cases hq : xi.2 with
              | change i0 j0 w0 =>
                rw [hq] at h1
                simp only [akKind, akK] at h1
                simp only
                rw [if_neg]
                intro z
                exact h1 ⟨rfl, z⟩
              | keep i0 j0 => rfl
              | move i0 j0 k0 =>
                rw [hq] at h2
                simp only [akKind, akK] at h2
                simp only
                rw [if_neg]
                intro z
                exact h2 ⟨rfl, z⟩
            have e24 := (e2.trans e3).trans e4
            refine ⟨p1.trans (off_ex e24), ⟨_, _, _, _, rfl⟩, bs, e24 _ _ p2, ?_, by omega⟩
            rw [epa, hpo, List.append_nil]
            exact p3.mono fun a b h => h.ex (off_ex (off_ex e24))
end
end Pf

end
section
set_option Elab.async false
set_option linter.all false
set_option maxRecDepth 100000
set_option maxHeartbeats 4000000
/-! All carried out. -/
namespace Pf
open PySem PySem.Spec PyProof.Rows L2 Evl
abbrev flCarried : List Str := ["words", "gaps", "taken"]
theorem InsAt.offF {H : Hp} {a C : Addr} {F : List Addr} {nm : List Str} {vs : List V} (h : InsAt H a C nm vs) (hF : ∀ D ∈ F, ∃ l, H D = some (.lst l)) : InsAt (Off F H) a C nm vs := by
  obtain ⟨h1, dx, h2⟩ := h
  refine ⟨h1, dx, ?_⟩
  rw [off_out]
  · exact h2
  · intro z
    obtain ⟨l, hl⟩ := hF a z
    rw [hl] at h2
    cases h2
theorem tup_offF {H : Hp} {t : Addr} {F : List Addr} {xs : List V} (h : H t = some (.tup xs)) (hF : ∀ D ∈ F, ∃ l, H D = some (.lst l)) : Off F H t = some (.tup xs) := by
  rw [off_out]
  · exact h
  · intro z
    obtain ⟨l, hl⟩ := hF t z
    rw [hl] at h
    cases h
section
variable {K : PySem.W.Frag} {σ : L2.St} {H H' : Hp} {te ta tb : TE} {D : Ends} {tz : TS} {xs ys : List V}
/-- xs.extend(ys), a row that stands -/
theorem s_extV {l p : Addr} (hl : H l = some (.lst xs)) (ha : Ev ta σ H (.ref l)) (h : Ev te σ H (.ref p)) (hp : H p = some (.lst ys)) (hz : xs.length + ys.length ≤ 1000000) (k : ∀ H1, Ex H H1 → D.nx σ (upd H1 l (.lst (xs ++ ys)))) :
    tDrop (tBM K "list" rExtend ta (tCons te tNil)) D σ H := ha H (Ex.refl H) _ fun H1 e1 =>
  ⟨Or.inl ⟨rfl, xs, sq_of (e1 l _ hl)⟩, h H1 e1 _ fun H2 e2 => ⟨l, p, xs, ys, rfl, rfl, e2 l _ (e1 l _ hl), e2 _ _ (e1 _ _ hp), Nat.le_trans hz (by decide), k H2 (e1.trans e2)⟩⟩
theorem q_extV {l p : Addr} (hl : H l = some (.lst xs)) (ha : Ev ta σ H (.ref l)) (h : Ev te σ H (.ref p)) (hp : H p = some (.lst ys)) (hz : xs.length + ys.length ≤ 1000000) (k : ∀ H1, Ex H H1 → tz D σ (upd H1 l (.lst (xs ++ ys)))) :
    tSeq (tDrop (tBM K "list" rExtend ta (tCons te tNil))) tz D σ H := s_extV (D := { D with nx := tz D }) hl ha h hp hz k
end
section
variable {P : Program} {w : World} {K : PySem.W.Frag} {mg : Str → Option Value} {base : Heap}
def sp_Carried_init (T : Tp K mg) : Sp := spIN T.Carried.C 0 fun H p xs H' => ∃ a1 a2 a3, InsAt H' p T.Carried.C flCarried [.ref a1, .ref a2, .ref a3] ∧ H a1 = none ∧ H a2 = none ∧ H a3 = none ∧ a1 ≠ a2 ∧ a1 ≠ a3 ∧ a2 ≠ a3 ∧
  H' a1 = some (.lst []) ∧ H' a2 = some (.lst []) ∧ H' a3 = some (.lst [])
-- slots: self 0
theorem ok_Carried_init (T : Tp K mg) : FnOk P w K mg base CX0 1 T.Carried.fI T.Carried.fdI P_Carried_init (sp_Carried_init T) := by
  refine T.Carried.F.ok sc_Carried_init (fun vs H Q E h => ?_) (fun cdv A outer s H vs Q E hr h => ⟨_, (pss_cons (ps_fld (pv 0) (pe_lst pa_nil) rfl)
    (pss_cons (ps_fld (pv 0) (pe_lst pa_nil) rfl)
    (pss_one (ps_fld (pv 0) (pe_lst pa_nil) rfl)))), ?_⟩)
  · obtain ⟨p, dx, xs, rfl, hl, _⟩ := h
    simp [hl]
  · obtain ⟨p, dx, xs, rfl, hl, hp, k⟩ := h
    match xs, hl with
    | [], _ =>
      refine q_new 0 T.Carried (vs := []) hp (fun H1 e => ev_var rfl) (EvR.toP (evl_r (el_lst ea_nil (by decide)))) fun y H1 H2 e1 hy e2 => ?_
      obtain ⟨a1, rfl, n1, h1⟩ := hy
      have k1 : Keep p H (upd H2 p (.ins T.Carried.C dx ((flCarried.take 1).zip ([] ++ [.ref a1])))) := Keep.step Keep.refl (e1.trans e2)
      have p1 : a1 ≠ p := fun z => by rw [z, hp] at n1; cases n1
      refine q_new 1 T.Carried upd_same (fun H1 e => ev_var rfl) (EvR.toP (evl_r (el_lst ea_nil (by decide)))) fun y H3 H4 e3 hy e4 => ?_
      obtain ⟨a2, rfl, n2, h2⟩ := hy
      have p2 : a2 ≠ p := fun z => by rw [z, upd_same] at n2; cases n2
      have p12 : a1 ≠ a2 := fun z => by rw [← z, upd_ne p1, e2 _ _ h1] at n2; cases n2
      have n2' : H a2 = none := by
        cases q : H a2 with
        | none => rfl
        | some o => rw [k1 _ _ q p2] at n2; cases n2
      have k2 : Keep p H (upd H4 p (.ins T.Carried.C dx ((flCarried.take 2).zip ([] ++ [.ref a1] ++ [.ref a2])))) := Keep.step k1 (e3.trans e4)
      refine s_new 2 T.Carried upd_same (fun H1 e => ev_var rfl) (EvR.toP (evl_r (el_lst ea_nil (by decide)))) fun y H5 H6 e5 hy e6 => ?_
      obtain ⟨a3, rfl, n3, h3⟩ := hy
      have p3 : a3 ≠ p := fun z => by rw [z, upd_same] at n3; cases n3
      have g2 : (upd H2 p (.ins T.Carried.C dx ((flCarried.take 1).zip ([] ++ [.ref a1])))) a1 = some (.lst []) := by rw [upd_ne p1]; exact e2 _ _ h1
      have g4 : ∀ a, (a = a1 ∨ a = a2) → (upd H4 p (.ins T.Carried.C dx ((flCarried.take 2).zip ([] ++ [.ref a1] ++ [.ref a2])))) a = some (.lst []) := fun a ha => by
        rcases ha with rfl | rfl
        · rw [upd_ne p1]; exact (e3.trans e4) _ _ g2
        · rw [upd_ne p2]; exact e4 _ _ h2
      have p13 : a1 ≠ a3 := fun z => by rw [← z, g4 _ (Or.inl rfl)] at n3; cases n3
      have p23 : a2 ≠ a3 := fun z => by rw [← z, g4 _ (Or.inr rfl)] at n3; cases n3
      have n3' : H a3 = none := by
        cases q : H a3 with
        | none => rfl
        | some o => rw [k2 _ _ q p3] at n3; cases n3
      refine k _ (Keep.step k2 (e5.trans e6)) ⟨a1, a2, a3, ⟨rfl, dx, upd_same⟩, n1, n2', n3', p12, p13, p23, ?_, ?_, ?_⟩
      · rw [upd_ne p1]; exact (e5.trans e6) _ _ (g4 _ (Or.inl rfl))
      · rw [upd_ne p2]; exact (e5.trans e6) _ _ (g4 _ (Or.inr rfl))
      · rw [upd_ne p3]; exact e6 _ _ h3
def TkAt (T : Tp K mg) (H : Hp) (t : Addr) (x : Tw × Nat) : Prop := ∃ wd : Addr, H t = some (.tup [.ref wd, .int (x.2 : Int)]) ∧ WordAt T H wd x.1
theorem TkAt.ex {T : Tp K mg} {H H' : Hp} {t : Addr} {x : Tw × Nat} (h : TkAt T H t x) (e : Ex H H') : TkAt T H' t x := by
  obtain ⟨wd, h1, h2⟩ := h
  exact ⟨wd, e _ _ h1, h2.ex e⟩
/-- what carried gives back -/
def CarrAt (T : Tp K mg) (H : Hp) (c : Addr) (Q : Tx) (l : List (Nat × Si42.Ask)) (n0 o0 : Nat) : Prop := ∃ (wa ga ka : Addr) (bs ts : List Addr), InsAt H c T.Carried.C flCarried [.ref wa, .ref ga, .ref ka] ∧
  H wa = some (.lst (bs.map V.ref)) ∧ Al2 (WordAt T H) bs (wpre Q l n0 o0 (Q.length + 1)) ∧ H ga = some (.lst (nl ((List.range (Q.length + 1)).map (gapQ Q l n0 o0)))) ∧ H ka = some (.lst (ts.map V.ref)) ∧ Al2 (TkAt T H) ts (tkL Q l (Q.length + 1))
theorem CarrAt.ex {T : Tp K mg} {H H' : Hp} {c : Addr} {Q : Tx} {l : List (Nat × Si42.Ask)} {n0 o0 : Nat} (h : CarrAt T H c Q l n0 o0) (e : Ex H H') : CarrAt T H' c Q l n0 o0 := by
  obtain ⟨wa, ga, ka, bs, ts, h1, h2, h3, h4, h5, h6⟩ := h
  exact ⟨wa, ga, ka, bs, ts, h1.ex e, e _ _ h2, h3.mono fun _ _ k => k.ex e, e _ _ h4, e _ _ h5, h6.mono fun _ _ k => k.ex e⟩
def sp_carried (T : Tp K mg) : Sp := spR fun vs H P => ∃ F ta ats Q am as ms nn l n0 o0, vs = [.ref ta, .ref am, .ref nn, .int ((o0 : Nat) : Int)] ∧ (∀ a ∈ F, ∃ o, H a = some o) ∧ H ta = some (.lst (ats.map V.ref)) ∧ Al2 (WordAt T (Off F H)) ats Q ∧ Q.length ≤ 100 ∧ MarksAt T H H am as ms ∧
  H nn = some (.lst (nl ((l : List (Nat × Si42.Ask)).map (·.1)))) ∧ (∀ x ∈ l, x ∈ Si42.opens ms) ∧ l.length ≤ 60 ∧ ms.length ≤ 60 ∧ WfO Q.length ms ∧ WdO ms ∧ Apt l ∧
  P = fun p H2 => CarrAt T (Off F H2) p Q (Si42.once l) (n0 : Nat) o0
theorem Off_Off (F G : List Addr) (H : Hp) : Off F (Off G H) = Off (G ++ F) H := by
  funext b
  by_cases h1 : b ∈ F
  · rw [off_in h1, off_in (by simp [h1])]
  · rw [off_out h1]
    by_cases h2 : b ∈ G
    · rw [off_in h2, off_in (by simp [h2])]
    · rw [off_out h2, off_out (by simp [h1, h2])]
theorem putQ_le {P : Tx} {n o : Nat} {p : Option (Nat × Si42.Ask)} (hP : P.length ≤ 100) (h : ∀ x, p = some x → (akW x.2).length ≤ 40) : (putQ P n o p).length ≤ 100 := by
  cases p with
  | none => simp [putQ]
  | some x =>
    have := h x rfl
    obtain ⟨m, a⟩ := x
    cases a with
    | change i j w =>
      simp only [putQ, nwQ_len]
      have : w.length ≤ 40 := this
      omega
    | keep i j => simp [putQ]
    | move i j k =>
      simp only [putQ, List.length_take, List.length_drop]
      omega
-- slots: text 0, marks 1, numbers 2, own 3, alone 4, taken 5, found 6, gap 7, put 8
theorem ok_carried (T : Tp K mg) : FnOk P w K mg base CX0 4 T.carried.f T.carried.fd P_carried (sp_carried T) := by
  refine T.carried.F.ok sc_carried (fun vs H Q E h => ?_) (fun cdv A outer s H vs Q E hr h => ⟨_, (pss_cons (ps_set (i := 4) sc_carried.nd rfl (.inl rfl) (pe_call (ok_once T) (hr.mono (by decide)) rfl T.once.g T.once.F.kp T.once.b .nil pass0 (pa_cons (pv 1) (pa_cons (pv 2) pa_nil))))
    (pss_cons (ps_set (i := 5) sc_carried.nd rfl (.inl rfl) (pe_call (ok_takers T) (hr.mono (by decide)) rfl T.takers.g T.takers.F.kp T.takers.b .nil pass0 (pa_cons (pv 1) (pa_cons (pv 4) pa_nil))))
    (pss_cons (ps_set (i := 6) sc_carried.nd rfl (.inl rfl) (pe_make0 T.Carried.mkd (ok_Carried_init T) (hr.mono (by decide)) rfl T.Carried.g T.Carried.b .nil pass0))
    (pss_cons (ps_for PassesOwn.never rfl (pi_range1 rfl T.nrange (pa_cons (pe_op op_add (pe_callB call_len_seq rfl T.nlen PySem.boot_len (pa_cons (pv 0) pa_nil)) pe_int) pa_nil)) (pg_name (i := 7) sc_carried.nd rfl (.inl rfl)) (pss_cons (ps_set (i := 8) sc_carried.nd rfl (.inl rfl) (pe_call (ok_put_at T) (hr.mono (by decide)) rfl T.put_at.g T.put_at.F.kp T.put_at.b .nil pass0 (pa_cons (pv 0) (pa_cons (pv 1) (pa_cons (pv 4) (pa_cons (pv 7) (pa_cons (pv 3) pa_nil)))))))
    (pss_cons (ps_expr (pe_bm PySem.F.plainAttrs_list PySem.F.slot_list_extend PySem.F.type_list_extend mt_extend (pe_fld (pv 6) rfl) (pa_cons (pv 8) pa_nil)))
    (pss_cons (ps_set (i := 3) sc_carried.nd rfl (.inl rfl) (pe_op op_add (pv 3) (pe_callB call_len_seq rfl T.nlen PySem.boot_len (pa_cons (pv 8) pa_nil))))
    (pss_cons (ps_expr (pe_bm PySem.F.plainAttrs_list PySem.F.slot_list_append PySem.F.type_list_append mt_append (pe_fld (pv 6) rfl) (pa_cons (pe_callB call_len_seq rfl T.nlen PySem.boot_len (pa_cons (pe_fld (pv 6) rfl) pa_nil)) pa_nil)))
    (pss_one (ps_if (pt_cmpR op_lt (pv 7) (pe_callB call_len_seq rfl T.nlen PySem.boot_len (pa_cons (pv 0) pa_nil)) (nomark _)) (pss_one (ps_if (pt_cmp (pc_dnotin (hu_of hr) (pv 7) (pv 5))) (pss_one (ps_expr (pe_bm PySem.F.plainAttrs_list PySem.F.slot_list_append PySem.F.type_list_append mt_append (pe_fld (pv 6) rfl) (pa_cons (pe_ix ix_list (pv 0) (pv 7) (fun _ _ => rfl)) pa_nil)))) (pss_one (ps_if (pt_cmpR op_eq (pe_fld (pe_ix ix_list (pv 1) (pe_dget (hu_of hr) (pv 5) (pv 7) (fun _ _ => rfl)) (fun _ _ => rfl)) rfl) (pe_glob (v := .int 0) rfl T.kCHANGE ⟨_, rfl⟩) (nomark _)) (pss_one (ps_expr (pe_bm PySem.F.plainAttrs_list PySem.F.slot_list_append PySem.F.type_list_append mt_append (pe_fld (pv 6) rfl) (pa_cons (pe_tup (pa_cons (pe_ix ix_list (pv 0) (pv 7) (fun _ _ => rfl)) (pa_cons (pe_dget (hu_of hr) (pv 5) (pv 7) (fun _ _ => rfl)) pa_nil))) pa_nil)))) pss_nil)))) pss_nil)))))))
    (pss_one (ps_ret (pv 6))))))), ?_⟩)
  · obtain ⟨v, ⟨F, ta, ats, Q', am, as, ms, nn, l, n0, o0, rfl, _⟩, _⟩ := h
    rfl
  · obtain ⟨P', ⟨F, ta, ats, Q', am, as, ms, nn, l, n0, o0, rfl, hF, hT, hA, hQ, hM, hN, hsub, hl, hml, hwf, hwd, hapt, rfl⟩, k⟩ := h
    have hsub' : ∀ x ∈ Si42.once l, x ∈ Si42.opens ms := fun x hx => hsub x (once_sub l x hx)
    have hl' : (Si42.once l).length ≤ 60 := by
      have := once_len l
      rw [once_eq] at this
      omega
    have hapt' : Apt (Si42.once l) := fun x hx y hy => hapt x (once_sub l x hx) y (once_sub l y hy)
    have hpw := once_pw l
    -- alone, taken, found
    refine q_asgR (er_callR (ea_cons (ev_var rfl) (ea_cons (ev_var rfl) ea_nil)) (fun H1 e => ⟨am, as, ms, nn, l, rfl, hM.ex e e, e _ _ hN, hsub, hl, rfl⟩)) fun al H1 n1 e1 h1 => ?_
    refine q_asgR (er_callR (ea_cons (ev_var rfl) (ea_cons (ev_var rfl) ea_nil)) (fun H2 e => ⟨am, as, ms, al, Si42.once l, Q'.length, rfl, hM.ex (e1.trans e) (e1.trans e), e _ _ h1, hsub', hl', by omega, hwf, rfl⟩)) fun td H2 n2 e2 h2 => ?_
    obtain ⟨N0, kvs, hd1, hd2, _⟩ := h2
    refine q_asgR er_make0N fun c H3 n3 e3 h3 => ?_
    obtain ⟨Hm, em, wa, ga, ka, c1, nw, ng, nk, dwg, dwk, dgk, lw, lg, lk⟩ := h3
    have e02 : Ex H H2 := e1.trans e2
    have nwH : H2 wa = none := ex_none em nw
    have ngH : H2 ga = none := ex_none em ng
    have nkH : H2 ka = none := ex_none em nk
    have nin : ∀ a, H2 a = none → a ∉ F := fun a ha z => by
      obtain ⟨u, hu⟩ := hF a z
      rw [e02 _ _ hu] at ha
      cases ha
    have hat : ∀ H', Ex H H' → SqL K H' ta (ats.map V.ref) := fun H' e => sq_of (e _ _ hT)
    refine q_forR1 (n := ((ats.map V.ref).length : Int) + 1) (ea_cons (ev_op (ev_len (ev_var rfl) (hat H3 (e02.trans e3))) ev_c rv_I0) ea_nil) ⟨by omega, by rw [List.length_map, hA.1]; omega⟩
      (fun g σ' H' => Ex H2 (Off [wa, ga, ka] H') ∧ (∃ x y, σ' = [some (.ref ta), some (.ref am), some (.ref nn), some (.int (oAt Q' (Si42.once l) o0 g : Int)), some (.ref al), some (.ref td), some (.ref c), x, y]) ∧
        InsAt (Off [wa, ga, ka] H') c T.Carried.C flCarried [.ref wa, .ref ga, .ref ka] ∧ ∃ bs ts : List Addr, H' wa = some (.lst (bs.map V.ref)) ∧ Al2 (WordAt T (Off F (Off [wa, ga, ka] H'))) bs (wpre Q' (Si42.once l) n0 o0 g) ∧
        H' ga = some (.lst (nl ((List.range g).map (gapQ Q' (Si42.once l) n0 o0)))) ∧ H' ka = some (.lst (ts.map V.ref)) ∧ Al2 (TkAt T (Off F (Off [wa, ga, ka] H'))) ts (tkL Q' (Si42.once l) g) ∧ bs.length ≤ 200 * g ∧ ts.length ≤ g) ?h0 ?hs ?hd
    case h0 =>
      intro H4 e4
      have hl3 : ∀ D ∈ [wa, ga, ka], ∃ l, H4 D = some (.lst l) := fun D hD => by
        simp at hD
        rcases hD with rfl | rfl | rfl
        · exact ⟨_, e4 _ _ lw⟩
        · exact ⟨_, e4 _ _ lg⟩
        · exact ⟨_, e4 _ _ lk⟩
      refine ⟨off_of (e3.trans e4) (fun a ha => ?_), ⟨_, _, rfl⟩, (c1.ex e4).offF hl3, [], [], e4 _ _ lw, Al2.nil, e4 _ _ lg, e4 _ _ lk, Al2.nil, Nat.zero_le _, Nat.zero_le _⟩
      simp at ha
      rcases ha with rfl | rfl | rfl
      · exact nwH
      · exact ngH
      · exact nkH
    case hd =>
      rintro σ' H' ⟨p1, ⟨x, y, rfl⟩, p2, bs, ts, p3, p4, p5, p6, p7, p8, p9⟩
      have eN : (((ats.map V.ref).length : Int) + 1).toNat = Q'.length + 1 := by rw [List.length_map, hA.1]; omega
      rw [eN] at p4 p5 p7
      refine s_ret (ev_var rfl) fun H4 e4 => k c H4 (ex_none e02 n3) ((e02.trans (p1.trans (off_le _ _))).trans e4) ?_
      have eo : Ex (Off F (Off [wa, ga, ka] H')) (Off F H4) := off_ex ((off_le _ _).trans e4)
      refine ⟨wa, ga, ka, bs, ts, ?_, ?_, p4.mono fun a b h => h.ex eo, ?_, ?_, p7.mono fun a b h => h.ex eo⟩
      · exact ((p2.ex (off_le _ _)).ex e4).offN (nin c n3)
      · rw [off_out (nin wa nwH)]; exact e4 _ _ p3
      · rw [off_out (nin ga ngH)]; exact e4 _ _ p5
      · rw [off_out (nin ka nkH)]; exact e4 _ _ p6
    case hs =>
      rintro g σ' H' hg ⟨p1, ⟨x, y, rfl⟩, p2, bs, ts, p3, p4, p5, p6, p7, p8, p9⟩
      have hgl : g < Q'.length + 1 := by rw [List.length_map, hA.1] at hg; omega
      have eH : Ex H H' := e02.trans (p1.trans (off_le _ _))
      have e2H : Ex H2 H' := p1.trans (off_le _ _)
      -- put = put_at(..)
      refine q_asgR (er_callR (ea_cons (ev_var rfl) (ea_cons (ev_var rfl) (ea_cons (ev_var rfl) (ea_cons (ev_var rfl) (ea_cons (ev_var rfl) ea_nil))))) (fun H4 e => ⟨F, ta, ats, Q', am, as, ms, al, Si42.once l, nAt (Si42.once l) n0 g, nAt (Si42.once l) n0 g, oAt Q' (Si42.once l) o0 g, g, rfl, fun a ha => (hF a ha).imp fun u hu => (eH.trans e) _ _ hu, (eH.trans e) _ _ hT, hA.mono fun a b h => h.ex (off_ex (eH.trans e)), hQ, hM.ex (eH.trans e) (eH.trans e), (e2H.trans e) _ _ (e2 _ _ h1), hsub', hl', hwf, hwd, rfl, rfl⟩)) fun pa H4 n4 e4 h4 => ?_
      obtain ⟨ps, hp1, hp2⟩ := h4
      rw [putAll_eq hapt' hpw] at hp2
      have hpl : ps.length ≤ 100 := by
        rw [hp2.1]
        exact putQ_le hQ fun z hz => hwd z (hsub' z (putAt_mem hz).1)
      have hpwa : pa ≠ wa := fun z => by rw [z, p3] at n4; cases n4
      have hpga : pa ≠ ga := fun z => by rw [z, p5] at n4; cases n4
      have hpka : pa ≠ ka := fun z => by rw [z, p6] at n4; cases n4
      have cI : ∀ H5, Ex (Off [wa, ga, ka] H') (Off [wa, ga, ka] H5) → InsAt H5 c T.Carried.C flCarried [.ref wa, .ref ga, .ref ka] := fun H5 e => (p2.ex e).ex (off_le _ _)
      -- found.words.extend(put)
      refine q_extV (e4 _ _ p3) (ev_fl T.Carried 0 (cI H4 (off_ex e4)) (ev_var rfl)) (ev_var rfl) hp1 (by rw [List.length_map, List.length_map]; omega) fun H5 e5 => ?_
      generalize hG1 : upd H5 wa (.lst (bs.map V.ref ++ ps.map V.ref)) = G1
      have o1 : Ex (Off [wa, ga, ka] H') (Off [wa, ga, ka] G1) := by
        rw [← hG1, off_upd (by simp)]
        exact off_ex (e4.trans e5)
      have g1w : G1 wa = some (.lst ((bs ++ ps).map V.ref)) := by rw [← hG1, upd_same, List.map_append]
      have g1g : G1 ga = some (.lst (nl ((List.range g).map (gapQ Q' (Si42.once l) n0 o0)))) := by rw [← hG1, upd_ne dwg.symm]; exact (e4.trans e5) _ _ p5
      have g1k : G1 ka = some (.lst (ts.map V.ref)) := by rw [← hG1, upd_ne dwk.symm]; exact (e4.trans e5) _ _ p6
      have g1p : G1 pa = some (.lst (ps.map V.ref)) := by rw [← hG1, upd_ne hpwa]; exact e5 _ _ hp1
      have g1b : Al2 (WordAt T (Off F (Off [wa, ga, ka] G1))) (bs ++ ps) (wpre Q' (Si42.once l) n0 o0 g ++ putG Q' (Si42.once l) n0 o0 g) := by
        refine Al2.append (p4.mono fun a b h => h.ex (off_ex o1)) (hp2.mono fun a b h => ?_)
        have hl3 : ∀ D ∈ [wa, ga, ka], ∃ l, (Off F H4) D = some (.lst l) := fun D hD => by
          simp at hD
          rcases hD with rfl | rfl | rfl
          · exact ⟨_, by rw [off_out (nin _ nwH)]; exact e4 _ _ p3⟩
          · exact ⟨_, by rw [off_out (nin _ ngH)]; exact e4 _ _ p5⟩
          · exact ⟨_, by rw [off_out (nin _ nkH)]; exact e4 _ _ p6⟩
        have h' := h.offF hl3
        have ee : Off [wa, ga, ka] (Off F H4) = Off F (Off [wa, ga, ka] H4) := by
          funext b
          by_cases h1 : b ∈ F
          · rw [off_in h1]
            by_cases h2 : b ∈ [wa, ga, ka]
            · rw [off_in h2]
            · rw [off_out h2, off_in h1]
          · rw [off_out h1]
            by_cases h2 : b ∈ [wa, ga, ka]
            · rw [off_in h2, off_in h2]
            · rw [off_out h2, off_out h1, off_out h2]
        rw [ee] at h'
        refine WordAt.ex h' (off_ex ?_)
        rw [← hG1, off_upd (by simp)]
        exact off_ex e5
      clear hG1
      -- own = own + len(put)
      refine q_asg (ev_op (ev_var rfl) (ev_len (ev_var rfl) (sq_of g1p)) rv_I0) fun H6 e6 => ?_
      have eown : ((oAt Q' (Si42.once l) o0 g : Nat) : Int) + ((ps.map V.ref).length : Int) = ((oAt Q' (Si42.once l) o0 (g + 1) : Nat) : Int) := by
        rw [List.length_map, hp2.1, oAt, putQ_len]
        omega
      rw [eown]
      -- found.gaps.append(len(found.words))
      refine q_app (e6 _ _ g1g) (ev_fl T.Carried 1 (cI H6 (o1.trans (off_ex e6))) (ev_var rfl)) (ev_len (ev_fl T.Carried 0 (cI H6 (o1.trans (off_ex e6))) (ev_var rfl)) (sq_of (e6 _ _ g1w))) (by rw [nl_len, List.length_map, List.length_range]; omega) fun H7 e7 => ?_
      generalize hG2 : upd H7 ga (.lst (nl ((List.range g).map (gapQ Q' (Si42.once l) n0 o0)) ++ [.int (((bs ++ ps).map V.ref).length : Int)])) = G2
      have e17 : Ex G1 H7 := e6.trans e7
      have o2 : Ex (Off [wa, ga, ka] G1) (Off [wa, ga, ka] G2) := by
        rw [← hG2, off_upd (by simp)]
        exact off_ex e17
      have g2w : G2 wa = some (.lst ((bs ++ ps).map V.ref)) := by rw [← hG2, upd_ne dwg]; exact e17 _ _ g1w
      have g2g : G2 ga = some (.lst (nl ((List.range (g + 1)).map (gapQ Q' (Si42.once l) n0 o0)))) := by
        have hr : nl ((List.range (g + 1)).map (gapQ Q' (Si42.once l) n0 o0)) = nl ((List.range g).map (gapQ Q' (Si42.once l) n0 o0)) ++ [V.int (gapQ Q' (Si42.once l) n0 o0 g : Int)] := by
          rw [List.range_succ, List.map_append, nl_app]
          rfl
        have hg' : ((bs ++ ps).map V.ref).length = gapQ Q' (Si42.once l) n0 o0 g := by
          unfold gapQ
          rw [List.length_map, g1b.1, List.length_append, putG, putQ_len]
        rw [← hG2, upd_same, hr, hg']
      have g2k : G2 ka = some (.lst (ts.map V.ref)) := by rw [← hG2, upd_ne dgk.symm]; exact e17 _ _ g1k
      clear hG2
      have oH : Ex (Off [wa, ga, ka] H') (Off [wa, ga, ka] G2) := o1.trans o2
      have eG2 : Ex H G2 := e02.trans ((p1.trans oH).trans (off_le _ _))
      have e2G2 : Ex H2 G2 := (p1.trans oH).trans (off_le _ _)
      have b2 := g1b.mono fun a b h => WordAt.ex h (off_ex o2)
      have t2 := p7.mono fun a b h => TkAt.ex h (off_ex oH)
      have hwl : (bs ++ ps).length ≤ 200 * g + 100 := by rw [List.length_append]; omega
      -- the word behind the gap
      refine s_when (b := decide (g < Q'.length)) (et_is' (et_test (ev_op (ev_var rfl) (ev_len (ev_var rfl) (hat G2 eG2)) rv_I0)) ?_) (fun hb H8 e8 => ?_) (fun hb H8 e8 => ?_)
      · rw [Bool.eq_iff_iff, List.length_map, hA.1]; simp
      · have hgq := of_decide_eq_true hb
        have hx : Q'[g]? = some Q'[g] := by simp [hgq]
        obtain ⟨wd, hwd1, hwd2⟩ := hA.get hx
        have hdict : H8 td = some (.dK kvs) := e8 _ _ (e2G2 _ _ hd1)
        refine s_if (et_dni (ev_var rfl) (ev_var rfl) hdict) (fun hc H9 e9 => ?_) (fun hc H9 e9 => ?_)
        · -- not taken
          have hnt : Si42.isTaken (Si42.once l) g = false := by
            rw [hd2] at hc
            rw [← tkF_some]
            unfold tkV at hc
            cases q : tkF (Si42.once l) g with
            | none => rfl
            | some z => rw [q] at hc; cases hc
          have e89 := e8.trans e9
          refine s_app (e89 _ _ g2w) (ev_fl T.Carried 0 (cI H9 (oH.trans (off_ex e89))) (ev_var rfl)) (ev_at (ev_var rfl) (ev_var rfl) (hat H9 (eG2.trans e89)) (by rw [List.getElem?_map, hwd1]; rfl)) (by rw [List.length_map]; omega) fun HA eA => ?_
          have oA : Ex (Off [wa, ga, ka] G2) (Off [wa, ga, ka] (upd HA wa (.lst ((bs ++ ps).map V.ref ++ [.ref wd])))) := by
            rw [off_upd (by simp)]
            exact off_ex (e89.trans eA)
          refine ⟨p1.trans (oH.trans oA), ⟨_, _, rfl⟩, p2.ex (oH.trans oA), bs ++ ps ++ [wd], ts, by rw [upd_same]; simp, ?_, by rw [upd_ne dwg.symm]; exact (e89.trans eA) _ _ g2g, by rw [upd_ne dwk.symm]; exact (e89.trans eA) _ _ g2k, ?_, by rw [List.length_append]; simp; simp at hwl; omega, by omega⟩
          · rw [wpre_succ, blk, hnt, if_neg (by decide), hx, ← List.append_assoc]
            refine Al2.snoc (b2.mono fun a b h => h.ex (off_ex oA)) (hwd2.ex (off_ex (e02.trans (p1.trans (oH.trans oA)))))
          · rw [tkL_succ]
            have : tkRow Q' (Si42.once l) g = [] := by
              unfold tkRow
              rw [hx]
              have : tkF (Si42.once l) g = none := by
                have := tkF_some (Si42.once l) g
                rw [hnt] at this
                cases q : tkF (Si42.once l) g with
                | none => rfl
                | some z => rw [q] at this; cases this
              rw [this]
              rfl
            rw [this, List.append_nil]
            exact t2.mono fun a b h => h.ex (off_ex oA)
        · -- taken
          obtain ⟨z, hz⟩ : ∃ z, tkF (Si42.once l) g = some z := by
            rw [hd2] at hc
            unfold tkV at hc
            cases q : tkF (Si42.once l) g with
            | none => rw [q] at hc; cases hc
            | some z => exact ⟨z, rfl⟩
          have hnt : Si42.isTaken (Si42.once l) g = true := by rw [← tkF_some, hz]; rfl
          have hzv : valV kvs (.inl (g : Int)) = some (.int (z.1 : Int)) := by rw [hd2]; unfold tkV; rw [hz]; rfl
          have hzm := hsub' z (tkF_mem _ _ hz).1
          have e89 := e8.trans e9
          have hd9 : H9 td = some (.dK kvs) := e9 _ _ hdict
          obtain ⟨az, rz, haz, oz⟩ := marks_get (hM.ex (eG2.trans e89) (eG2.trans e89)) hzm
          obtain ⟨aw, pr, oz1, _⟩ := oz
          refine s_when (b := decide (akKind z.2 = 0)) (et_is' (et_test (ev_op (ev_fl T.Mark 0 oz1 (ev_at (ev_var rfl) (ev_dg (ev_var rfl) (ev_var rfl) hd9 hzv) (sq_of ((eG2.trans e89) _ _ hM.1)) haz)) ev_c (rv_eq rfl))) ?_) (fun hk HA eA => ?_) (fun hk HA eA => ?_)
          · rw [dI', Bool.eq_iff_iff]; simp
          · have hk' := of_decide_eq_true hk
            have hrow : tkRow Q' (Si42.once l) g = [(Q'[g], z.1)] := by
              unfold tkRow
              rw [hx, hz]
              obtain ⟨zn, za⟩ := z
              cases za with
              | change i j w => rfl
              | keep i j => simp [akKind] at hk'
              | move i j k => simp [akKind] at hk'
            have e8A := e89.trans eA
            refine s_appP (e8A _ _ g2k) (ev_fl T.Carried 2 (cI HA (oH.trans (off_ex e8A))) (ev_var rfl)) (EvR.toP (eu_tup (ea_cons (ev_at (ev_var rfl) (ev_var rfl) (hat HA (eG2.trans e8A)) (by rw [List.getElem?_map, hwd1]; rfl)) (ea_cons (ev_dg (ev_var rfl) (ev_var rfl) (eA _ _ hd9) hzv) ea_nil)) (by show 2 ≤ 100000; decide))) (by rw [List.length_map]; omega) fun v HB eB hv => ?_
            obtain ⟨tt, rfl, ntt, htt⟩ := hv
            have oA : Ex (Off [wa, ga, ka] G2) (Off [wa, ga, ka] (upd HB ka (.lst (ts.map V.ref ++ [.ref tt])))) := by
              rw [off_upd (by simp)]
              exact off_ex (e8A.trans eB)
            have e8B := e8A.trans eB
            refine ⟨p1.trans (oH.trans oA), ⟨_, _, rfl⟩, p2.ex (oH.trans oA), bs ++ ps, ts ++ [tt], by rw [upd_ne dwk]; exact e8B _ _ g2w, ?_, by rw [upd_ne dgk]; exact e8B _ _ g2g, by rw [upd_same]; simp, ?_, by omega, by rw [List.length_append]; simp; omega⟩
            · rw [wpre_succ, blk, hnt, if_pos rfl, List.append_nil]
              exact b2.mono fun a b h => h.ex (off_ex oA)
            · rw [tkL_succ, hrow]
              refine Al2.snoc (t2.mono fun a b h => h.ex (off_ex oA)) ⟨wd, ?_, hwd2.ex (off_ex (e02.trans (p1.trans (oH.trans oA))))⟩
              have hl3 : ∀ D ∈ [wa, ga, ka], ∃ l, HB D = some (.lst l) := fun D hD => by
                simp at hD
                rcases hD with rfl | rfl | rfl
                · exact ⟨_, e8B _ _ g2w⟩
                · exact ⟨_, e8B _ _ g2g⟩
                · exact ⟨_, e8B _ _ g2k⟩
              rw [off_out (fun z => by
                obtain ⟨u, hu⟩ := hF tt z
                rw [(eG2.trans e8A) _ _ hu] at ntt
                cases ntt), off_upd (by simp)]
              exact tup_offF htt hl3
          · have hk' := of_decide_eq_false hk
            have hrow : tkRow Q' (Si42.once l) g = [] := by
              unfold tkRow
              rw [hx, hz]
              obtain ⟨zn, za⟩ := z
              cases za with
              | change i j w => exact absurd rfl hk'
              | keep i j => rfl
              | move i j k => rfl
            have e8A := e89.trans eA
            have oA : Ex (Off [wa, ga, ka] G2) (Off [wa, ga, ka] HA) := off_ex e8A
            refine ⟨p1.trans (oH.trans oA), ⟨_, _, rfl⟩, p2.ex (oH.trans oA), bs ++ ps, ts, e8A _ _ g2w, ?_, e8A _ _ g2g, e8A _ _ g2k, ?_, by omega, by omega⟩
            · rw [wpre_succ, blk, hnt, if_pos rfl, List.append_nil]
              exact b2.mono fun a b h => h.ex (off_ex oA)
            · rw [tkL_succ, hrow, List.append_nil]
              exact t2.mono fun a b h => h.ex (off_ex oA)
      · have hgq := of_decide_eq_false hb
        have hx : Q'[g]? = none := by simp; omega
        have oA : Ex (Off [wa, ga, ka] G2) (Off [wa, ga, ka] H8) := off_ex e8
        refine ⟨p1.trans (oH.trans oA), ⟨_, _, rfl⟩, p2.ex (oH.trans oA), bs ++ ps, ts, e8 _ _ g2w, ?_, e8 _ _ g2g, e8 _ _ g2k, ?_, by omega, by omega⟩
        · rw [wpre_succ, blk, hx]
          have : (if Si42.isTaken (Si42.once l) g = true then [] else (none : Option Tw).toList) = [] := by split <;> rfl
          rw [this, List.append_nil]
          exact b2.mono fun a b h => h.ex (off_ex oA)
        · rw [tkL_succ]
          have : tkRow Q' (Si42.once l) g = [] := by unfold tkRow; rw [hx]
          rw [this, List.append_nil]
          exact t2.mono fun a b h => h.ex (off_ex oA)
end
end Pf

end
section
set_option Elab.async false
set_option linter.all false
set_option maxRecDepth 100000
set_option maxHeartbeats 2000000
/-! Rules that the library lacks: min(xs, default=d). -/
namespace Pf
open PySem PySem.Spec PyProof.Rows L2 Evl
/-- the least of a row; d where there is none -/
def leastOr (d : Int) : List Int → Int
  | [] => d
  | n :: r => r.foldl min n
def rMinD (K : PySem.W.Frag) : List V → List V → Hp → VK → Prop := fun vs zs H Q => ∃ (a : Addr) (ns : List Int) (d : Int), vs = [V.ref a] ∧ zs = [V.int d] ∧ SqL K H a (ns.map V.int) ∧ Q (.int (leastOr d ns)) H
theorem alike_ints (ns : List Int) : PySem.W.AlikeAll (ns.map PyData.int) := by
  refine ⟨fun x hx y hy => ?_, fun x hx => ?_⟩
  · obtain ⟨a, _, rfl⟩ := List.mem_map.mp hx
    obtain ⟨b, _, rfl⟩ := List.mem_map.mp hy
    rfl
  · obtain ⟨a, _, rfl⟩ := List.mem_map.mp hx
    simp
theorem cr_minD {X : Cx} (hc : X.calm = true) (hu : X.A.units + 64 < cLine) : CallRK X (.builtin "min") [Str.ofString "default"] (rMinD X.K) := by
  intro pins s σ H vs zs us ws Q I r rz h
  obtain ⟨a, ns, d, rfl, rfl, hs, q⟩ := h
  obtain ⟨its, rv, hl, _⟩ := I.list hs
  obtain ⟨w1, rfl, e1⟩ := vals1 rz
  obtain ⟨t1, rfl⟩ := e1
  rw [Vals.ref1 r]
  obtain ⟨as, hr⟩ := Dp.readsAll I (ns.map PyData.int) (ns.map V.int) its (dp_ints ns) rv
  refine PySem.W.min_list_default (I.ok.hd hc) hl.isList hr (alike_ints ns) ?_ (fun h0 h' tk hk => ?_) fun y ys i v h' tk bs hy hv rd hk => ?_
  · rw [deep_ints]
    omega
  · have hn : ns = [] := by simpa using h0
    subst hn
    exact ⟨.int d, H, I.kept hk, ⟨_, rfl⟩, q⟩
  · cases ns with
    | nil => cases hy
    | cons n ns' =>
      rw [List.map_cons] at hy
      injection hy with h1 h2
      subst h1 h2
      rw [PySem.W.minD_ints] at rd
      cases rd
      exact ⟨.int _, H, I.kept hk, ⟨_, rfl⟩, q⟩
end Pf

end
section
set_option Elab.async false
set_option linter.all false
set_option maxRecDepth 100000
set_option maxHeartbeats 2000000
/-! More words of the walk: rows of zeros, ranges from their end, rows of rows. -/
namespace Pf
open PySem PySem.Spec PyProof.Rows L2 Evl
theorem rep_flat {α : Type} (k : Nat) (x : α) : (List.replicate k [x]).flatten = List.replicate k x := by
  induction k with
  | zero => rfl
  | succ k ih => rw [List.replicate_succ, List.flatten_cons, ih, List.replicate_succ]; rfl
section
variable {K : PySem.W.Frag} {σ : L2.St} {H : Hp} {te ta tk : TE} {t : TT} {D : Ends} {tu tz : TS} {x : V}
/-- [x] * k -/
theorem el_rep {k : Nat} (hx : Ev te σ H x) (hk : Ev tk σ H (.int (k : Int))) (hz : k ≤ 100000) : EvL (tOp rRep (tLst (tCons te tNil)) tk) σ H (List.replicate k x) := fun H1 e Q q =>
  el_lst (ea_cons hx ea_nil) (by show 1 ≤ 100000; decide) H1 e _ fun p H2 hp e2 h2 => hk H2 (e.trans e2) _ fun H3 e3 => ⟨p, (k : Int), [x], rfl, rfl, e3 _ _ h2, by omega, by omega, by
    show 1 * ((k : Int).toNat) ≤ sizeLine
    exact sz_of (by omega), fun r hr => by
    have e0 : ((k : Int)).toNat = k := by omega
    rw [e0, rep_flat]
    exact q r _ (ex_none (e2.trans e3) hr) ((e2.trans e3).trans (Ex.new hr)) upd_same⟩
/-- for j in reversed(range(n)) -/
theorem s_forRev {j : Nat} {n : Nat} (h : Ev ta σ H (.int (n : Int))) (hn : n ≤ 100000) (Pv : Nat → L2.St → Hp → Prop) (h0 : ∀ H1, Ex H H1 → Pv n σ H1)
    (hs : ∀ (i : Nat) σ' H', i < n → Pv (i + 1) σ' H' → tu { D with nx := Pv i, ct := Pv i, bk := D.nx } (σ'.set j (some (.int (i : Int)))) H') (hd : ∀ σ' H', Pv 0 σ' H' → D.nx σ' H') : tFor (iRevR (tRg1 ta)) (gName j) tu D σ H :=
  h H (Ex.refl H) _ fun H1 e => ⟨(n : Int), rfl, by omega, by omega, by omega, by omega, by
    have e0 : ((n : Int) - 0).toNat = n := by omega
    rw [e0]
    refine for_it walk_rangeC (fun i σ' H' => i ≤ n ∧ Pv (n - i) σ' H') ⟨Nat.zero_le _, h0 H1 e⟩ (fun _ _ _ _ _ => trivial) (fun i x σ' H' H2 hi p y => ?_) (fun σ' H' p => hd σ' H' (by have := p.2; rw [Nat.sub_self] at this; exact this))
    obtain ⟨rfl, rfl⟩ := y
    have e1 : ((0 : Int) + (n : Int) - 1 + (i : Int) * (-1)) = ((n - 1 - i : Nat) : Int) := by omega
    have e2 : n - i = n - 1 - i + 1 := by omega
    have e3 : n - (i + 1) = n - 1 - i := by omega
    have hp := p.2
    rw [e2] at hp
    have := hs (n - 1 - i) σ' H2 (by omega) hp
    show tu _ (σ'.set j (some (.int ((0 : Int) + (n : Int) - 1 + (i : Int) * (-1))))) H2
    rw [e1]
    have eq : (fun σ' H' => i + 1 ≤ n ∧ Pv (n - (i + 1)) σ' H') = Pv (n - 1 - i) := by
      funext a b
      rw [e3]
      exact propext ⟨fun h => h.2, fun h => ⟨hi, h⟩⟩
    rw [eq]
    exact this⟩
theorem q_forRev {j : Nat} {n : Nat} (h : Ev ta σ H (.int (n : Int))) (hn : n ≤ 100000) (Pv : Nat → L2.St → Hp → Prop) (h0 : ∀ H1, Ex H H1 → Pv n σ H1)
    (hs : ∀ (i : Nat) σ' H', i < n → Pv (i + 1) σ' H' → tu { D with nx := Pv i, ct := Pv i, bk := tz D } (σ'.set j (some (.int (i : Int)))) H') (hd : ∀ σ' H', Pv 0 σ' H' → tz D σ' H') : tSeq (tFor (iRevR (tRg1 ta)) (gName j) tu) tz D σ H := s_forRev (D := { D with nx := tz D }) h hn Pv h0 hs hd
/-- [row for i in range(n)], new rows all alike -/
theorem er_rows {tn : TA} {j : Nat} {vs : List Nat} {n : Nat} {xs : List V} (h : EvA tn σ H [.int (n : Int)]) (hn : n ≤ 40000) (hw : ∀ x, wipe ((wipe σ vs).set j (some x)) vs = wipe σ vs)
    (he : ∀ (i : Nat) H1, Ex H H1 → EvL te ((wipe σ vs).set j (some (.int (i : Int)))) H1 xs) :
    EvR (tLc (iRng1 tn) (gName j) tYes te vs) σ H (fun p H2 => ∃ as : List Addr, H2 p = some (.lst (as.map V.ref)) ∧ as.length = n ∧ as.Nodup ∧ ∀ a ∈ as, H a = none ∧ a ≠ p ∧ H2 a = some (.lst xs)) := fun H0 e Q q => h H0 e _ fun H1 e1 => ⟨(n : Int), rfl, by omega, by omega, fun Dl hD => by
  have e00 : ((n : Int)).toNat = n := by omega
  rw [e00]
  refine lc_range (lo := 0) (n := n) (fun i H' => Ex H1 H' ∧ ∃ as : List Addr, H' Dl = some (.lst (as.map V.ref)) ∧ as.length = i ∧ as.Nodup ∧ ∀ a ∈ as, H1 a = none ∧ a ≠ Dl ∧ H' a = some (.lst xs))
    ⟨Ex.new hD, [], upd_same, rfl, List.nodup_nil, fun a z => by simp at z⟩ (fun i H' hi p => ?_) (fun H' p => ?_)
  · have e0 : (0 : Int) + (i : Int) = (i : Int) := Int.zero_add _
    show wipe ((wipe σ vs).set j (some (.int ((0 : Int) + (i : Int))))) vs = wipe σ vs ∧ te ((wipe σ vs).set j (some (.int ((0 : Int) + (i : Int))))) H' fun y H4 => ∃ acc, H4 Dl = some (.lst acc) ∧ acc.length < sizeLine ∧ _
    rw [e0]
    obtain ⟨p1, as, p2, p3, p4, p5⟩ := p
    refine ⟨hw _, he i H' ((e.trans e1).trans p1) H' (Ex.refl H') _ fun r H4 hr e4 h4 => ?_⟩
    have hrD : r ≠ Dl := fun z => by rw [z, p2] at hr; cases hr
    refine ⟨as.map V.ref, e4 _ _ p2, by rw [List.length_map, p3]; exact sz_lt (by omega), Ex.mut (p1.trans e4) hD, as ++ [r], by rw [upd_same]; simp, by rw [List.length_append, p3]; rfl, ?_, fun a ha => ?_⟩
    · rw [List.nodup_append]
      refine ⟨p4, by simp, fun a ha b hb => ?_⟩
      have : b = r := by simpa using hb
      subst this
      intro z
      subst z
      rw [(p5 a ha).2.2] at hr
      cases hr
    · rcases List.mem_append.mp ha with ha | ha
      · obtain ⟨h1, h2, h3⟩ := p5 a ha
        exact ⟨h1, h2, by rw [upd_ne h2]; exact e4 _ _ h3⟩
      · have : a = r := by simpa using ha
        subst this
        exact ⟨ex_none p1 hr, hrD, by rw [upd_ne hrD]; exact h4⟩
  · obtain ⟨p1, as, p2, p3, p4, p5⟩ := p
    exact q Dl H' (fresh_back e1 hD) (e1.trans p1) ⟨as, p2, p3, p4, fun a ha => ⟨ex_none (e.trans e1) (p5 a ha).1, (p5 a ha).2⟩⟩⟩
/-- if c: xs.append(e) -/
theorem q_whenApp {b : Bool} {l : Addr} {xs : List V} {v : V} (hl : H l = some (.lst xs)) (ht : EvT t σ H b) (ha : ∀ H1, Ex H H1 → Ev ta σ H1 (.ref l)) (he : b = true → Ev te σ H v) (hz : xs.length < 100000)
    (k : ∀ H', Ex (Off [l] H) (Off [l] H') → H' l = some (.lst (xs ++ if b = true then [v] else [])) → tz D σ H') : tSeq (tIfS t (tDrop (tBM K "list" rAppend ta (tCons te tNil))) tNext) tz D σ H := by
  refine q_when ht (fun hb H1 e1 => ?_) (fun hb H1 e1 => ?_)
  · refine s_app (e1 _ _ hl) (ha H1 e1) ((he hb).mono e1) hz fun H2 e2 => k _ ?_ ?_
    · rw [off_upd (by simp)]
      exact off_ex (e1.trans e2)
    · rw [upd_same, if_pos hb]
  · refine k H1 (off_ex e1) ?_
    rw [hb, if_neg (by decide), List.append_nil]
    exact e1 _ _ hl
theorem ev_minD {p : Addr} {ns : List Int} {d : Int} (h : Ev te σ H (.ref p)) (hp : SqL K H p (ns.map V.int)) : Ev (tCKw (rMinD K) (tCons te tNil) (tCons (tC (.int d)) tNil)) σ H (.int (leastOr d ns)) := fun H1 e Q q =>
  ea_cons h ea_nil H1 e _ fun H2 e2 => ea_cons ev_c ea_nil H2 (Ex.refl H2) _ fun H3 e3 => ⟨p, ns, d, rfl, rfl, ex_l ((e.trans e2).trans e3) hp, q H3 (e2.trans e3)⟩
end
end Pf

end
section
set_option Elab.async false
set_option linter.all false
set_option maxRecDepth 100000
set_option maxHeartbeats 4000000
/-! Where words stand now; what marks ask anew. -/
namespace Pf
open PySem PySem.Spec PyProof.Rows L2 Evl
def posV (o : Option Nat) : V := match o with
  | some b => .int (b : Int)
  | none => .int (-1)
theorem idx_none {Q : Tx} {o : Nat} (h : ∀ (j : Nat) (y : Tw), Q[j]? = some y → y.2 ≠ o) : idxQ Q o = none := by
  unfold idxQ
  rw [List.findIdx?_eq_none_iff]
  intro y hy
  obtain ⟨j, hj⟩ := List.mem_iff_getElem?.mp hy
  simpa using h j y hj
theorem idx_first {Q : Tx} {o b : Nat} {y : Tw} (hb : Q[b]? = some y) (e : y.2 = o) (h : ∀ (j : Nat) (y : Tw), j < b → Q[j]? = some y → y.2 ≠ o) : idxQ Q o = some b := by
  unfold idxQ
  rw [List.findIdx?_eq_some_iff_getElem]
  obtain ⟨hl, hy⟩ := List.getElem?_eq_some_iff.mp hb
  refine ⟨hl, by rw [hy]; simpa using e, fun j hj => ?_⟩
  have := h j Q[j] hj (by simp [show j < Q.length by omega])
  simpa using this
section
variable {P : Program} {w : World} {K : PySem.W.Frag} {mg : Str → Option Value} {base : Heap}
theorem ownOf {T : Tp K mg} {H : Hp} {a : Addr} {x : Tw} {σ : L2.St} {te : TE} (h : WordAt T H a x) (he : Ev te σ H (.ref a)) : Ev (tFld K te (Str.ofString "own")) σ H (.int (x.2 : Int)) := ev_fl T.Word 1 h he
def sp_place_of (T : Tp K mg) : Sp := spV fun vs v H => ∃ ta ats Q wa x, vs = [.ref ta, .ref wa] ∧ H ta = some (.lst (ats.map V.ref)) ∧ Al2 (WordAt T H) ats Q ∧ WordAt T H wa x ∧ v = posV (idxQ Q x.2)
-- slots: text 0, word 1, place 2, one 3
theorem ok_place_of (T : Tp K mg) : FnOk P w K mg base CX0 1 T.place_of.f T.place_of.fd P_place_of (sp_place_of T) := by
  refine T.place_of.F.ok sc_place_of (fun vs H Q E h => ?_) (fun cdv A outer s H vs Q E hr h => ⟨_, (pss_cons (ps_for PassesOwn.never rfl (pi_enum rfl T.nenumerate (pa_cons (pv 0) pa_nil)) (pg_tup rfl (pgs_cons (pg_name (i := 2) sc_place_of.nd rfl (.inl rfl)) (pgs_cons (pg_name (i := 3) sc_place_of.nd rfl (.inl rfl)) pgs_nil))) (pss_one (ps_if (pt_cmpR op_eq (pe_fld (pv 3) rfl) (pe_fld (pv 1) rfl) (nomark _)) (pss_one (ps_ret (pv 2))) pss_nil)))
    (pss_one (ps_ret (pe_un un_neg pe_int)))), ?_⟩)
  · obtain ⟨v, ⟨ta, ats, Q', wa, x, rfl, _⟩, _⟩ := h
    rfl
  · obtain ⟨v, ⟨ta, ats, Q', wa, x, rfl, hT, hA, hx, rfl⟩, k⟩ := h
    refine q_forE (ea_cons (ev_var rfl) ea_nil) (sq_of hT) (fun i σ' H' => Ex H H' ∧ (∃ a b, σ' = [some (.ref ta), some (.ref wa), a, b]) ∧ ∀ (j : Nat) (y : Tw), j < i → Q'[j]? = some y → y.2 ≠ x.2) ?h0 ?hl ?hs ?hd
    case h0 => exact fun H1 e => ⟨e, ⟨_, _, rfl⟩, fun j y h => by omega⟩
    case hl => exact fun i σ' H' _ p => sq_of (p.1 _ _ hT)
    case hd =>
      rintro σ' H' ⟨p1, ⟨a, b, rfl⟩, p2⟩
      rw [List.length_map, hA.1] at p2
      refine s_ret (ev_un ev_c ru_neg) fun H1 e => ?_
      have : idxQ Q' x.2 = none := idx_none fun j y hj => p2 j y (List.getElem?_eq_some_iff.mp hj).1 hj
      rw [this] at k
      exact k H1 (p1.trans e)
    case hs =>
      rintro i v σ' H' hv ⟨p1, ⟨a, b, rfl⟩, p2⟩ H2 e2
      rw [List.getElem?_map] at hv
      cases ha : ats[i]? with
      | none => rw [ha] at hv; cases hv
      | some ai =>
        rw [ha] at hv
        cases hv
        obtain ⟨y, hy, hw⟩ := hA.getL ha
        have e := p1.trans e2
        refine s_when (b := decide (y.2 = x.2)) (et_is' (et_test (ev_op (ownOf (hw.ex e) (ev_var rfl)) (ownOf (hx.ex e) (ev_var rfl)) (rv_eq rfl))) (dI _ _)) (fun hb H3 e3 => ?_) (fun hb H3 e3 => ⟨e.trans e3, ⟨_, _, rfl⟩, fun j z hj hz => ?_⟩)
        · refine s_ret (ev_var rfl) fun H4 e4 => ?_
          rw [idx_first hy (of_decide_eq_true hb) p2] at k
          exact k H4 ((e.trans e3).trans e4)
        · by_cases c : j < i
          · exact p2 j z c hz
          · have : j = i := by omega
            subst this
            rw [hy] at hz
            cases hz
            exact of_decide_eq_false hb
def sp_where_now (T : Tp K mg) : Sp := spV fun vs v H => ∃ oa na os ns P Q i j, vs = [.ref oa, .ref na, .int ((i : Nat) : Int), .int ((j : Nat) : Int)] ∧ H oa = some (.lst (os.map V.ref)) ∧ Al2 (WordAt T H) os P ∧
  H na = some (.lst (ns.map V.ref)) ∧ Al2 (WordAt T H) ns Q ∧ i < j ∧ j ≤ P.length ∧ P.length ≤ 100 ∧ v = posV (whereQ P Q i j)
-- slots: old 0, new 1, i 2, j 3, begin 4, place 5, at 6
theorem ok_where_now (T : Tp K mg) : FnOk P w K mg base CX0 2 T.where_now.f T.where_now.fd P_where_now (sp_where_now T) := by
  refine T.where_now.F.ok sc_where_now (fun vs H Q E h => ?_) (fun cdv A outer s H vs Q E hr h => ⟨_, (pss_cons (ps_set (i := 4) sc_where_now.nd rfl (.inl rfl) (pe_call (ok_place_of T) (hr.mono (by decide)) rfl T.place_of.g T.place_of.F.kp T.place_of.b .nil pass0 (pa_cons (pv 1) (pa_cons (pe_ix ix_list (pv 0) (pv 2) (fun _ _ => rfl)) pa_nil))))
    (pss_cons (ps_if (pt_cmpR op_lt (pv 4) pe_int (nomark _)) (pss_one (ps_ret (pe_un un_neg pe_int))) pss_nil)
    (pss_cons (ps_for PassesOwn.never rfl (pi_range2 rfl T.nrange (pa_cons (pv 2) (pa_cons (pv 3) pa_nil))) (pg_name (i := 5) sc_where_now.nd rfl (.inl rfl)) (pss_cons (ps_set (i := 6) sc_where_now.nd rfl (.inl rfl) (pe_op op_sub (pe_op op_add (pv 4) (pv 5)) (pv 2)))
    (pss_one (ps_if (PW.pt (pw_or (pt_cmpR op_ge (pv 6) (pe_callB call_len_seq rfl T.nlen PySem.boot_len (pa_cons (pv 1) pa_nil)) (nomark _)) (pw_or1 (pt_cmpR op_ne (pe_fld (pe_ix ix_list (pv 1) (pv 6) (fun _ _ => rfl)) rfl) (pe_fld (pe_ix ix_list (pv 0) (pv 5) (fun _ _ => rfl)) rfl) (nomark _))))) (pss_one (ps_ret (pe_un un_neg pe_int))) pss_nil))))
    (pss_one (ps_ret (pv 4)))))), ?_⟩)
  · obtain ⟨v, ⟨oa, na, os, ns, P', Q', i, j, rfl, _⟩, _⟩ := h
    rfl
  · obtain ⟨v, ⟨oa, na, os, ns, P', Q', i, j, rfl, hO, hP, hN, hQ, hij, hj, hl, rfl⟩, k⟩ := h
    have hx : P'[i]? = some (P'[i]'(by omega)) := by simp [show i < P'.length by omega]
    generalize P'[i]'(by omega) = x at hx
    obtain ⟨wa, hwa, hwx⟩ := hP.get hx
    have hoat : ∀ H', Ex H H' → SqL K H' oa (os.map V.ref) := fun H' e => sq_of (e _ _ hO)
    have hnat : ∀ H', Ex H H' → SqL K H' na (ns.map V.ref) := fun H' e => sq_of (e _ _ hN)
    refine q_asg (ev_callV (v := posV (idxQ Q' x.2)) (ea_cons (ev_var rfl) (ea_cons (ev_at (ev_var rfl) (ev_var rfl) (hoat H (Ex.refl H)) (by rw [List.getElem?_map, hwa]; rfl)) ea_nil)) (fun H1 e => ⟨na, ns, Q', wa, x, rfl, e _ _ hN, hQ.mono fun _ _ h => h.ex e, hwx.ex e, rfl⟩)) fun H1 e1 => ?_
    have kw : whereQ P' Q' i j = match idxQ Q' x.2 with
      | none => none
      | some b => if follow P' Q' b i (j - i) = true then some b else none := by
      unfold whereQ
      rw [hx]
      try rfl
    rw [kw] at k
    cases hi : idxQ Q' x.2 with
    | none =>
      rw [hi] at k
      refine q_when (b := true) (et_is' (et_test (ev_op (ev_var rfl) ev_c rv_I0)) (by decide)) (fun hb H2 e2 => ?_) (fun hb => by cases hb)
      exact s_ret (ev_un ev_c ru_neg) fun H3 e3 => k H3 ((e1.trans e2).trans e3)
    | some b =>
      rw [hi] at k
      dsimp only at k
      refine q_when (b := false) (et_is' (et_test (ev_op (ev_var rfl) ev_c rv_I0)) (by simp)) (fun hb => by cases hb) (fun _ H2 e2 => ?_)
      have e02 := e1.trans e2
      refine q_forR2 (lo := (i : Int)) (n := (j : Int)) (ea_cons (ev_var rfl) (ea_cons (ev_var rfl) ea_nil)) ⟨by omega, by omega, by omega, by omega⟩
        (fun d σ' H' => Ex H H' ∧ (∃ a c, σ' = [some (.ref oa), some (.ref na), some (.int (i : Int)), some (.int (j : Int)), some (.int (b : Int)), a, c]) ∧ follow P' Q' b i d = true) ?h0 ?hs ?hd
      case h0 => exact fun H3 e3 => ⟨e02.trans e3, ⟨_, _, rfl⟩, rfl⟩
      case hd =>
        rintro σ' H' ⟨p1, ⟨a, c, rfl⟩, p2⟩
        have : ((j : Int) - (i : Int)).toNat = j - i := by omega
        rw [this] at p2
        rw [if_pos p2] at k
        exact s_ret (ev_var rfl) fun H3 e3 => k H3 (p1.trans e3)
      case hs =>
        rintro d σ' H' hd ⟨p1, ⟨a, c, rfl⟩, p2⟩
        have hdl : i + d < P'.length := by omega
        have hz : P'[i + d]? = some P'[i + d] := by simp [hdl]
        generalize P'[i + d] = z at hz
        obtain ⟨wz, hwz, hwzz⟩ := hP.get hz
        have eat : (b : Int) + ((i : Int) + (d : Int)) - (i : Int) = ((b + d : Nat) : Int) := by omega
        refine q_asg (v := .int ((b + d : Nat) : Int)) (ev_is (ev_op (ev_op (ev_var rfl) (ev_var rfl) rv_I0) (ev_var rfl) rv_I0) (by rw [eat])) fun H3 e3 => ?_
        have e3' := p1.trans e3
        have stop : ∀ H4, Ex H3 H4 → follow P' Q' b i (d + 1) = false → Q (posV none) H4 := fun H4 e4 hf => by
          have : follow P' Q' b i (j - i) = false := by
            cases q : follow P' Q' b i (j - i) with
            | false => rfl
            | true =>
              have h1 := (follow_iff P' Q' b i (j - i)).mp q
              have : follow P' Q' b i (d + 1) = true := (follow_iff P' Q' b i (d + 1)).mpr fun e he => h1 e (by omega)
              rw [hf] at this
              cases this
          rw [this] at k
          exact k H4 (e3'.trans e4)
        cases hy : Q'[b + d]? with
        | none =>
          have hf : follow P' Q' b i (d + 1) = false := by rw [follow, hy]; simp
          have hge : Q'.length ≤ b + d := by simpa using hy
          refine s_when (b := true) (et_is' (et_or (a := true) (b := true) (et_is' (et_test (ev_op (ev_var rfl) (ev_len (ev_var rfl) (hnat H3 e3')) rv_I0)) (by rw [List.length_map, hQ.1, decide_eq_true_eq]; omega)) (fun c => by cases c)) rfl) (fun _ H4 e4 => ?_) (fun c => by cases c)
          exact s_ret (ev_un ev_c ru_neg) fun H5 e5 => stop H5 (e4.trans e5) hf
        | some y =>
          obtain ⟨wy, hwy, hwyy⟩ := hQ.get hy
          have hlt := (List.getElem?_eq_some_iff.mp hy).1
          have hfe : follow P' Q' b i (d + 1) = (y.2 == z.2) := by rw [follow, hy, hz, p2]; rfl
          have ezi : (i : Int) + (d : Int) = ((i + d : Nat) : Int) := by omega
          refine s_when (b := !decide (y.2 = z.2)) (et_is' (et_or (a := false) (b := !decide (y.2 = z.2)) (et_is' (et_test (ev_op (ev_var rfl) (ev_len (ev_var rfl) (hnat H3 e3')) rv_I0)) (by rw [List.length_map, hQ.1, decide_eq_false_iff_not]; omega))
            (fun _ => et_is' (et_test (ev_op (ownOf (hwyy.ex e3') (ev_at (ev_var rfl) (ev_var rfl) (hnat H3 e3') (by rw [List.getElem?_map, hwy]; rfl))) (ownOf (hwzz.ex e3') (ev_at (n := i + d) (ev_var rfl) (ev_is (ev_var rfl) (by rw [ezi])) (hoat H3 e3') (by rw [List.getElem?_map, hwz]; rfl))) (rv_ne rfl))) (by rw [dI]))) rfl) (fun hb H4 e4 => ?_) (fun hb H4 e4 => ?_)
          · refine s_ret (ev_un ev_c ru_neg) fun H5 e5 => stop H5 (e4.trans e5) ?_
            rw [hfe]
            simpa using hb
          · refine ⟨e3'.trans e4, ⟨_, _, rfl⟩, ?_⟩
            rw [hfe]
            simpa using hb
/-- only one address other -/
theorem InsAt.frame {H H' : Hp} {a b C : Addr} {nm : List Str} {vs : List V} (h : InsAt H b C nm vs) (e : Ex (Off [a] H) (Off [a] H')) (hb : b ≠ a) : InsAt H' b C nm vs := ((h.offN (F := [a]) (by simp [hb])).ex e).ex (off_le _ _)
theorem MarkAt.frame {T : Tp K mg} {H H' I : Hp} {a b : Addr} {m : Si42.Mark} (h : MarkAt T H I b m) (e : Ex (Off [a] H) (Off [a] H')) (hb : b ≠ a) : MarkAt T H' I b m := by
  unfold MarkAt at h ⊢
  split at h
  · obtain ⟨aw, pr, h1, h2⟩ := h
    exact ⟨aw, pr, h1.frame e hb, h2⟩
  · obtain ⟨v0, v2, v3, v4, v5, h⟩ := h
    exact ⟨v0, v2, v3, v4, v5, h.frame e hb⟩
  · obtain ⟨v0, v2, v3, v4, v5, h⟩ := h
    exact ⟨v0, v2, v3, v4, v5, h.frame e hb⟩
  · obtain ⟨v0, v2, v3, v4, v5, v7, h⟩ := h
    exact ⟨v0, v2, v3, v4, v5, v7, h.frame e hb⟩
def beginQ (P Q : Tx) (gs : Nat → Nat) (q : Si42.Ask) : Option Nat := if akI q < akJ q then whereQ P Q (akI q) (akJ q) else some (gs (akI q))
def atQ (gs : Nat → Nat) (b : Nat) : Si42.Ask → Si42.Ask
  | .change i j w => .change b (b + (j - i)) w
  | .keep i j => .keep b (b + (j - i))
  | .move i j k => .move b (b + (j - i)) (gs k)
theorem atQ_parts (gs : Nat → Nat) (b : Nat) (q : Si42.Ask) : akKind (atQ gs b q) = akKind q ∧ akI (atQ gs b q) = b ∧ akJ (atQ gs b q) = b + (akJ q - akI q) ∧ akW (atQ gs b q) = akW q := by
  cases q <;> exact ⟨rfl, rfl, rfl, rfl⟩
theorem askQ_begin {P Q : Tx} {gs : Nat → Nat} {q : Si42.Ask} (h : AskWf P.length q) : askQ P Q gs q = (beginQ P Q gs q).map fun b => atQ gs b q := by
  cases q with
  | change i j w =>
    simp only [AskWf] at h
    by_cases c : i = j
    · subst c
      have h1 : beginQ P Q gs (.change i i w) = some (gs i) := if_neg (Nat.lt_irrefl i)
      have h2 : askQ P Q gs (.change i i w) = some (.change (gs i) (gs i) w) := if_pos rfl
      rw [h1, h2]
      show _ = some (Si42.Ask.change (gs i) (gs i + (i - i)) w)
      rw [Nat.sub_self, Nat.add_zero]
    · have h1 : beginQ P Q gs (.change i j w) = whereQ P Q i j := if_pos (show i < j by omega)
      have h2 : askQ P Q gs (.change i j w) = (whereQ P Q i j).map fun b => .change b (b + (j - i)) w := if_neg c
      rw [h1, h2]
      rfl
  | keep i j =>
    simp only [AskWf] at h
    have h1 : beginQ P Q gs (.keep i j) = whereQ P Q i j := if_pos h.1
    rw [h1]
    rfl
  | move i j k =>
    simp only [AskWf] at h
    have h1 : beginQ P Q gs (.move i j k) = whereQ P Q i j := if_pos h.1
    rw [h1]
    rfl
/-- what becomes of an open mark -/
def anew (P Q : Tx) (gs : Nat → Nat) (pr : Nat) (q : Si42.Ask) : Si42.Stand := match askQ P Q gs q with
  | some b => .open_ b
  | none => .lost pr
def sp_ask_anew (T : Tp K mg) : Sp := fun vs H Q _ => ∃ a oa fa pr r q P l n0 o0 ots I, vs = [.ref a, .ref oa, .ref fa, .int ((pr : Nat) : Int)] ∧ OpenAt T H I a r q ∧ H oa = some (.lst (ots.map V.ref)) ∧ Al2 (WordAt T H) ots P ∧
  CarrAt T H fa P l n0 o0 ∧ AskWf P.length q ∧ P.length ≤ 100 ∧ ∀ H', Ex (Off [a] H) (Off [a] H') → MarkAt T H' I a ⟨r, anew P (wpre P l n0 o0 (P.length + 1)) (gapQ P l n0 o0) pr q⟩ → Q .non H'
-- slots: mark 0, old 1, found 2, proof 3, begin 4
theorem ok_ask_anew (T : Tp K mg) : FnOk P w K mg base CX0 3 T.ask_anew.f T.ask_anew.fd P_ask_anew (sp_ask_anew T) := by
  refine T.ask_anew.F.ok sc_ask_anew (fun vs H Q E h => ?_) (fun cdv A outer s H vs Q E hr h => ⟨_, (pss_cons (ps_set (i := 4) sc_ask_anew.nd rfl (.inl rfl) (pe_ix ix_list (pe_fld (pv 2) rfl) (pe_fld (pv 0) rfl) (fun _ _ => rfl)))
    (pss_cons (ps_if (pt_cmpR op_gt (pe_fld (pv 0) rfl) (pe_fld (pv 0) rfl) (nomark _)) (pss_one (ps_set (i := 4) sc_ask_anew.nd rfl (.inl rfl) (pe_call (ok_where_now T) (hr.mono (by decide)) rfl T.where_now.g T.where_now.F.kp T.where_now.b .nil pass0 (pa_cons (pv 1) (pa_cons (pe_fld (pv 2) rfl) (pa_cons (pe_fld (pv 0) rfl) (pa_cons (pe_fld (pv 0) rfl) pa_nil))))))) pss_nil)
    (pss_one (ps_if (pt_cmpR op_lt (pv 4) pe_int (nomark _)) (pss_cons (ps_fld (pv 0) (pe_glob (v := .int 2) rfl T.kLOST ⟨_, rfl⟩) rfl)
    (pss_one (ps_fld (pv 0) (pv 3) rfl))) (pss_cons (ps_if (pt_cmpR op_eq (pe_fld (pv 0) rfl) (pe_glob (v := .int 2) rfl T.kMOVE ⟨_, rfl⟩) (nomark _)) (pss_one (ps_fld (pv 0) (pe_ix ix_list (pe_fld (pv 2) rfl) (pe_fld (pv 0) rfl) (fun _ _ => rfl)) rfl)) (pss_one (ps_fld (pv 0) (pv 4) rfl)))
    (pss_cons (ps_fld (pv 0) (pe_op op_sub (pe_op op_add (pv 4) (pe_fld (pv 0) rfl)) (pe_fld (pv 0) rfl)) rfl)
    (pss_one (ps_fld (pv 0) (pv 4) rfl)))))))), ?_⟩)
  · obtain ⟨a, oa, fa, pr, r, q, P', l, n0, o0, ots, I, rfl, _⟩ := h
    rfl
  · obtain ⟨a, oa, fa, pr, r, q, P', l, n0, o0, ots, I, rfl, hm, hO, hP, hC, hwf, hl, k⟩ := h
    obtain ⟨aw, p0, hm, hw⟩ := hm
    obtain ⟨wa, ga, ka, bs, ts, hc, hcw, hcb, hcg, _⟩ := hC
    generalize hQ : wpre P' l n0 o0 (P'.length + 1) = Q' at k hcb
    generalize hgs : gapQ P' l n0 o0 = gs at k hcg
    have gat : ∀ g, g ≤ P'.length → (nl ((List.range (P'.length + 1)).map gs))[g]? = some (.int (gs g : Int)) := fun g hg => nl_at (by rw [List.getElem?_map, List.getElem?_range (by omega)]; rfl)
    have rd : ∀ {H' : Hp} {σ : L2.St} {te tf : TE} {g : Nat}, Ex H H' → Ev te σ H' (.ref fa) → Ev tf σ H' (.int (g : Int)) → g ≤ P'.length → Ev (tOp (rIxL K) (tFld K te (Str.ofString "gaps")) tf) σ H' (.int (gs g : Int)) := fun e h1 h2 hg => ev_at (ev_fl T.Carried 1 (hc.ex e) h1) h2 (sq_of (e _ _ hcg)) (gat _ hg)
    have bI : akI q ≤ P'.length := by cases q <;> simp only [AskWf] at hwf <;> simp only [akI] <;> omega
    have bK : akK q ≤ P'.length := by cases q <;> simp only [AskWf] at hwf <;> simp only [akK, akI] <;> omega
    have bJ : akI q ≤ akJ q ∧ akJ q ≤ P'.length := by cases q <;> simp only [AskWf] at hwf <;> simp only [akI, akJ] <;> omega
    -- begin
    refine q_asg (rd (Ex.refl H) (ev_var rfl) (ev_fl T.Mark 2 hm (ev_var rfl)) bI) fun H1 e1 => ?_
    -- what begin is then
    have hask := askQ_begin (P := P') (Q := Q') (gs := gs) hwf
    refine q_ifAsg (b := decide (akI q < akJ q)) (v := posV (beginQ P' Q' gs q)) (et_is' (et_test (ev_op (ev_fl T.Mark 3 (hm.ex e1) (ev_var rfl)) (ev_fl T.Mark 2 (hm.ex e1) (ev_var rfl)) rv_I0)) (by rw [Bool.eq_iff_iff]; simp))
      (fun hb => ?_) (fun hb => ?_) fun H2 e2 => ?_
    · have hb' := of_decide_eq_true hb
      have : beginQ P' Q' gs q = whereQ P' Q' (akI q) (akJ q) := if_pos hb'
      rw [this]
      exact ev_callV (ea_cons (ev_var rfl) (ea_cons (ev_fl T.Carried 0 (hc.ex e1) (ev_var rfl)) (ea_cons (ev_fl T.Mark 2 (hm.ex e1) (ev_var rfl)) (ea_cons (ev_fl T.Mark 3 (hm.ex e1) (ev_var rfl)) ea_nil)))) fun H2 e2 =>
        ⟨oa, wa, ots, bs, P', Q', akI q, akJ q, rfl, (e1.trans e2) _ _ hO, hP.mono fun _ _ h => h.ex (e1.trans e2), (e1.trans e2) _ _ hcw, hcb.mono fun _ _ h => h.ex (e1.trans e2), hb', bJ.2, hl, rfl⟩
    · have : beginQ P' Q' gs q = some (gs (akI q)) := if_neg (of_decide_eq_false hb)
      rw [this]
      rfl
    · have e02 := e1.trans e2
      cases hb : beginQ P' Q' gs q with
      | none =>
        rw [hb] at hask
        refine s_if (b := true) (et_is' (et_test (ev_op (ev_var rfl) ev_c rv_I0)) (by decide)) (fun _ H3 e3 => ?_) (fun c => by cases c)
        have e03 := e02.trans e3
        refine q_fl T.Mark 6 (hm.ex e03) (ev_var rfl) ev_c fun H4 dx e4 h4 hi => ?_
        generalize hG : upd H4 a _ = G at hi ⊢
        have oG : Ex (Off [a] H) (Off [a] G) := by rw [← hG, off_upd (by simp)]; exact off_ex (e03.trans e4)
        clear hG
        refine s_fl T.Mark 7 hi (ev_var rfl) (ev_var rfl) fun H5 dx5 e5 h5 hi5 => ?_
        generalize hG : upd H5 a _ = G5 at hi5 ⊢
        have oG5 : Ex (Off [a] H) (Off [a] G5) := by rw [← hG, off_upd (by simp)]; exact oG.trans (off_ex e5)
        refine k G5 oG5 ?_
        have : anew P' Q' gs pr q = .lost pr := by unfold anew; rw [hask]; rfl
        rw [this]
        exact ⟨_, _, _, _, _, hi5⟩
      | some b =>
        rw [hb] at hask
        refine s_if (b := false) (et_is' (et_test (ev_op (ev_var rfl) ev_c rv_I0)) (by simp)) (fun c => by cases c) (fun _ H3 e3 => ?_)
        have e03 := e02.trans e3
        have fin : ∀ (D : Ends) (kk : Nat) H4, (∀ σ' H', Q .non H' → D.nx σ' H') → (kk : Int) = ((akK (atQ gs b q) : Nat) : Int) → Ex (Off [a] H) (Off [a] H4) → InsAt H4 a T.Mark.C flMark [.int (akKind q : Int), .int (r : Int), .int (akI q : Int), .int (akJ q : Int), .int (kk : Int), .ref aw, .int 0, .int p0] →
            tSeq (sFld K (tVar 0) (tOp (rI0 fun i j => V.int (i - j)) (tOp (rI0 fun i j => V.int (i + j)) (tVar 4) (tFld K (tVar 0) (Str.ofString "j"))) (tFld K (tVar 0) (Str.ofString "i"))) (Str.ofString "j"))
            (sFld K (tVar 0) (tVar 4) (Str.ofString "i")) D [some (.ref a), some (.ref oa), some (.ref fa), some (.int (pr : Int)), some (.int (b : Int))] H4 := by
          intro D kk H4 hD hkk o4 h4
          refine q_fl T.Mark 3 h4 (ev_var rfl) (ev_op (ev_op (ev_var rfl) (ev_fl T.Mark 3 h4 (ev_var rfl)) rv_I0) (ev_fl T.Mark 2 h4 (ev_var rfl)) rv_I0) fun H5 dx e5 h5 hi => ?_
          generalize hG : upd H5 a _ = G at hi ⊢
          have oG : Ex (Off [a] H) (Off [a] G) := by rw [← hG, off_upd (by simp)]; exact o4.trans (off_ex e5)
          clear hG
          refine s_fl T.Mark 2 hi (ev_var rfl) (ev_var rfl) fun H6 dx6 e6 h6 hi6 => ?_
          generalize hG : upd H6 a _ = G6 at hi6 ⊢
          have oG6 : Ex (Off [a] H) (Off [a] G6) := by rw [← hG, off_upd (by simp)]; exact oG.trans (off_ex e6)
          refine hD _ _ (k G6 oG6 ?_)
          have : anew P' Q' gs pr q = .open_ (atQ gs b q) := by unfold anew; rw [hask]; rfl
          rw [this]
          refine ⟨aw, p0, ?_, ?_⟩
          · obtain ⟨x1, x2, x3, x4⟩ := atQ_parts gs b q
            rw [x1, x2, ← hkk]
            have x5 : ((akJ (atQ gs b q) : Nat) : Int) = (b : Int) + (akJ q : Int) - (akI q : Int) := by rw [x3]; omega
            rw [x5]
            exact hi6
          · rw [(atQ_parts gs b q).2.2.2]
            exact hw
        refine q_if (b := decide (akKind q = 2)) (et_is' (et_test (ev_op (ev_fl T.Mark 0 (hm.ex e03) (ev_var rfl)) ev_c (rv_eq rfl))) ?_) (fun hk H4 e4 => ?_) (fun hk H4 e4 => ?_)
        · rw [dI', Bool.eq_iff_iff]
          simp only [decide_eq_true_eq]
          omega
        · have e04 := e03.trans e4
          refine s_fl T.Mark 4 (hm.ex e04) (ev_var rfl) (rd e04 (ev_var rfl) (ev_fl T.Mark 4 (hm.ex e04) (ev_var rfl)) bK) fun H5 dx e5 h5 hi => ?_
          generalize hG : upd H5 a _ = G at hi ⊢
          have oG : Ex (Off [a] H) (Off [a] G) := by rw [← hG, off_upd (by simp)]; exact off_ex (e04.trans e5)
          refine fin _ (gs (akK q)) G (fun _ _ h => h) ?_ oG hi
          cases q with
          | move i j g => rfl
          | change i j w => simp [akKind] at hk
          | keep i j => simp [akKind] at hk
        · have e04 := e03.trans e4
          refine s_fl T.Mark 4 (hm.ex e04) (ev_var rfl) (ev_var rfl) fun H5 dx e5 h5 hi => ?_
          generalize hG : upd H5 a _ = G at hi ⊢
          have oG : Ex (Off [a] H) (Off [a] G) := by rw [← hG, off_upd (by simp)]; exact off_ex (e04.trans e5)
          refine fin _ b G (fun _ _ h => h) ?_ oG hi
          cases q with
          | move i j g => exact absurd rfl (of_decide_eq_false hk)
          | change i j w => rfl
          | keep i j => rfl
end
end Pf

end
section
set_option Elab.async false
set_option linter.all false
set_option maxRecDepth 100000
set_option maxHeartbeats 4000000
/-! Marks settled. -/
namespace Pf
open PySem PySem.Spec PyProof.Rows L2 Evl
/-- what becomes of a mark -/
def set1 (P Q : Tx) (gs : Nat → Nat) (pr : Nat) (l : List (Nat × Si42.Ask)) (x : Si42.Mark × Nat) : Si42.Mark := match askOf x.1 with
  | some q => if (l.any fun y => y.1 == x.2) = true then ⟨x.1.reader, .done pr⟩ else ⟨x.1.reader, anew P Q gs pr q⟩
  | none => x.1
def stM (f : Si42.Mark × Nat → Si42.Mark) (ms : List Si42.Mark) (i : Nat) : List Si42.Mark := ms.zipIdx.map fun x => if (((Si42.opens ms).take i).any fun y => y.1 == x.2) = true then f x else x.1
theorem stM_at (f : Si42.Mark × Nat → Si42.Mark) (ms : List Si42.Mark) (i j : Nat) : (stM f ms i)[j]? = (ms[j]?).map fun m => if (((Si42.opens ms).take i).any fun y => y.1 == j) = true then f (m, j) else m := by
  unfold stM
  rw [List.getElem?_map, List.getElem?_zipIdx]
  cases ms[j]? with
  | none => rfl
  | some m =>
    simp only [Option.map_some, Nat.zero_add]
theorem stM_zero (f : Si42.Mark × Nat → Si42.Mark) (ms : List Si42.Mark) : stM f ms 0 = ms := by
  apply List.ext_getElem?
  intro j
  rw [stM_at]
  cases ms[j]? <;> simp
theorem stM_len (f : Si42.Mark × Nat → Si42.Mark) (ms : List Si42.Mark) (i : Nat) : (stM f ms i).length = ms.length := by
  unfold stM
  rw [List.length_map, List.length_zipIdx]
theorem stM_all (f : Si42.Mark × Nat → Si42.Mark) (ms : List Si42.Mark) (hf : ∀ m j, askOf m = none → f (m, j) = m) : stM f ms (Si42.opens ms).length = ms.zipIdx.map f := by
  apply List.ext_getElem?
  intro j
  rw [stM_at, List.getElem?_map, List.getElem?_zipIdx, List.take_length]
  cases hm : ms[j]? with
  | none => rfl
  | some m =>
    simp only [Option.map_some, Nat.zero_add]
    cases ha : askOf m with
    | none =>
      rw [hf m j ha]
      split <;> rfl
    | some q =>
      have : ((Si42.opens ms).any fun y => y.1 == j) = true := List.any_eq_true.mpr ⟨(j, q), opens_mem.mpr ⟨m, hm, ha⟩, by simp⟩
      rw [if_pos this]
theorem opens_not {ms : List Si42.Mark} {i : Nat} {x : Nat × Si42.Ask} (h : (Si42.opens ms)[i]? = some x) : (((Si42.opens ms).take i).any fun y => y.1 == x.1) = false := by
  rw [List.any_eq_false]
  intro y hy
  obtain ⟨j, hj⟩ := List.mem_iff_getElem?.mp hy
  rw [List.getElem?_take] at hj
  split at hj
  · rename_i hlt
    have pw := opens_pw ms
    rw [List.pairwise_iff_getElem] at pw
    obtain ⟨li, ei⟩ := List.getElem?_eq_some_iff.mp h
    obtain ⟨lj, ej⟩ := List.getElem?_eq_some_iff.mp hj
    have := pw j i lj li hlt
    rw [ei, ej] at this
    simp
    omega
  · cases hj
section
variable {P : Program} {w : World} {K : PySem.W.Frag} {mg : Str → Option Value} {base : Heap}
theorem stM_step {T : Tp K mg} {H H' I : Hp} {f : Si42.Mark × Nat → Si42.Mark} {ms : List Si42.Mark} {as : List Addr} {i : Nat} {x : Nat × Si42.Ask} {a : Addr} {m : Si42.Mark} (h : Al2 (MarkAt T H I) as (stM f ms i)) (nd : as.Nodup) (hx : (Si42.opens ms)[i]? = some x) (ha : as[x.1]? = some a)
    (hm : ms[x.1]? = some m) (e : Ex (Off [a] H) (Off [a] H')) (hM : MarkAt T H' I a (f (m, x.1))) : Al2 (MarkAt T H' I) as (stM f ms (i + 1)) := by
  refine ⟨by rw [h.1, stM_len, stM_len], fun j b m' hb hm' => ?_⟩
  rw [stM_at, take_next hx, List.any_append] at hm'
  by_cases c : j = x.1
  · subst c
    rw [ha] at hb
    cases hb
    rw [hm] at hm'
    have : (([x] : List (Nat × Si42.Ask)).any fun y => y.1 == x.1) = true := by simp
    rw [this, Bool.or_true, Option.map_some] at hm'
    have := Option.some.inj hm'
    rw [← this]
    exact hM
  · have : (([x] : List (Nat × Si42.Ask)).any fun y => y.1 == j) = false := by simp; omega
    rw [this, Bool.or_false] at hm'
    refine (h.2 j b m' hb (by rw [stM_at]; exact hm')).frame e fun z => c ?_
    subst z
    exact nd_ix nd hb ha
theorem mark_ins {T : Tp K mg} {H I : Hp} {as : List Addr} {ms : List Si42.Mark} (h : Al2 (MarkAt T H I) as ms) {a : Addr} (ha : a ∈ as) : ∃ vs, InsAt H a T.Mark.C flMark vs := by
  obtain ⟨j, hj⟩ := List.mem_iff_getElem?.mp ha
  obtain ⟨m, _, hm⟩ := h.getL hj
  obtain ⟨vs, h1, _⟩ := mark_st hm
  exact ⟨vs, h1⟩
theorem not_mark {T : Tp K mg} {H I : Hp} {as : List Addr} {ms : List Si42.Mark} (h : Al2 (MarkAt T H I) as ms) {a : Addr} {xs : List V} (ha : H a = some (.lst xs)) : a ∉ as := fun z => by
  obtain ⟨vs, _, dx, hi⟩ := mark_ins h z
  rw [ha] at hi
  cases hi
theorem in_nums (n : Nat) (l : List Nat) : inV (.int (n : Int)) (nl l) = l.any fun y => y == n := by
  unfold inV nl
  rw [List.any_map]
  congr 1
  funext y
  show decide _ = _
  rw [Bool.eq_iff_iff]
  simp
  omega
theorem flat_nums (l : List Nat) : (nl l).all flatV = true := by
  unfold nl
  rw [List.all_map, List.all_eq_true]
  intro x _
  rfl
/-- a call for what it does -/
theorem s_callD {σ : L2.St} {H : Hp} {sp : Sp} {E : XK} {ta : TA} {vs : List V} {D : Ends} (h : EvA ta σ H vs) (k : ∀ H1, Ex H H1 → sp (vs ++ []) H1 (fun _ H2 => D.nx σ H2) E) : tDrop (tCall sp [] E ta) D σ H := h H (Ex.refl H) _ fun H1 e => k H1 e
theorem q_callD {σ : L2.St} {H : Hp} {sp : Sp} {E : XK} {ta : TA} {vs : List V} {D : Ends} {tz : TS} (h : EvA ta σ H vs) (k : ∀ H1, Ex H H1 → sp (vs ++ []) H1 (fun _ H2 => tz D σ H2) E) : tSeq (tDrop (tCall sp [] E ta)) tz D σ H := s_callD (D := { D with nx := tz D }) h k
def sp_settle_marks (T : Tp K mg) : Sp := fun vs H Q _ => ∃ am nn oa fa pr as ms l ll n0 o0 P ots I, Ex I H ∧ vs = [.ref am, .ref nn, .ref oa, .ref fa, .int ((pr : Nat) : Int)] ∧ MarksAt T H I am as ms ∧ as.Nodup ∧ ms.length ≤ 60 ∧
  H nn = some (.lst (nl ((l : List (Nat × Si42.Ask)).map (·.1)))) ∧ WfO P.length ms ∧ H oa = some (.lst (ots.map V.ref)) ∧ Al2 (WordAt T (Off as H)) ots P ∧ CarrAt T (Off as H) fa P ll n0 o0 ∧ P.length ≤ 100 ∧
  ∀ H', Ex (Off as H) (Off as H') → Al2 (MarkAt T H' I) as (ms.zipIdx.map (set1 P (wpre P ll n0 o0 (P.length + 1)) (gapQ P ll n0 o0) pr l)) → Q .non H'
-- slots: marks 0, numbers 1, old 2, found 3, proof 4, number 5
theorem ok_settle_marks (T : Tp K mg) : FnOk P w K mg base CX0 4 T.settle_marks.f T.settle_marks.fd P_settle_marks (sp_settle_marks T) := by
  refine T.settle_marks.F.ok sc_settle_marks (fun vs H Q E h => ?_) (fun cdv A outer s H vs Q E hr h => ⟨_, (pss_one (ps_for PassesOwn.never rfl (pi_list (pe_call (ok_open_marks T) (hr.mono (by decide)) rfl T.open_marks.g T.open_marks.F.kp T.open_marks.b .nil pass0 (pa_cons (pv 0) pa_nil))) (pg_name (i := 5) sc_settle_marks.nd rfl (.inl rfl)) (pss_one (ps_if (pt_cmpR op_in_seq (pv 5) (pv 1) (by rfl)) (pss_cons (ps_fld (pe_ix ix_list (pv 0) (pv 5) (fun _ _ => rfl)) (pe_glob (v := .int 1) rfl T.kDONE ⟨_, rfl⟩) rfl)
    (pss_one (ps_fld (pe_ix ix_list (pv 0) (pv 5) (fun _ _ => rfl)) (pv 4) rfl))) (pss_one (ps_expr (pe_call (ok_ask_anew T) (hr.mono (by decide)) rfl T.ask_anew.g T.ask_anew.F.kp T.ask_anew.b .nil pass0 (pa_cons (pe_ix ix_list (pv 0) (pv 5) (fun _ _ => rfl)) (pa_cons (pv 2) (pa_cons (pv 3) (pa_cons (pv 4) pa_nil))))))))))), ?_⟩)
  · obtain ⟨am, nn, oa, fa, pr, as, ms, l, ll, n0, o0, P', ots, I, hI, rfl, _⟩ := h
    rfl
  · obtain ⟨am, nn, oa, fa, pr, as, ms, l, ll, n0, o0, P', ots, I, hI, rfl, hM, nd, hml, hN, hwf, hO, hP, hC, hl, k⟩ := h
    generalize hf : set1 P' (wpre P' ll n0 o0 (P'.length + 1)) (gapQ P' ll n0 o0) pr l = f at k
    have naM : am ∉ as := not_mark hM.2 hM.1
    have naN : nn ∉ as := not_mark hM.2 hN
    have naO : oa ∉ as := not_mark hM.2 hO
    have oM : Off as H am = some (.lst (as.map V.ref)) := by rw [off_out naM]; exact hM.1
    have oN : Off as H nn = some (.lst (nl (l.map (·.1)))) := by rw [off_out naN]; exact hN
    have oO : Off as H oa = some (.lst (ots.map V.ref)) := by rw [off_out naO]; exact hO
    have hfn : ∀ m j, askOf m = none → f (m, j) = m := fun m j e => by
      rw [← hf]
      unfold set1
      dsimp only
      rw [e]
    refine s_forNLn (evr_l (er_callR (ea_cons (ev_var rfl) ea_nil) fun H1 e => ⟨am, as, ms, rfl, hM.ex e (hI.trans e), hml, rfl⟩))
      (fun p i σ' H' => Ex (Off as H) (Off as H') ∧ H' p = some (.lst (nl ((Si42.opens ms).map (·.1)))) ∧ p ∉ as ∧ (∃ x, σ' = [some (.ref am), some (.ref nn), some (.ref oa), some (.ref fa), some (.int (pr : Int)), x]) ∧ Al2 (MarkAt T H' I) as (stM f ms i)) ?h0 ?hl ?hs ?hd
    case h0 =>
      intro p H1 hp e h1
      refine ⟨off_ex e, h1, fun z => ?_, ⟨_, rfl⟩, ?_⟩
      · obtain ⟨vs, _, dx, hi⟩ := mark_ins hM.2 z
        rw [hp] at hi
        cases hi
      · rw [stM_zero]
        exact hM.2.mono fun a b h => h.ex e (Ex.refl I)
    case hl => exact fun p i σ' H' _ h => sq_of h.2.1
    case hd =>
      rintro p σ' H' ⟨p1, p2, p3, ⟨x, rfl⟩, p4⟩
      rw [nl_len, List.length_map, stM_all f ms hfn] at p4
      exact k H' p1 p4
    case hs =>
      rintro p i v σ' H' hv ⟨p1, p2, p3, ⟨x0, rfl⟩, p4⟩
      unfold nl at hv
      rw [List.getElem?_map, List.getElem?_map] at hv
      cases hx : (Si42.opens ms)[i]? with
      | none => rw [hx] at hv; cases hv
      | some x =>
        rw [hx] at hv
        have hv' : V.int (x.1 : Int) = v := Option.some.inj hv
        subst hv'
        have hxm : x ∈ Si42.opens ms := List.mem_of_getElem? hx
        obtain ⟨m, hm, hq⟩ := opens_mem.mp hxm
        obtain ⟨a, ha, hma⟩ := p4.get (b := m) (i := x.1) (by
          rw [stM_at, hm, opens_not hx]
          rfl)
        have haA : a ∈ as := List.mem_of_getElem? ha
        have hop : OpenAt T H' I a m.reader x.2 := mark_open hma hq
        have eM : H' am = some (.lst (as.map V.ref)) := (p1.trans (off_le _ _)) _ _ oM
        have eN : H' nn = some (.lst (nl (l.map (·.1)))) := (p1.trans (off_le _ _)) _ _ oN
        have inA : ∀ H2 : Hp, Ex (Off [a] H') (Off [a] H2) → Ex (Off as H') (Off as H2) := fun H2 e b o hb => by
          obtain ⟨c, hb'⟩ := off_some hb
          have c2 : b ∉ [a] := fun z => c (by simp at z; rw [z]; exact haA)
          rw [off_out c]
          exact (off_some (e b o (by rw [off_out c2]; exact hb'))).2
        have fin : ∀ H2 : Hp, Ex (Off [a] H') (Off [a] H2) → MarkAt T H2 I a (f (m, x.1)) → Ex (Off as H) (Off as H2) ∧ H2 p = some (.lst (nl ((Si42.opens ms).map (·.1)))) ∧ p ∉ as ∧ (∃ y, [some (V.ref am), some (.ref nn), some (.ref oa), some (.ref fa), some (.int (pr : Int)), some (.int (x.1 : Int))] = [some (.ref am), some (.ref nn), some (.ref oa), some (.ref fa), some (.int (pr : Int)), y]) ∧ Al2 (MarkAt T H2 I) as (stM f ms (i + 1)) := fun H2 e h => by
          have ee := inA H2 e
          refine ⟨p1.trans ee, ?_, p3, ⟨_, rfl⟩, stM_step p4 nd hx ha hm e h⟩
          have := ee p _ (by rw [off_out p3]; exact p2)
          exact (off_some this).2
        have hfx : f (m, x.1) = if (l.any fun y => y.1 == x.1) = true then ⟨m.reader, .done pr⟩ else ⟨m.reader, anew P' (wpre P' ll n0 o0 (P'.length + 1)) (gapQ P' ll n0 o0) pr x.2⟩ := by
          rw [← hf]
          unfold set1
          dsimp only
          rw [hq]
        refine s_if (b := l.any fun y => y.1 == x.1) (et_is' (et_test (ev_op (ev_var rfl) (ev_var rfl) (rv_isL (sq_of eN) rfl (flat_nums _)))) ?_) (fun hb H2 e2 => ?_) (fun hb H2 e2 => ?_)
        · rw [in_nums, List.any_map]
          rfl
        · rw [if_pos hb] at hfx
          obtain ⟨aw, p0, hi, hw⟩ := hop
          refine q_fl T.Mark 6 (hi.ex e2) (ev_at (ev_var rfl) (ev_var rfl) (sq_of (e2 _ _ eM)) (by rw [List.getElem?_map, ha]; rfl)) ev_c fun H4 dx e4 h4 hi4 => ?_
          generalize hG : upd H4 a _ = G at hi4 ⊢
          have oG : Ex (Off [a] H') (Off [a] G) := by rw [← hG, off_upd (by simp)]; exact off_ex (e2.trans e4)
          have eMG : G am = some (.lst (as.map V.ref)) := (oG.trans (off_le _ _)) _ _ (by rw [off_out (by simp; intro z; exact naM (z ▸ haA))]; exact eM)
          clear hG
          refine s_fl T.Mark 7 hi4 (ev_at (ev_var rfl) (ev_var rfl) (sq_of eMG) (by rw [List.getElem?_map, ha]; rfl)) (ev_var rfl) fun H5 dx5 e5 h5 hi5 => ?_
          generalize hG : upd H5 a _ = G5 at hi5 ⊢
          have oG5 : Ex (Off [a] H') (Off [a] G5) := by rw [← hG, off_upd (by simp)]; exact oG.trans (off_ex e5)
          refine fin G5 oG5 ?_
          rw [hfx]
          exact ⟨_, _, _, _, _, hi5⟩
        · rw [hb, if_neg (by decide)] at hfx
          refine s_callD (ea_cons (ev_at (ev_var rfl) (ev_var rfl) (sq_of (e2 _ _ eM)) (by rw [List.getElem?_map, ha]; rfl)) (ea_cons (ev_var rfl) (ea_cons (ev_var rfl) (ea_cons (ev_var rfl) ea_nil)))) fun H3 e3 => ?_
          have e23 := e2.trans e3
          have up : Ex (Off as H) H3 := (p1.trans (off_le _ _)).trans e23
          exact ⟨a, oa, fa, pr, m.reader, x.2, P', ll, n0, o0, ots, I, rfl, hop.ex e23 (Ex.refl I), up _ _ oO, hP.mono fun _ _ h => h.ex up, hC.ex up, hwf x hxm, hl, fun H4 e4 hm4 => fin H4 ((off_ex e23).trans e4) (by rw [hfx]; exact hm4)⟩
end
end Pf

end
section
set_option Elab.async false
set_option linter.all false
set_option maxRecDepth 100000
set_option maxHeartbeats 4000000
/-! The costs of ways. -/
namespace Pf
open PySem PySem.Spec PyProof.Rows L2 Evl
abbrev flCosts : List Str := ["other", "out", "into"]
abbrev flPlace : List Str := ["begin", "end", "first", "last"]
abbrev flSlots : List Str := ["counts", "varied"]
/-! ### cells -/
def opI (b : Bool) (v : Int) : List Int := if b = true then [v] else []
theorem cst_out (k : Si38.Costs) (a : Nat) (x : Si38.Text) : cst k (a :: x) [] = cst k x [] + k.out := by rw [cst]
theorem cst_into (k : Si38.Costs) (b : Nat) (y : Si38.Text) : cst k [] (b :: y) = cst k [] y + k.into := by rw [cst]
theorem cell_eq (k : Si38.Costs) (x y : Si38.Text) (i j : Nat) (hi : i ≤ x.length) (hj : j ≤ y.length) :
    leastOr 0 (opI (decide (i < x.length) && decide (j < y.length)) ((cst k (x.drop (i + 1)) (y.drop (j + 1)) : Int) + (Si38.pairCost k (x.getD i 0) (y.getD j 0) : Int)) ++ opI (decide (i < x.length)) ((cst k (x.drop (i + 1)) (y.drop j) : Int) + (k.out : Int)) ++ opI (decide (j < y.length)) ((cst k (x.drop i) (y.drop (j + 1)) : Int) + (k.into : Int))) = (cst k (x.drop i) (y.drop j) : Int) := by
  by_cases h1 : i < x.length
  · have ex : x.drop i = x.getD i 0 :: x.drop (i + 1) := by rw [List.drop_eq_getElem_cons h1]; simp [h1]
    by_cases h2 : j < y.length
    · have ey : y.drop j = y.getD j 0 :: y.drop (j + 1) := by rw [List.drop_eq_getElem_cons h2]; simp [h2]
      have e := cst.eq_4 k (x.getD i 0) (x.drop (i + 1)) (y.getD j 0) (y.drop (j + 1))
      rw [← ex, ← ey] at e
      simp only [h1, h2, decide_true, Bool.and_self, opI, if_true, List.cons_append, List.nil_append, leastOr, List.foldl_cons, List.foldl_nil]
      rw [e]
      omega
    · have ey : y.drop j = [] := List.drop_eq_nil_of_le (by omega)
      simp only [h1, h2, decide_true, decide_false, Bool.and_false, opI, if_true, Bool.false_eq_true, if_false, List.cons_append, List.nil_append, List.append_nil, leastOr, List.foldl_nil]
      rw [ex, ey, cst_out]
      omega
  · have ex : x.drop i = [] := List.drop_eq_nil_of_le (by omega)
    by_cases h2 : j < y.length
    · have ey : y.drop j = y.getD j 0 :: y.drop (j + 1) := by rw [List.drop_eq_getElem_cons h2]; simp [h2]
      simp only [h1, h2, decide_true, decide_false, Bool.false_and, opI, if_true, Bool.false_eq_true, if_false, List.cons_append, List.nil_append, List.append_nil, leastOr, List.foldl_nil]
      rw [ex, ey, cst_into]
      omega
    · have ey : y.drop j = [] := List.drop_eq_nil_of_le (by omega)
      simp only [h1, h2, decide_false, Bool.false_and, opI, Bool.false_eq_true, if_false, List.append_nil, leastOr]
      rw [ex, ey, cst.eq_1]
      rfl
/-- a row from m on -/
def hrow (k : Si38.Costs) (x y : Si38.Text) (i m : Nat) : List Nat := (List.range (y.length + 1)).map fun j => if m ≤ j then cst k (x.drop i) (y.drop j) else 0
theorem hrow_len (k : Si38.Costs) (x y : Si38.Text) (i m : Nat) : (hrow k x y i m).length = y.length + 1 := by simp [hrow]
theorem hrow_at (k : Si38.Costs) (x y : Si38.Text) (i m j : Nat) (hj : j ≤ y.length) (h : m ≤ j) : (hrow k x y i m)[j]? = some (cst k (x.drop i) (y.drop j)) := by
  unfold hrow
  rw [List.getElem?_map, List.getElem?_range (by omega), Option.map_some, if_pos h]
theorem hrow_zero (k : Si38.Costs) (x y : Si38.Text) (i : Nat) : hrow k x y i (y.length + 1) = List.replicate (y.length + 1) 0 := by
  unfold hrow
  apply List.ext_getElem?
  intro j
  rw [List.getElem?_map]
  by_cases h : j < y.length + 1
  · rw [List.getElem?_range h, Option.map_some, if_neg (by omega), List.getElem?_replicate, if_pos h]
  · rw [List.getElem?_eq_none (by simp; omega), List.getElem?_replicate, if_neg h]
    rfl
theorem hrow_set (k : Si38.Costs) (x y : Si38.Text) (i j : Nat) (hj : j ≤ y.length) : (nl (hrow k x y i (j + 1))).set j (.int (cst k (x.drop i) (y.drop j) : Int)) = nl (hrow k x y i j) := by
  apply List.ext_getElem?
  intro l
  rw [List.getElem?_set]
  unfold nl hrow
  simp only [List.getElem?_map, List.length_map, List.length_range]
  by_cases hl : l < y.length + 1
  · rw [List.getElem?_range hl]
    by_cases c : j = l
    · subst c
      rw [if_pos rfl, if_pos hl]
      simp
    · rw [if_neg c]
      simp only [Option.map_some]
      by_cases c2 : j ≤ l
      · rw [if_pos (by omega), if_pos c2]
      · rw [if_neg (by omega), if_neg c2]
  · rw [List.getElem?_eq_none (by simp; omega)]
    by_cases c : j = l
    · omega
    · rw [if_neg c]
      rfl
section
variable {P : Program} {w : World} {K : PySem.W.Frag} {mg : Str → Option Value} {base : Heap}
def sp_Costs_init (T : Tp K mg) : Sp := spI T.Costs.C 3 fun p xs H => InsAt H p T.Costs.C flCosts xs
-- slots: self 0, other 1, out 2, into 3
theorem ok_Costs_init (T : Tp K mg) : FnOk P w K mg base CX0 1 T.Costs.fI T.Costs.fdI P_Costs_init (sp_Costs_init T) := by
  refine T.Costs.F.ok sc_Costs_init (fun vs H Q E h => ?_) (fun cdv A outer s H vs Q E hr h => ⟨_, (pss_cons (ps_fld (pv 0) (pv 1) rfl)
    (pss_cons (ps_fld (pv 0) (pv 2) rfl)
    (pss_one (ps_fld (pv 0) (pv 3) rfl)))), ?_⟩)
  · obtain ⟨p, dx, xs, rfl, hl, _⟩ := h
    simp [hl]
  · obtain ⟨p, dx, xs, rfl, hl, hp, k⟩ := h
    match xs, hl with
    | [v1, v2, v3], _ =>
      refine q_new 0 T.Costs (vs := []) hp (fun H1 e => ev_var rfl) (ev_p (ev_var rfl)) fun y H1 H2 e1 hy e2 => ?_
      subst hy
      refine q_new 1 T.Costs upd_same (fun H1 e => ev_var rfl) (ev_p (ev_var rfl)) fun y H3 H4 e3 hy e4 => ?_
      subst hy
      refine s_new 2 T.Costs upd_same (fun H1 e => ev_var rfl) (ev_p (ev_var rfl)) fun y H5 H6 e5 hy e6 => ?_
      subst hy
      exact k _ (Keep.step (Keep.step (Keep.step Keep.refl (e1.trans e2)) (e3.trans e4)) (e5.trans e6)) ⟨rfl, dx, upd_same⟩
def sp_Place_init (T : Tp K mg) : Sp := spI T.Place.C 4 fun p xs H => InsAt H p T.Place.C flPlace xs
-- slots: self 0, begin 1, end 2, first 3, last 4
theorem ok_Place_init (T : Tp K mg) : FnOk P w K mg base CX0 1 T.Place.fI T.Place.fdI P_Place_init (sp_Place_init T) := by
  refine T.Place.F.ok sc_Place_init (fun vs H Q E h => ?_) (fun cdv A outer s H vs Q E hr h => ⟨_, (pss_cons (ps_fld (pv 0) (pv 1) rfl)
    (pss_cons (ps_fld (pv 0) (pv 2) rfl)
    (pss_cons (ps_fld (pv 0) (pv 3) rfl)
    (pss_one (ps_fld (pv 0) (pv 4) rfl))))), ?_⟩)
  · obtain ⟨p, dx, xs, rfl, hl, _⟩ := h
    simp [hl]
  · obtain ⟨p, dx, xs, rfl, hl, hp, k⟩ := h
    match xs, hl with
    | [v1, v2, v3, v4], _ =>
      refine q_new 0 T.Place (vs := []) hp (fun H1 e => ev_var rfl) (ev_p (ev_var rfl)) fun y H1 H2 e1 hy e2 => ?_
      subst hy
      refine q_new 1 T.Place upd_same (fun H1 e => ev_var rfl) (ev_p (ev_var rfl)) fun y H3 H4 e3 hy e4 => ?_
      subst hy
      refine q_new 2 T.Place upd_same (fun H1 e => ev_var rfl) (ev_p (ev_var rfl)) fun y H5 H6 e5 hy e6 => ?_
      subst hy
      refine s_new 3 T.Place upd_same (fun H1 e => ev_var rfl) (ev_p (ev_var rfl)) fun y H7 H8 e7 hy e8 => ?_
      subst hy
      exact k _ (Keep.step (Keep.step (Keep.step (Keep.step Keep.refl (e1.trans e2)) (e3.trans e4)) (e5.trans e6)) (e7.trans e8)) ⟨rfl, dx, upd_same⟩
def SlotsAt (T : Tp K mg) (H : Hp) (p a1 a2 : Addr) : Prop := InsAt H p T.Slots.C flSlots [.ref a1, .ref a2]
def sp_Slots_init (T : Tp K mg) : Sp := fun vs H Q _ => ∃ p dx n, vs = [.ref p, .int ((n : Nat) : Int)] ∧ n ≤ 100000 ∧ H p = some (.ins T.Slots.C dx []) ∧ ∀ H' a1 a2, Keep p H H' → SlotsAt T H' p a1 a2 → H a1 = none → H a2 = none → a1 ≠ a2 →
  H' a1 = some (.lst (List.replicate n (.int 0))) → H' a2 = some (.lst (List.replicate n (.bl false))) → Q .non H'
-- slots: self 0, many 1
theorem ok_Slots_init (T : Tp K mg) : FnOk P w K mg base CX0 1 T.Slots.fI T.Slots.fdI P_Slots_init (sp_Slots_init T) := by
  refine T.Slots.F.ok sc_Slots_init (fun vs H Q E h => ?_) (fun cdv A outer s H vs Q E hr h => ⟨_, (pss_cons (ps_fld (pv 0) (pe_op op_rep (pe_lst (pa_cons pe_int pa_nil)) (pv 1)) rfl)
    (pss_one (ps_fld (pv 0) (pe_op op_rep (pe_lst (pa_cons pe_bl pa_nil)) (pv 1)) rfl))), ?_⟩)
  · obtain ⟨p, dx, n, rfl, _⟩ := h
    rfl
  · obtain ⟨p, dx, n, rfl, hn, hp, k⟩ := h
    refine q_new 0 T.Slots (vs := []) hp (fun H1 e => ev_var rfl) (EvR.toP (evl_r (el_rep ev_c (ev_var rfl) hn))) fun y H1 H2 e1 hy e2 => ?_
    obtain ⟨a1, rfl, n1, h1⟩ := hy
    have k1 : Keep p H (upd H2 p (.ins T.Slots.C dx ((flSlots.take 1).zip ([] ++ [.ref a1])))) := Keep.step Keep.refl (e1.trans e2)
    have p1 : a1 ≠ p := fun z => by rw [z, hp] at n1; cases n1
    refine s_new 1 T.Slots upd_same (fun H1 e => ev_var rfl) (EvR.toP (evl_r (el_rep ev_c (ev_var rfl) hn))) fun y H3 H4 e3 hy e4 => ?_
    obtain ⟨a2, rfl, n2, h2⟩ := hy
    have p2 : a2 ≠ p := fun z => by rw [z, upd_same] at n2; cases n2
    have g2 : (upd H2 p (.ins T.Slots.C dx ((flSlots.take 1).zip ([] ++ [.ref a1])))) a1 = some (.lst (List.replicate n (.int 0))) := by rw [upd_ne p1]; exact e2 _ _ h1
    have p12 : a1 ≠ a2 := fun z => by rw [← z, g2] at n2; cases n2
    have n2' : H a2 = none := by
      cases q : H a2 with
      | none => rfl
      | some o => rw [k1 _ _ q p2] at n2; cases n2
    refine k _ a1 a2 (Keep.step k1 (e3.trans e4)) ⟨rfl, dx, upd_same⟩ n1 n2' p12 ?_ ?_
    · rw [upd_ne p1]; exact (e3.trans e4) _ _ g2
    · rw [upd_ne p2]; exact e4 _ _ h2
end
def CostAt {K : PySem.W.Frag} {mg : Str → Option Value} (T : Tp K mg) (H : Hp) (c : Addr) (k : Si38.Costs) : Prop := InsAt H c T.Costs.C flCosts [.int (k.other : Int), .int (k.out : Int), .int (k.into : Int)]
section
variable {P : Program} {w : World} {K : PySem.W.Frag} {mg : Str → Option Value} {base : Heap}
theorem CostAt.ex {T : Tp K mg} {H H' : Hp} {c : Addr} {k : Si38.Costs} (h : CostAt T H c k) (e : Ex H H') : CostAt T H' c k := InsAt.ex h e
def sp_pair_cost (T : Tp K mg) : Sp := spV fun vs v H => ∃ c k a b, vs = [.ref c, .int ((a : Nat) : Int), .int ((b : Nat) : Int)] ∧ CostAt T H c k ∧ v = .int (Si38.pairCost k a b : Int)
-- slots: costs 0, one 1, other 2
theorem ok_pair_cost (T : Tp K mg) : FnOk P w K mg base CX0 1 T.pair_cost.f T.pair_cost.fd P_pair_cost (sp_pair_cost T) := by
  refine T.pair_cost.F.ok sc_pair_cost (fun vs H Q E h => ?_) (fun cdv A outer s H vs Q E hr h => ⟨_, (pss_cons (ps_if (pt_cmpR op_eq (pv 1) (pv 2) (nomark _)) (pss_one (ps_ret pe_int)) pss_nil)
    (pss_one (ps_ret (pe_fld (pv 0) rfl)))), ?_⟩)
  · obtain ⟨v, ⟨c, k0, a, b, rfl, _⟩, _⟩ := h
    rfl
  · obtain ⟨v, ⟨c, k0, a, b, rfl, hc, rfl⟩, k⟩ := h
    refine q_when (b := decide (a = b)) (et_is' (et_test (ev_op (ev_var rfl) (ev_var rfl) (rv_eq rfl))) (dI _ _)) (fun hb H1 e1 => ?_) (fun hb H1 e1 => ?_)
    · have : Si38.pairCost k0 a b = 0 := if_pos (of_decide_eq_true hb)
      rw [this] at k
      exact s_ret ev_c fun H2 e2 => k H2 (e1.trans e2)
    · have : Si38.pairCost k0 a b = k0.other := if_neg (of_decide_eq_false hb)
      rw [this] at k
      exact s_ret (ev_fl T.Costs 0 (hc.ex e1) (ev_var rfl)) fun H2 e2 => k H2 (e1.trans e2)
/-- the rows of costs -/
def RowsAt (H : Hp) (p : Addr) (k : Si38.Costs) (x y : Si38.Text) : Prop := ∃ as : List Addr, H p = some (.lst (as.map V.ref)) ∧ as.length = x.length + 1 ∧ ∀ i a, as[i]? = some a → H a = some (.lst (nl (hrow k x y i 0)))
theorem RowsAt.ex {H H' : Hp} {p : Addr} {k : Si38.Costs} {x y : Si38.Text} (h : RowsAt H p k x y) (e : Ex H H') : RowsAt H' p k x y := by
  obtain ⟨as, h1, h2, h3⟩ := h
  exact ⟨as, e _ _ h1, h2, fun i a ha => e _ _ (h3 i a ha)⟩
def sp_cheapest (T : Tp K mg) : Sp := spR fun vs H P => ∃ xa ya ca k x y, vs = [.ref xa, .ref ya, .ref ca] ∧ H xa = some (.lst (nl x)) ∧ H ya = some (.lst (nl y)) ∧ CostAt T H ca k ∧ x.length ≤ 200 ∧ y.length ≤ 200 ∧ P = fun p H2 => RowsAt H2 p k x y
-- slots: base 0, copy 1, costs 2, rows 3, i 4, j 5, found 6
theorem ok_cheapest (T : Tp K mg) : FnOk P w K mg base CX0 2 T.cheapest.f T.cheapest.fd P_cheapest (sp_cheapest T) := by
  refine T.cheapest.F.ok sc_cheapest (fun vs H Q E h => ?_) (fun cdv A outer s H vs Q E hr h => ⟨_, (pss_cons (ps_setLc (i := 3) (own := [("i", 4)]) (g := (gName 4)) (tt := tYes) (te := (tOp rRep (tLst (tCons (tC (.int 0)) tNil)) (tOp (rI0 fun i j => .int (i + j)) (tCB (rLenS K) (tCons (tVar 1) tNil)) (tC (.int 1))))) rfl sc_cheapest.nd rfl rfl (sw_true rfl rfl rfl (by decide +kernel)) (pi_range1 rfl T.nrange (pa_cons (pe_op op_add (pe_callB call_len_seq rfl T.nlen PySem.boot_len (pa_cons (pv 0) pa_nil)) pe_int) pa_nil)) (blkOk_by (own := [("i", 4)]) (N := N_cheapest) (sc := defScope s_cheapest) (by decide +kernel)) (fun _ _ _ _ _ => (pg_name (i := 4) sc_cheapest.nd rfl (.inl rfl))) (fun _ _ _ _ _ => pts_nil) (fun _ _ _ _ _ => (pe_op op_rep (pe_lst (pa_cons pe_int pa_nil)) (pe_op op_add (pe_callB call_len_seq rfl T.nlen PySem.boot_len (pa_cons (pv 1) pa_nil)) pe_int))))
    (pss_cons (ps_for PassesOwn.never rfl (pi_revR rfl T.nreversed (prg_1 rfl T.nrange (pe_op op_add (pe_callB call_len_seq rfl T.nlen PySem.boot_len (pa_cons (pv 0) pa_nil)) pe_int))) (pg_name (i := 4) sc_cheapest.nd rfl (.inl rfl)) (pss_one (ps_for PassesOwn.never rfl (pi_revR rfl T.nreversed (prg_1 rfl T.nrange (pe_op op_add (pe_callB call_len_seq rfl T.nlen PySem.boot_len (pa_cons (pv 1) pa_nil)) pe_int))) (pg_name (i := 5) sc_cheapest.nd rfl (.inl rfl)) (pss_cons (ps_set (i := 6) sc_cheapest.nd rfl (.inl rfl) (pe_lst pa_nil))
    (pss_cons (ps_if (PW.pt (pw_and (pt_cmpR op_lt (pv 4) (pe_callB call_len_seq rfl T.nlen PySem.boot_len (pa_cons (pv 0) pa_nil)) (nomark _)) (pw_and1 (pt_cmpR op_lt (pv 5) (pe_callB call_len_seq rfl T.nlen PySem.boot_len (pa_cons (pv 1) pa_nil)) (nomark _))))) (pss_one (ps_expr (pe_bm PySem.F.plainAttrs_list PySem.F.slot_list_append PySem.F.type_list_append mt_append (pv 6) (pa_cons (pe_op op_add (pe_ix ix_list (pe_ix ix_list (pv 3) (pe_op op_add (pv 4) pe_int) (fun _ _ => rfl)) (pe_op op_add (pv 5) pe_int) (fun _ _ => rfl)) (pe_call (ok_pair_cost T) (hr.mono (by decide)) rfl T.pair_cost.g T.pair_cost.F.kp T.pair_cost.b .nil pass0 (pa_cons (pv 2) (pa_cons (pe_ix ix_list (pv 0) (pv 4) (fun _ _ => rfl)) (pa_cons (pe_ix ix_list (pv 1) (pv 5) (fun _ _ => rfl)) pa_nil))))) pa_nil)))) pss_nil)
    (pss_cons (ps_if (pt_cmpR op_lt (pv 4) (pe_callB call_len_seq rfl T.nlen PySem.boot_len (pa_cons (pv 0) pa_nil)) (nomark _)) (pss_one (ps_expr (pe_bm PySem.F.plainAttrs_list PySem.F.slot_list_append PySem.F.type_list_append mt_append (pv 6) (pa_cons (pe_op op_add (pe_ix ix_list (pe_ix ix_list (pv 3) (pe_op op_add (pv 4) pe_int) (fun _ _ => rfl)) (pv 5) (fun _ _ => rfl)) (pe_fld (pv 2) rfl)) pa_nil)))) pss_nil)
    (pss_cons (ps_if (pt_cmpR op_lt (pv 5) (pe_callB call_len_seq rfl T.nlen PySem.boot_len (pa_cons (pv 1) pa_nil)) (nomark _)) (pss_one (ps_expr (pe_bm PySem.F.plainAttrs_list PySem.F.slot_list_append PySem.F.type_list_append mt_append (pv 6) (pa_cons (pe_op op_add (pe_ix ix_list (pe_ix ix_list (pv 3) (pv 4) (fun _ _ => rfl)) (pe_op op_add (pv 5) pe_int) (fun _ _ => rfl)) (pe_fld (pv 2) rfl)) pa_nil)))) pss_nil)
    (pss_one (ps_asg (pe_callBK (cr_minD rfl hr.units) rfl T.nmin (by decide +kernel) (pa_cons (pv 6) pa_nil) (pk_cons pe_int pk_nil)) (pg_sub (pe_ix ix_list (pv 3) (pv 4) (fun _ _ => rfl)) (pv 5) set_list))))))))))
    (pss_one (ps_ret (pv 3))))), ?_⟩)
  · obtain ⟨v, ⟨xa, ya, ca, k0, x, y, rfl, _⟩, _⟩ := h
    rfl
  · obtain ⟨P', ⟨xa, ya, ca, k0, x, y, rfl, hX, hY, hC, hx, hy, rfl⟩, k⟩ := h
    have hlx : ∀ {σ : L2.St} {te : TE} {H' : Hp}, Ex H H' → Ev te σ H' (.ref xa) → Ev (tOp (rI0 fun i j => V.int (i + j)) (tCB (rLenS K) (tCons te tNil)) (tC (.int 1))) σ H' (.int ((x.length + 1 : Nat) : Int)) := fun e h =>
      ev_is (ev_op (ev_len h (sq_of (e _ _ hX))) ev_c rv_I0) (by rw [nl_len]; rfl)
    have hly : ∀ {σ : L2.St} {te : TE} {H' : Hp}, Ex H H' → Ev te σ H' (.ref ya) → Ev (tOp (rI0 fun i j => V.int (i + j)) (tCB (rLenS K) (tCons te tNil)) (tC (.int 1))) σ H' (.int ((y.length + 1 : Nat) : Int)) := fun e h =>
      ev_is (ev_op (ev_len h (sq_of (e _ _ hY))) ev_c rv_I0) (by rw [nl_len]; rfl)
    refine q_asgR (er_rows (n := x.length + 1) (ea_cons (hlx (Ex.refl H) (ev_var rfl)) ea_nil) (by omega) (fun _ => rfl) (fun i H1 e => el_rep ev_c (hly e (ev_var rfl)) (by omega))) fun ra H1 n1 e1 h1 => ?_
    obtain ⟨as, hra, hal, hnd, has⟩ := h1
    have raN : ra ∉ as := fun z => (has ra z).2.1 rfl
    refine q_forRev (n := x.length + 1) (hlx e1 (ev_var rfl)) (by omega) (fun i σ' H' => Ex H (Off as H') ∧ H' ra = some (.lst (as.map V.ref)) ∧ (∃ u v z, σ' = [some (.ref xa), some (.ref ya), some (.ref ca), some (.ref ra), u, v, z]) ∧
      ∀ i' a, as[i']? = some a → H' a = some (.lst (nl (hrow k0 x y i' (if i ≤ i' then 0 else y.length + 1))))) ?h0 ?hs ?hd
    case h0 =>
      intro H2 e2
      refine ⟨off_of (e1.trans e2) (fun a ha => (has a ha).1), e2 _ _ hra, ⟨_, _, _, rfl⟩, fun i' a ha => ?_⟩
      have hi : i' < x.length + 1 := by rw [← hal]; exact (List.getElem?_eq_some_iff.mp ha).1
      rw [if_neg (by omega), hrow_zero]
      have := e2 _ _ (has a (List.mem_of_getElem? ha)).2.2
      rw [this]
      unfold nl
      rw [List.map_replicate]
      rfl
    case hd =>
      rintro σ' H' ⟨p1, p2, ⟨u, v, z, rfl⟩, p3⟩
      refine s_ret (ev_var rfl) fun H2 e2 => k ra H2 n1 ((p1.trans (off_le _ _)).trans e2) ⟨as, e2 _ _ p2, hal, fun i a ha => e2 _ _ ?_⟩
      have := p3 i a ha
      rw [if_pos (Nat.zero_le _)] at this
      exact this
    case hs =>
      rintro i σ' H' hi ⟨p1, p2, ⟨u, v, z, rfl⟩, p3⟩
      have eH : Ex H H' := p1.trans (off_le _ _)
      refine s_forRev (n := y.length + 1) (hly eH (ev_var rfl)) (by omega) (fun j σ' H' => Ex H (Off as H') ∧ H' ra = some (.lst (as.map V.ref)) ∧ (∃ v z, σ' = [some (.ref xa), some (.ref ya), some (.ref ca), some (.ref ra), some (.int (i : Int)), v, z]) ∧
        ∀ i' a, as[i']? = some a → H' a = some (.lst (nl (hrow k0 x y i' (if i' = i then j else if i ≤ i' then 0 else y.length + 1))))) ?g0 ?gs ?gd
      case g0 =>
        intro H2 e2
        refine ⟨p1.trans (off_ex e2), e2 _ _ p2, ⟨_, _, rfl⟩, fun i' a ha => ?_⟩
        have := e2 _ _ (p3 i' a ha)
        rw [this]
        congr 4
        by_cases c : i' = i
        · rw [if_pos c, if_neg (by omega)]
        · rw [if_neg c]
          by_cases c2 : i ≤ i'
          · rw [if_pos c2, if_pos (by omega)]
          · rw [if_neg c2, if_neg (by omega)]
      case gd =>
        rintro σ' H2 ⟨q1, q2, ⟨v, z, rfl⟩, q3⟩
        refine ⟨q1, q2, ⟨_, _, _, rfl⟩, fun i' a ha => ?_⟩
        rw [q3 i' a ha]
        congr 4
        by_cases c : i' = i
        · rw [if_pos c, if_pos (by omega)]
        · rw [if_neg c]
      case gs =>
        rintro j σ' H2 hj ⟨q1, q2, ⟨v, z, rfl⟩, q3⟩
        have e2H : Ex H H2 := q1.trans (off_le _ _)
        refine q_asgL (el_lst ea_nil (by decide)) fun fd H3 nf e3 hf => ?_
        have fra : ra ≠ fd := fun z => by rw [← z, q2] at nf; cases nf
        have fas : ∀ {i' : Nat} {a : Addr}, as[i']? = some a → a ≠ fd := fun ha z => by have := q3 _ _ ha; rw [z, nf] at this; cases this
        -- what stands
        have keep : ∀ {H' : Hp}, Ex (Off [fd] H3) (Off [fd] H') → ∀ b o, b ≠ fd → H3 b = some o → H' b = some o := fun e b o hb h => (off_some (e b o (by rw [off_out (by simp [hb])]; exact h))).2
        have ofH : ∀ {H' : Hp}, Ex (Off [fd] H3) (Off [fd] H') → Ex H (Off as H') := fun e b o h => by
          have h2 := q1 b o h
          obtain ⟨c, h2⟩ := off_some h2
          rw [off_out c]
          exact keep e b o (fun z => by rw [z, nf] at h2; cases h2) (e3 _ _ h2)
        have row : ∀ {H' : Hp}, Ex (Off [fd] H3) (Off [fd] H') → ∀ i' a, as[i']? = some a → H' a = some (.lst (nl (hrow k0 x y i' (if i' = i then j + 1 else if i ≤ i' then 0 else y.length + 1)))) := fun e i' a ha => keep e a _ (fas ha) (e3 _ _ (q3 i' a ha))
        have rra : ∀ {H' : Hp}, Ex (Off [fd] H3) (Off [fd] H') → H' ra = some (.lst (as.map V.ref)) := fun e => keep e ra _ fra (e3 _ _ q2)
        have cell : ∀ {σ : L2.St} {te tf : TE} {H' : Hp} {i' j' : Nat}, Ex (Off [fd] H3) (Off [fd] H') → Ev (tVar 3) σ H' (.ref ra) → Ev te σ H' (.int (i' : Int)) → Ev tf σ H' (.int (j' : Int)) → i' ≤ x.length → j' ≤ y.length → (i < i' ∨ i' = i ∧ j < j') →
            Ev (tOp (rIxL K) (tOp (rIxL K) (tVar 3) te) tf) σ H' (.int (cst k0 (x.drop i') (y.drop j') : Int)) := fun {σ te tf H' i' j'} e h0 h1 h2 hi' hj' hd => by
          have hlt : i' < as.length := by omega
          have ha : as[i']? = some as[i'] := by simp [hlt]
          generalize as[i'] = a at ha
          have hm : (if i' = i then j + 1 else if i ≤ i' then 0 else y.length + 1) ≤ j' := by
            by_cases c : i' = i
            · rw [if_pos c]; omega
            · rw [if_neg c, if_pos (by omega)]; omega
          exact ev_at (ev_at h0 h1 (sq_of (rra e)) (by rw [List.getElem?_map, ha]; rfl)) h2 (sq_of (row e i' a ha)) (nl_at (hrow_at k0 x y i' _ j' hj' hm))
        have plus : ∀ {σ : L2.St} {te : TE} {H' : Hp} {n : Nat}, Ev te σ H' (.int (n : Int)) → Ev (tOp (rI0 fun i j => V.int (i + j)) te (tC (.int 1))) σ H' (.int ((n + 1 : Nat) : Int)) := fun h => ev_is (ev_op h ev_c rv_I0) (by rw [Int.natCast_add]; rfl)
        have lenx : ∀ {σ : L2.St} {te : TE} {H' : Hp}, Ex (Off [fd] H3) (Off [fd] H') → Ev te σ H' (.ref xa) → Ev (tCB (rLenS K) (tCons te tNil)) σ H' (.int (x.length : Int)) := fun e h => ev_is (ev_len h (sq_of (((ofH e).trans (off_le _ _)) _ _ hX))) (by rw [nl_len])
        have leny : ∀ {σ : L2.St} {te : TE} {H' : Hp}, Ex (Off [fd] H3) (Off [fd] H') → Ev te σ H' (.ref ya) → Ev (tCB (rLenS K) (tCons te tNil)) σ H' (.int (y.length : Int)) := fun e h => ev_is (ev_len h (sq_of (((ofH e).trans (off_le _ _)) _ _ hY))) (by rw [nl_len])
        have lt1 : ∀ {σ : L2.St} {ta tb : TE} {H' : Hp} {m n : Nat}, Ev ta σ H' (.int (m : Int)) → Ev tb σ H' (.int (n : Int)) → EvT (tTest (tOp (rI0 fun i j => V.bl (decide (i < j))) ta tb)) σ H' (decide (m < n)) := fun h1 h2 => et_is' (et_test (ev_op h1 h2 rv_I0)) (by rw [Bool.eq_iff_iff]; simp)
        have opm : ∀ (b : Bool) (v : Int), (if b = true then [V.int v] else []) = (opI b v).map V.int := fun b v => by cases b <;> rfl
        have r3 : Ex (Off [fd] H3) (Off [fd] H3) := Ex.refl _
        refine q_whenApp (b := decide (i < x.length) && decide (j < y.length)) (v := .int ((cst k0 (x.drop (i + 1)) (y.drop (j + 1)) : Int) + (Si38.pairCost k0 (x.getD i 0) (y.getD j 0) : Int))) hf (et_and (lt1 (ev_var rfl) (lenx r3 (ev_var rfl))) (fun _ => lt1 (ev_var rfl) (leny r3 (ev_var rfl)))) (fun _ _ => ev_var rfl) (fun hb => ?_) (by simp) fun H4 r4 hf4 => ?_
        · rw [Bool.and_eq_true, decide_eq_true_eq, decide_eq_true_eq] at hb
          refine ev_op (cell r3 (ev_var rfl) (plus (ev_var rfl)) (plus (ev_var rfl)) (by omega) (by omega) (Or.inl (by omega))) ?_ rv_I0
          refine ev_callV (ea_cons (ev_var rfl) (ea_cons (ev_at (n := i) (ev_var rfl) (ev_var rfl) (sq_of ((e2H.trans e3) _ _ hX)) (nl_at (n := x.getD i 0) (by simp [hb.1]))) (ea_cons (ev_at (n := j) (ev_var rfl) (ev_var rfl) (sq_of ((e2H.trans e3) _ _ hY)) (nl_at (n := y.getD j 0) (by simp [hb.2]))) ea_nil))) fun H5 e5 => ⟨ca, k0, _, _, rfl, hC.ex ((e2H.trans e3).trans e5), rfl⟩
        rw [List.nil_append, opm] at hf4
        refine q_whenApp (b := decide (i < x.length)) (v := .int ((cst k0 (x.drop (i + 1)) (y.drop j) : Int) + (k0.out : Int))) hf4 (lt1 (ev_var rfl) (lenx r4 (ev_var rfl))) (fun _ _ => ev_var rfl) (fun hb => ?_) (by unfold opI; split <;> simp) fun H5 r5 hf5 => ?_
        · have hb := of_decide_eq_true hb
          exact ev_op (cell r4 (ev_var rfl) (plus (ev_var rfl)) (ev_var rfl) (by omega) (by omega) (Or.inl (by omega))) (ev_fl T.Costs 1 (hC.ex ((ofH r4).trans (off_le _ _))) (ev_var rfl)) rv_I0
        rw [opm, ← List.map_append] at hf5
        have r35 := r4.trans r5
        refine q_whenApp (b := decide (j < y.length)) (v := .int ((cst k0 (x.drop i) (y.drop (j + 1)) : Int) + (k0.into : Int))) hf5 (lt1 (ev_var rfl) (leny r35 (ev_var rfl))) (fun _ _ => ev_var rfl) (fun hb => ?_) (by rw [List.length_map, List.length_append]; unfold opI; split <;> split <;> simp) fun H6 r6 hf6 => ?_
        · have hb := of_decide_eq_true hb
          exact ev_op (cell r35 (ev_var rfl) (ev_var rfl) (plus (ev_var rfl)) (by omega) (by omega) (Or.inr ⟨rfl, by omega⟩)) (ev_fl T.Costs 2 (hC.ex ((ofH r35).trans (off_le _ _))) (ev_var rfl)) rv_I0
        rw [opm, ← List.map_append] at hf6
        have r36 := r35.trans r6
        have hlt : i < as.length := by omega
        have ha : as[i]? = some as[i] := by simp [hlt]
        generalize as[i] = a at ha
        have haA := List.mem_of_getElem? ha
        have hrow6 := row r36 i a ha
        rw [if_pos rfl] at hrow6
        refine s_setL hrow6 (ev_minD (ev_var rfl) (sq_of hf6)) (ev_at (ev_var rfl) (ev_var rfl) (sq_of (rra r36)) (by rw [List.getElem?_map, ha]; rfl)) (ev_var rfl) (by rw [nl_len, hrow_len]; omega) fun H7 e7 => ?_
        rw [cell_eq k0 x y i j (by omega) (by omega), hrow_set k0 x y i j (by omega)]
        refine ⟨?_, ?_, ⟨_, _, rfl⟩, fun i' b hb => ?_⟩
        · rw [off_upd haA]
          exact (ofH r36).trans (off_ex e7)
        · rw [upd_ne (show ra ≠ a from fun z => raN (by rw [z]; exact haA))]
          exact e7 _ _ (rra r36)
        · by_cases c : i' = i
          · subst c
            rw [ha] at hb
            cases hb
            rw [upd_same, if_pos rfl]
          · have : b ≠ a := fun z => c (by subst z; exact nd_ix hnd hb ha)
            rw [upd_ne this, if_neg c]
            have := e7 _ _ (row r36 i' b hb)
            rw [if_neg c] at this
            exact this
end
end Pf

end
section
set_option Elab.async false
set_option linter.all false
set_option maxRecDepth 100000
set_option maxHeartbeats 4000000
/-! The way's steps; slots. -/
namespace Pf
open PySem PySem.Spec PyProof.Rows L2 Evl
/-- a step by the rows -/
def stp (k : Si38.Costs) (x y : Si38.Text) (i j : Nat) : Nat × Nat := if ((decide (i < x.length) && decide (j < y.length)) && decide (cst k (x.drop i) (y.drop j) = cst k (x.drop (i + 1)) (y.drop (j + 1)) + Si38.pairCost k (x.getD i 0) (y.getD j 0))) = true then (1, 1)
  else if (decide (i < x.length) && decide (cst k (x.drop i) (y.drop j) = cst k (x.drop (i + 1)) (y.drop j) + k.out)) = true then (1, 0) else (0, 1)
theorem wy_step (k : Si38.Costs) (x y : Si38.Text) (i j : Nat) (hi : i ≤ x.length) (hj : j ≤ y.length) (h : i < x.length ∨ j < y.length) :
    ∃ s, wy k (x.drop i) (y.drop j) = s :: wy k (x.drop (i + (stB s).length)) (y.drop (j + (stC s).length)) ∧ stp k x y i j = ((stB s).length, (stC s).length) ∧ i + (stB s).length ≤ x.length ∧ j + (stC s).length ≤ y.length ∧ 1 ≤ (stB s).length + (stC s).length := by
  by_cases h1 : i < x.length
  · have ex : x.drop i = x.getD i 0 :: x.drop (i + 1) := by rw [List.drop_eq_getElem_cons h1]; simp [h1]
    by_cases h2 : j < y.length
    · have ey : y.drop j = y.getD j 0 :: y.drop (j + 1) := by rw [List.drop_eq_getElem_cons h2]; simp [h2]
      have e := wy.eq_4 k (x.getD i 0) (x.drop (i + 1)) (y.getD j 0) (y.drop (j + 1))
      rw [← ex, ← ey] at e
      unfold stp
      simp only [h1, h2, decide_true, Bool.and_self, Bool.true_and, decide_eq_true_eq]
      rw [e]
      by_cases c1 : cst k (x.drop i) (y.drop j) = cst k (x.drop (i + 1)) (y.drop (j + 1)) + Si38.pairCost k (x.getD i 0) (y.getD j 0)
      · rw [if_pos c1, if_pos c1]
        exact ⟨_, rfl, rfl, h1, h2, by simp [stB, stC]⟩
      · rw [if_neg c1, if_neg c1]
        by_cases c2 : cst k (x.drop i) (y.drop j) = cst k (x.drop (i + 1)) (y.drop j) + k.out
        · rw [if_pos c2, if_pos c2]
          exact ⟨_, rfl, rfl, h1, hj, by simp [stB, stC]⟩
        · rw [if_neg c2, if_neg c2]
          exact ⟨_, rfl, rfl, hi, h2, by simp [stB, stC]⟩
    · have ey : y.drop j = [] := List.drop_eq_nil_of_le (by omega)
      have e : wy k (x.drop i) (y.drop j) = .out (x.getD i 0) :: wy k (x.drop (i + 1)) (y.drop j) := by rw [ex, ey, wy]
      have c : cst k (x.drop i) (y.drop j) = cst k (x.drop (i + 1)) (y.drop j) + k.out := by rw [ex, ey, cst_out]
      unfold stp
      simp only [h1, h2, decide_true, decide_false, Bool.and_false, Bool.false_and, Bool.false_eq_true, if_false, Bool.true_and, decide_eq_true_eq]
      rw [if_pos c, e]
      exact ⟨_, rfl, rfl, h1, hj, by simp [stB, stC]⟩
  · have ex : x.drop i = [] := List.drop_eq_nil_of_le (by omega)
    have h2 : j < y.length := by omega
    have ey : y.drop j = y.getD j 0 :: y.drop (j + 1) := by rw [List.drop_eq_getElem_cons h2]; simp [h2]
    have e : wy k (x.drop i) (y.drop j) = .into (y.getD j 0) :: wy k (x.drop i) (y.drop (j + 1)) := by rw [ex, ey, wy]
    unfold stp
    simp only [h1, decide_false, Bool.false_and, Bool.false_eq_true, if_false]
    rw [e]
    exact ⟨_, rfl, rfl, hi, h2, by simp [stB, stC]⟩
theorem wy_end (k : Si38.Costs) (x y : Si38.Text) (i j : Nat) (hi : ¬ i < x.length) (hj : ¬ j < y.length) : wy k (x.drop i) (y.drop j) = [] := by
  rw [List.drop_eq_nil_of_le (by omega), List.drop_eq_nil_of_le (by omega), wy]
def StepAt (H : Hp) (t : Addr) (s : Si38.Step) : Prop := H t = some (.tup [.int ((stB s).length : Int), .int ((stC s).length : Int)])
theorem StepAt.ex {H H' : Hp} {t : Addr} {s : Si38.Step} (h : StepAt H t s) (e : Ex H H') : StepAt H' t s := e _ _ h
section
variable {K : PySem.W.Frag} {σ : L2.St} {H : Hp} {te ta : TE} {t t' : TT} {D : Ends} {tz : TS}
/-- if c: v = (..), where v is a tuple before -/
theorem q_ifAsgU {b : Bool} {i : Nat} {t0 : Addr} {xs ys : List V} (ht : EvT t σ H b) (h0 : H t0 = some (.tup xs)) (hσ : σ.set i (some (.ref t0)) = σ) (he : b = true → EvU te σ H ys)
    (k : ∀ t1 H1, Ex H H1 → H1 t1 = some (.tup (if b = true then ys else xs)) → tz D (σ.set i (some (.ref t1))) H1) : tSeq (tIfS t (tAsg te (gName i)) tNext) tz D σ H := by
  refine q_when ht (fun hb H1 e1 => ?_) (fun hb H1 e1 => ?_)
  · refine s_asgU (fun H2 e2 Q q => he hb H2 (e1.trans e2) Q q) fun p H2 _ e2 h2 => k p H2 (e1.trans e2) ?_
    rw [if_pos hb]
    exact h2
  · have := k t0 H1 e1 (by rw [if_neg (by rw [hb]; decide)]; exact e1 _ _ h0)
    rw [hσ] at this
    exact this
theorem q_ifIfAsgU {b c : Bool} {i : Nat} {t0 : Addr} {xs ys : List V} (ht : EvT t σ H b) (ht' : b = true → EvT t' σ H c) (h0 : H t0 = some (.tup xs)) (hσ : σ.set i (some (.ref t0)) = σ) (he : EvU te σ H ys)
    (k : ∀ t1 H1, Ex H H1 → H1 t1 = some (.tup (if (b && c) = true then ys else xs)) → tz D (σ.set i (some (.ref t1))) H1) : tSeq (tIfS t (tIfS t' (tAsg te (gName i)) tNext) tNext) tz D σ H := by
  refine q_when ht (fun hb H1 e1 => ?_) (fun hb H1 e1 => ?_)
  · refine s_when ((ht' hb).mono e1) (fun hc H2 e2 => ?_) (fun hc H2 e2 => ?_)
    · refine s_asgU (fun H3 e3 Q q => he H3 ((e1.trans e2).trans e3) Q q) fun p H3 _ e3 h3 => k p H3 ((e1.trans e2).trans e3) ?_
      rw [hb, hc]
      exact h3
    · have := k t0 H2 (e1.trans e2) (by rw [hb, hc]; exact (e1.trans e2) _ _ h0)
      rw [hσ] at this
      exact this
  · have := k t0 H1 e1 (by rw [hb]; exact e1 _ _ h0)
    rw [hσ] at this
    exact this
theorem ev_ixT {p : Addr} {xs : List V} {i : Int} {v : V} (ha : Ev ta σ H (.ref p)) (hp : H p = some (.tup xs)) (hv : atI xs i = some v) : Ev (tOp (rIxT K) ta (tC (.int i))) σ H v := ev_op ha ev_c (rv_ixT (st_of hp) hv)
theorem evu_tup2 {x y : V} : EvU (tTup (tCons (tC x) (tCons (tC y) tNil))) σ H [x, y] := eu_tup (ea_cons ev_c (ea_cons ev_c ea_nil)) (by show 2 ≤ 100000; decide)
theorem et_lt {m n : Nat} (h1 : Ev ta σ H (.int (m : Int))) (h2 : Ev te σ H (.int (n : Int))) : EvT (tTest (tOp (rI0 fun i j => V.bl (decide (i < j))) ta te)) σ H (decide (m < n)) := et_is' (et_test (ev_op h1 h2 rv_I0)) (by rw [Bool.eq_iff_iff]; simp)
theorem ev_plus1 {n : Nat} (h : Ev te σ H (.int (n : Int))) : Ev (tOp (rI0 fun i j => V.int (i + j)) te (tC (.int 1))) σ H (.int ((n + 1 : Nat) : Int)) := ev_is (ev_op h ev_c rv_I0) (by rw [Int.natCast_add]; rfl)
theorem ev_add {m n : Nat} (h1 : Ev ta σ H (.int (m : Int))) (h2 : Ev te σ H (.int (n : Int))) : Ev (tOp (rI0 fun i j => V.int (i + j)) ta te) σ H (.int ((m + n : Nat) : Int)) := ev_is (ev_op h1 h2 rv_I0) (by rw [Int.natCast_add])
theorem ev_lenN' {p : Addr} {l : List Nat} (h : Ev te σ H (.ref p)) (hp : H p = some (.lst (nl l))) : Ev (tCB (rLenS K) (tCons te tNil)) σ H (.int (l.length : Int)) := ev_is (ev_len h (sq_of hp)) (by rw [nl_len])
theorem ev_cell {p : Addr} {k : Si38.Costs} {x y : Si38.Text} {i j : Nat} {tr tf : TE} (hR : RowsAt H p k x y) (h0 : Ev tr σ H (.ref p)) (h1 : Ev te σ H (.int (i : Int))) (h2 : Ev tf σ H (.int (j : Int))) (hi : i ≤ x.length) (hj : j ≤ y.length) :
    Ev (tOp (rIxL K) (tOp (rIxL K) tr te) tf) σ H (.int (cst k (x.drop i) (y.drop j) : Int)) := by
  obtain ⟨as, r1, r2, r3⟩ := hR
  have ha : as[i]? = some (as[i]'(by omega)) := by simp [show i < as.length by omega]
  generalize as[i]'(by omega) = a at ha
  exact ev_at (ev_at h0 h1 (sq_of r1) (by rw [List.getElem?_map, ha]; rfl)) h2 (sq_of (r3 i a ha)) (nl_at (hrow_at k x y i 0 j hj (Nat.zero_le _)))
end
section
variable {P : Program} {w : World} {K : PySem.W.Frag} {mg : Str → Option Value} {base : Heap}
def sp_way_cost (T : Tp K mg) : Sp := spV fun vs v H => ∃ xa ya ca k x y, vs = [.ref xa, .ref ya, .ref ca] ∧ H xa = some (.lst (nl x)) ∧ H ya = some (.lst (nl y)) ∧ CostAt T H ca k ∧ x.length ≤ 200 ∧ y.length ≤ 200 ∧ v = .int (cst k x y : Int)
-- slots: base 0, copy 1, costs 2
theorem ok_way_cost (T : Tp K mg) : FnOk P w K mg base CX0 3 T.way_cost.f T.way_cost.fd P_way_cost (sp_way_cost T) := by
  refine T.way_cost.F.ok sc_way_cost (fun vs H Q E h => ?_) (fun cdv A outer s H vs Q E hr h => ⟨_, (pss_one (ps_ret (pe_ix ix_list (pe_ix ix_list (pe_call (ok_cheapest T) (hr.mono (by decide)) rfl T.cheapest.g T.cheapest.F.kp T.cheapest.b .nil pass0 (pa_cons (pv 0) (pa_cons (pv 1) (pa_cons (pv 2) pa_nil)))) pe_int (fun _ _ => rfl)) pe_int (fun _ _ => rfl)))), ?_⟩)
  · obtain ⟨v, ⟨xa, ya, ca, k0, x, y, rfl, _⟩, _⟩ := h
    rfl
  · obtain ⟨v, ⟨xa, ya, ca, k0, x, y, rfl, hX, hY, hC, hx, hy, rfl⟩, k⟩ := h
    have rows := er_callR (P := fun p H2 => RowsAt H2 p k0 x y) (Pre := fun vs H P => ∃ xa ya ca k x y, vs = [.ref xa, .ref ya, .ref ca] ∧ H xa = some (.lst (nl x)) ∧ H ya = some (.lst (nl y)) ∧ CostAt T H ca k ∧ x.length ≤ 200 ∧ y.length ≤ 200 ∧ P = fun p H2 => RowsAt H2 p k x y) (E := E0) (ea_cons (ev_var (σ := [some (.ref xa), some (.ref ya), some (.ref ca)]) (i := 0) rfl) (ea_cons (ev_var (i := 1) rfl) (ea_cons (ev_var (i := 2) rfl) ea_nil))) (fun H1 e => ⟨xa, ya, ca, k0, x, y, rfl, e _ _ hX, e _ _ hY, hC.ex e, hx, hy, rfl⟩)
    refine s_ret (v := .int (cst k0 x y : Int)) (fun H1 e1 Q' q' => ?_) fun H1 e1 => k H1 e1
    refine rows H1 e1 _ fun p H2 n2 e2 hR => ?_
    have := ev_cell (K := K) (i := 0) (j := 0) (te := tC (.int 0)) (tf := tC (.int 0)) (tr := tC (.ref p)) (σ := [some (.ref xa), some (.ref ya), some (.ref ca)]) hR ev_c ev_c ev_c (Nat.zero_le _) (Nat.zero_le _) H2 (Ex.refl H2) Q' fun H3 e3 => q' H3 (e2.trans e3)
    exact this
def sp_steps_of (T : Tp K mg) : Sp := spR fun vs H P => ∃ xa ya ca k x y, vs = [.ref xa, .ref ya, .ref ca] ∧ H xa = some (.lst (nl x)) ∧ H ya = some (.lst (nl y)) ∧ CostAt T H ca k ∧ x.length ≤ 200 ∧ y.length ≤ 200 ∧ P = fun p H2 => ∃ ts : List Addr, H2 p = some (.lst (ts.map V.ref)) ∧ Al2 (StepAt H2) ts (wy k x y)
-- slots: base 0, copy 1, costs 2, rows 3, i 4, j 5, found 6, step 7
theorem ok_steps_of (T : Tp K mg) : FnOk P w K mg base CX0 3 T.steps_of.f T.steps_of.fd P_steps_of (sp_steps_of T) := by
  refine T.steps_of.F.ok sc_steps_of (fun vs H Q E h => ?_) (fun cdv A outer s H vs Q E hr h => ⟨_, (pss_cons (ps_set (i := 3) sc_steps_of.nd rfl (.inl rfl) (pe_call (ok_cheapest T) (hr.mono (by decide)) rfl T.cheapest.g T.cheapest.F.kp T.cheapest.b .nil pass0 (pa_cons (pv 0) (pa_cons (pv 1) (pa_cons (pv 2) pa_nil)))))
    (pss_cons (ps_set (i := 4) sc_steps_of.nd rfl (.inl rfl) pe_int)
    (pss_cons (ps_set (i := 5) sc_steps_of.nd rfl (.inl rfl) pe_int)
    (pss_cons (ps_set (i := 6) sc_steps_of.nd rfl (.inl rfl) (pe_lst pa_nil))
    (pss_cons (ps_while PassesOwn.never (PW.pt (pw_or (pt_cmpR op_lt (pv 4) (pe_callB call_len_seq rfl T.nlen PySem.boot_len (pa_cons (pv 0) pa_nil)) (nomark _)) (pw_or1 (pt_cmpR op_lt (pv 5) (pe_callB call_len_seq rfl T.nlen PySem.boot_len (pa_cons (pv 1) pa_nil)) (nomark _))))) (pss_cons (ps_set (i := 7) sc_steps_of.nd rfl (.inl rfl) (pe_tup (pa_cons pe_int (pa_cons pe_int pa_nil))))
    (pss_cons (ps_if (PW.pt (pw_and (pt_cmpR op_lt (pv 4) (pe_callB call_len_seq rfl T.nlen PySem.boot_len (pa_cons (pv 0) pa_nil)) (nomark _)) (pw_and1 (pt_cmpR op_eq (pe_ix ix_list (pe_ix ix_list (pv 3) (pv 4) (fun _ _ => rfl)) (pv 5) (fun _ _ => rfl)) (pe_op op_add (pe_ix ix_list (pe_ix ix_list (pv 3) (pe_op op_add (pv 4) pe_int) (fun _ _ => rfl)) (pv 5) (fun _ _ => rfl)) (pe_fld (pv 2) rfl)) (nomark _))))) (pss_one (ps_set (i := 7) sc_steps_of.nd rfl (.inl rfl) (pe_tup (pa_cons pe_int (pa_cons pe_int pa_nil))))) pss_nil)
    (pss_cons (ps_if (PW.pt (pw_and (pt_cmpR op_lt (pv 4) (pe_callB call_len_seq rfl T.nlen PySem.boot_len (pa_cons (pv 0) pa_nil)) (nomark _)) (pw_and1 (pt_cmpR op_lt (pv 5) (pe_callB call_len_seq rfl T.nlen PySem.boot_len (pa_cons (pv 1) pa_nil)) (nomark _))))) (pss_one (ps_if (pt_cmpR op_eq (pe_ix ix_list (pe_ix ix_list (pv 3) (pv 4) (fun _ _ => rfl)) (pv 5) (fun _ _ => rfl)) (pe_op op_add (pe_ix ix_list (pe_ix ix_list (pv 3) (pe_op op_add (pv 4) pe_int) (fun _ _ => rfl)) (pe_op op_add (pv 5) pe_int) (fun _ _ => rfl)) (pe_call (ok_pair_cost T) (hr.mono (by decide)) rfl T.pair_cost.g T.pair_cost.F.kp T.pair_cost.b .nil pass0 (pa_cons (pv 2) (pa_cons (pe_ix ix_list (pv 0) (pv 4) (fun _ _ => rfl)) (pa_cons (pe_ix ix_list (pv 1) (pv 5) (fun _ _ => rfl)) pa_nil))))) (nomark _)) (pss_one (ps_set (i := 7) sc_steps_of.nd rfl (.inl rfl) (pe_tup (pa_cons pe_int (pa_cons pe_int pa_nil))))) pss_nil)) pss_nil)
    (pss_cons (ps_expr (pe_bm PySem.F.plainAttrs_list PySem.F.slot_list_append PySem.F.type_list_append mt_append (pv 6) (pa_cons (pv 7) pa_nil)))
    (pss_cons (ps_set (i := 4) sc_steps_of.nd rfl (.inl rfl) (pe_op op_add (pv 4) (pe_ix ix_tup (pv 7) pe_int (fun _ _ => rfl))))
    (pss_one (ps_set (i := 5) sc_steps_of.nd rfl (.inl rfl) (pe_op op_add (pv 5) (pe_ix ix_tup (pv 7) pe_int (fun _ _ => rfl)))))))))))
    (pss_one (ps_ret (pv 6)))))))), ?_⟩)
  · obtain ⟨v, ⟨xa, ya, ca, k0, x, y, rfl, _⟩, _⟩ := h
    rfl
  · obtain ⟨P', ⟨xa, ya, ca, k0, x, y, rfl, hX, hY, hC, hx, hy, rfl⟩, k⟩ := h
    refine q_asgR (er_callR (ea_cons (ev_var rfl) (ea_cons (ev_var rfl) (ea_cons (ev_var rfl) ea_nil))) (fun H1 e => ⟨xa, ya, ca, k0, x, y, rfl, e _ _ hX, e _ _ hY, hC.ex e, hx, hy, rfl⟩)) fun ra H1 n1 e1 hR => ?_
    refine q_asg ev_c fun H2 e2 => ?_
    refine q_asg ev_c fun H3 e3 => ?_
    have e13 := e2.trans e3
    have e03 := e1.trans e13
    refine q_asgL (el_lst ea_nil (by decide)) fun fd H4 nf e4 hf => ?_
    refine q_while (fun m σ' H' => Ex H3 (Off [fd] H') ∧ ∃ (i j : Nat) (u : Option V) (p : List Si38.Step) (ts : List Addr), m = (x.length - i) + (y.length - j) ∧ σ' = [some (.ref xa), some (.ref ya), some (.ref ca), some (.ref ra), some (.int (i : Int)), some (.int (j : Int)), some (.ref fd), u] ∧
      i ≤ x.length ∧ j ≤ y.length ∧ p ++ wy k0 (x.drop i) (y.drop j) = wy k0 x y ∧ H' fd = some (.lst (ts.map V.ref)) ∧ Al2 (StepAt (Off [fd] H')) ts p ∧ ts.length ≤ i + j) (x.length + y.length) ?h0 ?hs
    case h0 =>
      exact ⟨off_of e4 (by simp [nf]), 0, 0, _, [], [], by omega, rfl, Nat.zero_le _, Nat.zero_le _, rfl, hf, Al2.nil, Nat.zero_le _⟩
    case hs =>
      rintro m σ' H' ⟨p1, i, j, u, p, ts, hm, rfl, hi, hj, hp, p2, p3, p4⟩
      have eH : Ex H3 H' := p1.trans (off_le _ _)
      have h0' : Ex H H' := e03.trans eH
      have hX' := h0' _ _ hX
      have hY' := h0' _ _ hY
      refine ⟨decide (i < x.length) || decide (j < y.length), et_or (et_lt (ev_var rfl) (ev_lenN' (ev_var rfl) hX')) (fun _ => et_lt (ev_var rfl) (ev_lenN' (ev_var rfl) hY')), fun hb H5 e5 => ?_, fun hb H5 e5 => ?_⟩
      · rw [Bool.or_eq_true, decide_eq_true_eq, decide_eq_true_eq] at hb
        obtain ⟨s, w1, w2, w3, w4, w5⟩ := wy_step k0 x y i j hi hj hb
        refine ⟨fun σ2 H2 => Ex H3 (Off [fd] H2) ∧ ∃ u, σ2 = [some (.ref xa), some (.ref ya), some (.ref ca), some (.ref ra), some (.int ((i + (stB s).length : Nat) : Int)), some (.int ((j + (stC s).length : Nat) : Int)), some (.ref fd), u] ∧
          ∃ t : Addr, H2 fd = some (.lst ((ts ++ [t]).map V.ref)) ∧ Al2 (StepAt (Off [fd] H2)) (ts ++ [t]) (p ++ [s]), ?_, ?_⟩
        · rintro σ2 H2 ⟨q1, u', rfl, t, q2, q3⟩
          refine ⟨_, ?_, q1, _, _, u', p ++ [s], ts ++ [t], rfl, rfl, w3, w4, ?_, q2, q3, ?_⟩
          · omega
          · rw [List.append_assoc, List.singleton_append, ← w1]
            exact hp
          · rw [List.length_append]
            simp
            omega
        · have hR5 : ∀ H6, Ex H' H6 → RowsAt H6 ra k0 x y := fun H6 e => ((hR.ex e13).ex (eH.trans e))
          have c5 : ∀ H6, Ex H' H6 → CostAt T H6 ca k0 := fun H6 e => (hC.ex h0').ex e
          refine q_asgU evu_tup2 fun t0 H6 n6 e6 h6 => ?_
          have e56 := e5.trans e6
          refine q_ifAsgU (ys := [.int 1, .int 0]) (b := decide (i < x.length) && decide (cst k0 (x.drop i) (y.drop j) = cst k0 (x.drop (i + 1)) (y.drop j) + k0.out)) (et_and (et_lt (ev_var rfl) (ev_lenN' (ev_var rfl) (e56 _ _ hX'))) (fun hlt => ?_)) h6 rfl (fun _ => evu_tup2) fun t1 H7 e7 h7 => ?_
          · have hlt := of_decide_eq_true hlt
            refine et_is' (et_test (ev_op (ev_cell (hR5 H6 e56) (ev_var rfl) (ev_var rfl) (ev_var rfl) hi hj) (ev_add (ev_cell (hR5 H6 e56) (ev_var rfl) (ev_plus1 (ev_var rfl)) (ev_var rfl) hlt hj) (ev_fl T.Costs 1 (c5 H6 e56) (ev_var rfl))) (rv_eq rfl))) (dI _ _)
          have e57 := e56.trans e7
          refine q_ifIfAsgU (ys := [.int 1, .int 1]) (b := decide (i < x.length) && decide (j < y.length)) (c := decide (cst k0 (x.drop i) (y.drop j) = cst k0 (x.drop (i + 1)) (y.drop (j + 1)) + Si38.pairCost k0 (x.getD i 0) (y.getD j 0)))
            (et_and (et_lt (ev_var rfl) (ev_lenN' (ev_var rfl) (e57 _ _ hX'))) (fun _ => et_lt (ev_var rfl) (ev_lenN' (ev_var rfl) (e57 _ _ hY')))) (fun hlt => ?_) h7 rfl evu_tup2 fun t2 H8 e8 h8 => ?_
          · rw [Bool.and_eq_true, decide_eq_true_eq, decide_eq_true_eq] at hlt
            refine et_is' (et_test (ev_op (ev_cell (hR5 H7 e57) (ev_var rfl) (ev_var rfl) (ev_var rfl) hi hj) (ev_add (ev_cell (hR5 H7 e57) (ev_var rfl) (ev_plus1 (ev_var rfl)) (ev_plus1 (ev_var rfl)) hlt.1 hlt.2)
              (ev_callV (ea_cons (ev_var rfl) (ea_cons (ev_at (n := i) (ev_var rfl) (ev_var rfl) (sq_of (e57 _ _ hX')) (nl_at (n := x.getD i 0) (by simp [hlt.1]))) (ea_cons (ev_at (n := j) (ev_var rfl) (ev_var rfl) (sq_of (e57 _ _ hY')) (nl_at (n := y.getD j 0) (by simp [hlt.2]))) ea_nil))) fun H9 e9 => ⟨ca, k0, _, _, rfl, c5 H9 (e57.trans e9), rfl⟩)) (rv_eq rfl))) (dI _ _)
          have e58 := e57.trans e8
          have hst : (if (decide (i < x.length) && decide (j < y.length) && decide (cst k0 (x.drop i) (y.drop j) = cst k0 (x.drop (i + 1)) (y.drop (j + 1)) + Si38.pairCost k0 (x.getD i 0) (y.getD j 0))) = true then [V.int 1, V.int 1] else
              if (decide (i < x.length) && decide (cst k0 (x.drop i) (y.drop j) = cst k0 (x.drop (i + 1)) (y.drop j) + k0.out)) = true then [V.int 1, V.int 0] else [V.int 0, V.int 1]) = [.int ((stB s).length : Int), .int ((stC s).length : Int)] := by
            have e1 : ((stB s).length : Int) = ((stp k0 x y i j).1 : Int) := by rw [w2]
            have e2 : ((stC s).length : Int) = ((stp k0 x y i j).2 : Int) := by rw [w2]
            rw [e1, e2]
            unfold stp
            split
            · rfl
            · split <;> rfl
          rw [hst] at h8
          have tfd : t2 ≠ fd := fun z => by rw [z, e58 _ _ p2] at h8; cases h8
          have s8 : StepAt (Off [fd] H8) t2 s := by
            show Off [fd] H8 t2 = _
            rw [off_out (by simp [tfd])]
            exact h8
          refine q_app (e58 _ _ p2) (ev_var rfl) (ev_var rfl) (by rw [List.length_map]; omega) fun H9 e9 => ?_
          generalize hG : upd H9 fd _ = G
          have oG : Ex (Off [fd] H8) (Off [fd] G) := by rw [← hG, off_upd (by simp)]; exact off_ex e9
          have gfd : G fd = some (.lst ((ts ++ [t2]).map V.ref)) := by rw [← hG, upd_same]; simp
          clear hG
          have tG : G t2 = some (.tup [.int ((stB s).length : Int), .int ((stC s).length : Int)]) := (s8.ex oG |> off_le _ _ _ _)
          refine q_asg (ev_add (ev_var rfl) (ev_ixT (ev_var rfl) tG rfl)) fun HA eA => ?_
          refine s_asg (ev_add (ev_var rfl) (ev_ixT (ev_var rfl) (eA _ _ tG) rfl)) fun HB eB => ?_
          have eAB := eA.trans eB
          have oB : Ex (Off [fd] H8) (Off [fd] HB) := oG.trans (off_ex eAB)
          refine ⟨p1.trans ((off_ex e58).trans oB), _, rfl, t2, eAB _ _ gfd, ?_⟩
          exact (p3.mono fun a b h => h.ex ((off_ex e58).trans oB)).snoc (s8.ex oB)
      · rw [Bool.or_eq_false_iff, decide_eq_false_iff_not, decide_eq_false_iff_not] at hb
        rw [wy_end k0 x y i j hb.1 hb.2, List.append_nil] at hp
        subst hp
        refine s_ret (ev_var rfl) fun H6 e6 => k fd H6 (ex_none e03 nf) ((e03.trans eH).trans (e5.trans e6)) ⟨ts, (e5.trans e6) _ _ p2, p3.mono fun a b h => h.ex ((off_le _ _).trans (e5.trans e6))⟩
end
end Pf

end
section
set_option Elab.async false
set_option linter.all false
set_option maxRecDepth 100000
set_option maxHeartbeats 4000000
/-! Slots by the way. -/
namespace Pf
open PySem PySem.Spec PyProof.Rows L2 Evl
def SOk (x y : Si38.Text) (i j : Nat) (s : Si38.Step) : Prop := match s with
  | .both a b => x[i]? = some a ∧ y[j]? = some b
  | _ => True
theorem nB_take (l : List Si38.Step) (q : Nat) : nB (l.take q) ≤ nB l := by
  have : nB l = nB (l.take q) + nB (l.drop q) := by
    unfold nB
    rw [← List.length_append, ← List.flatMap_append, List.take_append_drop]
  omega
theorem nC_take (l : List Si38.Step) (q : Nat) : nC (l.take q) ≤ nC l := by
  have : nC l = nC (l.take q) + nC (l.drop q) := by
    unfold nC
    rw [← List.length_append, ← List.flatMap_append, List.take_append_drop]
  omega
theorem step_ok {l : List Si38.Step} {q : Nat} {s : Si38.Step} (h : l[q]? = some s) : SOk (l.flatMap stB) (l.flatMap stC) (nB (l.take q)) (nC (l.take q)) s := by
  cases s with
  | out a => trivial
  | into b => trivial
  | both a b =>
    have e : l = l.take q ++ (Si38.Step.both a b :: l.drop (q + 1)) := by
      rw [← drop_next h, List.take_append_drop]
    have eB : l.flatMap stB = (l.take q).flatMap stB ++ (a :: (l.drop (q + 1)).flatMap stB) := by
      conv => lhs; rw [e]
      rw [List.flatMap_append, List.flatMap_cons]
      rfl
    have eC : l.flatMap stC = (l.take q).flatMap stC ++ (b :: (l.drop (q + 1)).flatMap stC) := by
      conv => lhs; rw [e]
      rw [List.flatMap_append, List.flatMap_cons]
      rfl
    refine ⟨?_, ?_⟩
    · unfold nB
      rw [eB, List.getElem?_append_right (Nat.le_refl _), Nat.sub_self]
      rfl
    · unfold nC
      rw [eC, List.getElem?_append_right (Nat.le_refl _), Nat.sub_self]
      rfl
theorem wy_ok {k : Si38.Costs} {x y : Si38.Text} {q : Nat} {s : Si38.Step} (h : (wy k x y)[q]? = some s) : SOk x y (nB ((wy k x y).take q)) (nC ((wy k x y).take q)) s := by
  have := step_ok h
  rw [(wy_base k _ x y rfl).1, (wy_base k _ x y rfl).2] at this
  exact this
theorem wy_nB (k : Si38.Costs) (x y : Si38.Text) : nB (wy k x y) = x.length := by
  unfold nB
  rw [(wy_base k _ x y rfl).1]
theorem wy_nC (k : Si38.Costs) (x y : Si38.Text) : nC (wy k x y) = y.length := by
  unfold nC
  rw [(wy_base k _ x y rfl).2]
section
variable {K : PySem.W.Frag} {σ : L2.St} {H : Hp} {te ta tb : TE} {t : TT} {D : Ends} {tu tz : TS}
/-- if c: xs[j] = e -/
theorem q_whenSet {b : Bool} {l : Addr} {xs : List V} {j : Nat} {v : V} (hl : H l = some (.lst xs)) (ht : EvT t σ H b) (he : ∀ H1, Ex H H1 → Ev te σ H1 v) (ho : ∀ H1, Ex H H1 → Ev ta σ H1 (.ref l)) (hi : ∀ H1, Ex H H1 → Ev tb σ H1 (.int (j : Int))) (hj : j < xs.length)
    (k : ∀ H', Ex (Off [l] H) (Off [l] H') → H' l = some (.lst (if b = true then xs.set j v else xs)) → tz D σ H') : tSeq (tIfS t (tAsg te (gSub ta tb rSetL)) tNext) tz D σ H := by
  refine q_when ht (fun hb H1 e1 => ?_) (fun hb H1 e1 => ?_)
  · refine s_setL (e1 _ _ hl) (he H1 e1) (ho H1 e1) (hi H1 e1) hj fun H2 e2 => k _ ?_ ?_
    · rw [off_upd (by simp)]
      exact off_ex (e1.trans e2)
    · rw [upd_same, if_pos hb]
  · refine k H1 (off_ex e1) ?_
    rw [if_neg (by rw [hb]; decide)]
    exact e1 _ _ hl
/-- over a new list -/
theorem q_forRn {P : Addr → Hp → Prop} {j : Nat} (h : EvR te σ H P) (k : ∀ p H1, H p = none → Ex H H1 → P p H1 → tSeq (tFor (iList K (tC (.ref p))) (gName j) tu) tz D σ H1) : tSeq (tFor (iList K te) (gName j) tu) tz D σ H :=
  h H (Ex.refl H) _ fun p H1 hp e h1 => k p H1 hp e h1
theorem ev_mul {m n : Nat} (h1 : Ev ta σ H (.int (m : Int))) (h2 : Ev te σ H (.int (n : Int))) (hc : CMul m n) : Ev (tOp (rI CMul fun i j => V.int (i * j)) ta te) σ H (.int ((m * n : Nat) : Int)) := ev_is (ev_op h1 h2 (rv_I hc)) (by rw [Int.natCast_mul])
theorem ev_c2 : Ev (tC (.int 2)) σ H (.int ((2 : Nat) : Int)) := ev_c
end
section
variable {P : Program} {w : World} {K : PySem.W.Frag} {mg : Str → Option Value} {base : Heap}
def sp_is_like (T : Tp K mg) : Sp := spV fun vs v H => ∃ xa ya x y i j t s, vs = [.ref xa, .ref ya, .int ((i : Nat) : Int), .int ((j : Nat) : Int), .ref t] ∧ H xa = some (.lst (nl x)) ∧ H ya = some (.lst (nl y)) ∧ StepAt H t s ∧ SOk x y i j s ∧ v = .bl (!unlike s)
-- slots: base 0, copy 1, i 2, j 3, step 4
theorem ok_is_like (T : Tp K mg) : FnOk P w K mg base CX0 1 T.is_like.f T.is_like.fd P_is_like (sp_is_like T) := by
  refine T.is_like.F.ok sc_is_like (fun vs H Q E h => ?_) (fun cdv A outer s H vs Q E hr h => ⟨_, (pss_one (ps_ret (pe_and (pe_cmpR (op_eqD hr.units) (pv 4) (pe_tup (pa_cons pe_int (pa_cons pe_int pa_nil))) (nomark _)) (pe_one (pe_cmpR op_eq (pe_ix ix_list (pv 0) (pv 2) (fun _ _ => rfl)) (pe_ix ix_list (pv 1) (pv 3) (fun _ _ => rfl)) (nomark _)))))), ?_⟩)
  · obtain ⟨v, ⟨xa, ya, x, y, i, j, t, s, rfl, _⟩, _⟩ := h
    rfl
  · obtain ⟨v, ⟨xa, ya, x, y, i, j, t, st, rfl, hX, hY, hS, hO, rfl⟩, k⟩ := h
    have tst : Ev (tOp (rEqD K) (tVar 4) (tTup (tCons (tC (.int 1)) (tCons (tC (.int 1)) tNil)))) [some (.ref xa), some (.ref ya), some (.int (i : Int)), some (.int (j : Int)), some (.ref t)] H (.bl (decide ([((stB st).length : Int), ((stC st).length : Int)] = [1, 1]))) :=
      ev_opV (ev_var rfl) evu_tup2 fun q H1 hq e => rv_eqT (xs := [((stB st).length : Int), ((stC st).length : Int)]) (ys := [1, 1]) (st_of (e _ _ hS)) (st_of hq)
    cases st with
    | both a b =>
      obtain ⟨o1, o2⟩ := hO
      have h2 := ev_andV (b := decide (a = b)) tst fun _ => ev_is (ev_op (ev_at (K := K) (n := i) (ev_var (σ := [some (.ref xa), some (.ref ya), some (.int (i : Int)), some (.int (j : Int)), some (.ref t)]) (i := 0) rfl) (ev_var (i := 2) rfl) (sq_of hX) (nl_at o1)) (ev_at (K := K) (n := j) (ev_var (i := 1) rfl) (ev_var (i := 3) rfl) (sq_of hY) (nl_at o2)) (rv_eq rfl)) (by rw [dI])
      refine s_ret (v := .bl (!unlike (.both a b))) (ev_is h2 ?_) k
      simp [unlike, stB, stC, bne]
      rw [Bool.eq_iff_iff]
      simp
    | out a =>
      have h2 := ev_andV (tb := tOp rEq (tOp (rIxL K) (tVar 0) (tVar 2)) (tOp (rIxL K) (tVar 1) (tVar 3))) (b := false) tst fun c => by simp [stB, stC] at c
      exact s_ret (v := .bl (!unlike (.out a))) (ev_is h2 (by simp [unlike, stB, stC])) k
    | into b =>
      have h2 := ev_andV (tb := tOp rEq (tOp (rIxL K) (tVar 0) (tVar 2)) (tOp (rIxL K) (tVar 1) (tVar 3))) (b := false) tst fun c => by simp [stB, stC] at c
      exact s_ret (v := .bl (!unlike (.into b))) (ev_is h2 (by simp [unlike, stB, stC])) k
def sp_slots_of (T : Tp K mg) : Sp := spR fun vs H P => ∃ xa ya ca k x y, vs = [.ref xa, .ref ya, .ref ca] ∧ H xa = some (.lst (nl x)) ∧ H ya = some (.lst (nl y)) ∧ CostAt T H ca k ∧ x.length ≤ 200 ∧ y.length ≤ 200 ∧
  P = fun p H2 => ∃ a1 a2, SlotsAt T H2 p a1 a2 ∧ H2 a1 = some (.lst (nl (cntF 0 (wy k x y)))) ∧ H2 a2 = some (.lst ((varF false (wy k x y)).map V.bl))
-- slots: base 0, copy 1, costs 2, found 3, i 4, j 5, step 6, slot 7
theorem ok_slots_of (T : Tp K mg) : FnOk P w K mg base CX0 4 T.slots_of.f T.slots_of.fd P_slots_of (sp_slots_of T) := by
  refine T.slots_of.F.ok sc_slots_of (fun vs H Q E h => ?_) (fun cdv A outer s H vs Q E hr h => ⟨_, (pss_cons (ps_set (i := 3) sc_slots_of.nd rfl (.inl rfl) (pe_make T.Slots.mkd (ok_Slots_init T) (hr.mono (by decide)) rfl T.Slots.g T.Slots.b .nil pass0 (pa_cons (pe_op op_add (pe_op op_mul pe_int (pe_callB call_len_seq rfl T.nlen PySem.boot_len (pa_cons (pv 0) pa_nil))) pe_int) pa_nil)))
    (pss_cons (ps_set (i := 4) sc_slots_of.nd rfl (.inl rfl) pe_int)
    (pss_cons (ps_set (i := 5) sc_slots_of.nd rfl (.inl rfl) pe_int)
    (pss_cons (ps_for PassesOwn.never rfl (pi_list (pe_call (ok_steps_of T) (hr.mono (by decide)) rfl T.steps_of.g T.steps_of.F.kp T.steps_of.b .nil pass0 (pa_cons (pv 0) (pa_cons (pv 1) (pa_cons (pv 2) pa_nil))))) (pg_name (i := 6) sc_slots_of.nd rfl (.inl rfl)) (pss_cons (ps_set (i := 7) sc_slots_of.nd rfl (.inl rfl) (pe_op op_add (pe_op op_mul pe_int (pv 4)) (pe_ix ix_tup (pv 6) pe_int (fun _ _ => rfl))))
    (pss_cons (ps_asg (pe_op op_add (pe_ix ix_list (pe_fld (pv 3) rfl) (pv 7) (fun _ _ => rfl)) (pe_ix ix_tup (pv 6) pe_int (fun _ _ => rfl))) (pg_sub (pe_fld (pv 3) rfl) (pv 7) set_list))
    (pss_cons (ps_if (pt_not (pt_val (pe_call (ok_is_like T) (hr.mono (by decide)) rfl T.is_like.g T.is_like.F.kp T.is_like.b .nil pass0 (pa_cons (pv 0) (pa_cons (pv 1) (pa_cons (pv 4) (pa_cons (pv 5) (pa_cons (pv 6) pa_nil)))))))) (pss_one (ps_asg pe_bl (pg_sub (pe_fld (pv 3) rfl) (pv 7) set_list))) pss_nil)
    (pss_cons (ps_set (i := 4) sc_slots_of.nd rfl (.inl rfl) (pe_op op_add (pv 4) (pe_ix ix_tup (pv 6) pe_int (fun _ _ => rfl))))
    (pss_one (ps_set (i := 5) sc_slots_of.nd rfl (.inl rfl) (pe_op op_add (pv 5) (pe_ix ix_tup (pv 6) pe_int (fun _ _ => rfl))))))))))
    (pss_one (ps_ret (pv 3))))))), ?_⟩)
  · obtain ⟨v, ⟨xa, ya, ca, k0, x, y, rfl, _⟩, _⟩ := h
    rfl
  · obtain ⟨P', ⟨xa, ya, ca, k0, x, y, rfl, hX, hY, hC, hx, hy, rfl⟩, k⟩ := h
    generalize hN : 2 * x.length + 1 = N
    have mk : EvR (tMake T.Slots.C (sp_Slots_init T) [] E0 (tCons (tOp (rI0 fun i j => V.int (i + j)) (tOp (rI CMul fun i j => V.int (i * j)) (tC (.int 2)) (tCB (rLenS K) (tCons (tVar 0) tNil))) (tC (.int 1))) tNil)) [some (.ref xa), some (.ref ya), some (.ref ca), none, none, none, none, none] H
        (fun p H2 => ∃ a1 a2, H a1 = none ∧ H a2 = none ∧ a1 ≠ p ∧ a2 ≠ p ∧ a1 ≠ a2 ∧ SlotsAt T H2 p a1 a2 ∧ H2 a1 = some (.lst (List.replicate N (.int 0))) ∧ H2 a2 = some (.lst (List.replicate N (.bl false)))) := fun H1 e1 Q' q' => by
      have len : Ev (tOp (rI0 fun i j => V.int (i + j)) (tOp (rI CMul fun i j => V.int (i * j)) (tC (.int 2)) (tCB (rLenS K) (tCons (tVar 0) tNil))) (tC (.int 1))) [some (.ref xa), some (.ref ya), some (.ref ca), none, none, none, none, none] H (.int (N : Int)) := by
        rw [← hN]
        exact ev_plus1 (ev_mul ev_c2 (ev_lenN' (ev_var rfl) hX) (Or.inl ⟨by decide, by decide⟩))
      refine ea_cons len ea_nil H1 e1 _ fun H2 e2 px dx hpx hdx hne => ⟨px, dx, N, rfl, by omega, upd_same, fun H3 a1 a2 keep hs n1 n2 n12 h1 h2 => ⟨rfl, ?_⟩⟩
      have b1 : ∀ {a : Addr}, (upd (upd H2 dx (.own px)) px (.ins T.Slots.C dx [])) a = none → H2 a = none ∧ a ≠ px := fun {a} h => by
        by_cases c : a = px
        · rw [c, upd_same] at h; cases h
        · rw [upd_ne c] at h
          by_cases c2 : a = dx
          · rw [c2, upd_same] at h; cases h
          · rw [upd_ne c2] at h
            exact ⟨h, c⟩
      exact q' px H3 (ex_none e2 hpx) (e2.trans (Same.made hpx hdx keep)) ⟨a1, a2, ex_none (e1.trans e2) (b1 n1).1, ex_none (e1.trans e2) (b1 n2).1, (b1 n1).2, (b1 n2).2, n12, hs, h1, h2⟩
    refine q_asgR mk fun p H1 np e1 h1 => ?_
    obtain ⟨a1, a2, n1, n2, ne1, ne2, n12, hs, hA1, hA2⟩ := h1
    refine q_asg ev_c fun H2 e2 => ?_
    refine q_asg ev_c fun H3 e3 => ?_
    have e13 := e2.trans e3
    have e03 := e1.trans e13
    refine q_forRn (er_callR (ea_cons (ev_var rfl) (ea_cons (ev_var rfl) (ea_cons (ev_var rfl) ea_nil))) (fun H4 e => ⟨xa, ya, ca, k0, x, y, rfl, (e03.trans e) _ _ hX, (e03.trans e) _ _ hY, hC.ex (e03.trans e), hx, hy, rfl⟩)) fun tl H4 nt e4 h4 => ?_
    obtain ⟨ts, ht, hts⟩ := h4
    have e14 := e13.trans e4
    have e04 := e03.trans e4
    have F4 : ∀ a ∈ [a1, a2], H a = none := by
      intro a ha
      simp at ha
      rcases ha with rfl | rfl
      · exact n1
      · exact n2
    have oX : Off [a1, a2] H4 xa = some (.lst (nl x)) := (off_of e04 F4) _ _ hX
    have oY : Off [a1, a2] H4 ya = some (.lst (nl y)) := (off_of e04 F4) _ _ hY
    have t1 : tl ≠ a1 := fun z => by rw [z, e13 _ _ hA1] at nt; cases nt
    have t2 : tl ≠ a2 := fun z => by rw [z, e13 _ _ hA2] at nt; cases nt
    have oT : Off [a1, a2] H4 tl = some (.lst (ts.map V.ref)) := by rw [off_out (by simp [t1, t2])]; exact ht
    have oS : ∀ {t : Addr} {s : Si38.Step}, StepAt H4 t s → StepAt (Off [a1, a2] H4) t s := fun {t s} h => by
      have c1 : t ≠ a1 := fun z => by have h' : H4 t = _ := h; rw [z, e14 _ _ hA1] at h'; cases h'
      have c2 : t ≠ a2 := fun z => by have h' : H4 t = _ := h; rw [z, e14 _ _ hA2] at h'; cases h'
      show Off [a1, a2] H4 t = _
      rw [off_out (by simp [c1, c2])]
      exact h
    have oP : InsAt (Off [a1, a2] H4) p T.Slots.C flSlots [.ref a1, .ref a2] := (hs.ex e14).offN (by simp [ne1.symm, ne2.symm])
    refine q_forLn ev_c (sq_of ht) (fun q σ' H' => Ex (Off [a1, a2] H4) (Off [a1, a2] H') ∧ (∃ u v, σ' = [some (.ref xa), some (.ref ya), some (.ref ca), some (.ref p), some (.int (nB ((wy k0 x y).take q) : Int)), some (.int (nC ((wy k0 x y).take q) : Int)), u, v]) ∧
      H' a1 = some (.lst (nl (cntA N ((wy k0 x y).take q)))) ∧ H' a2 = some (.lst ((varA N ((wy k0 x y).take q)).map V.bl))) ?h0 ?hl ?hs ?hd
    case h0 =>
      intro H5 e5
      refine ⟨off_ex e5, ⟨_, _, rfl⟩, ?_, ?_⟩
      · rw [e5 _ _ (e14 _ _ hA1), List.take_zero, cntA_nil N (by omega)]
        unfold nl
        rw [List.map_replicate]
        rfl
      · rw [e5 _ _ (e14 _ _ hA2), List.take_zero, varA_nil N (by omega), List.map_replicate]
    case hl => exact fun q σ' H' _ h => sq_of ((h.1.trans (off_le _ _)) _ _ oT)
    case hd =>
      rintro σ' H' ⟨p1, ⟨u, v, rfl⟩, p2, p3⟩
      rw [List.length_map, hts.1, List.take_length] at p2 p3
      rw [cntA_whole (by rw [wy_nB]; exact hN.symm)] at p2
      rw [varA_whole (by rw [wy_nB]; exact hN.symm)] at p3
      refine s_ret (ev_var rfl) fun H5 e5 => k p H5 np (((off_of e04 F4).trans p1).trans ((off_le _ _).trans e5)) ⟨a1, a2, (oP.ex p1).ex ((off_le _ _).trans e5), e5 _ _ p2, e5 _ _ p3⟩
    case hs =>
      rintro q v σ' H' hv ⟨p1, ⟨u, u2, rfl⟩, p2, p3⟩
      rw [List.getElem?_map] at hv
      cases ht' : ts[q]? with
      | none => rw [ht'] at hv; cases hv
      | some t =>
        rw [ht'] at hv
        cases hv
        obtain ⟨s, hs', hst⟩ := hts.getL ht'
        have hok := wy_ok hs'
        have etk := take_next hs'
        generalize hp : (wy k0 x y).take q = pr at p2 p3 hok etk
        have hle : nB (pr ++ [s]) ≤ x.length := by
          have := nB_take (wy k0 x y) (q + 1)
          rw [etk, wy_nB] at this
          exact this
        have hsn : 2 * nB (pr ++ [s]) + 1 ≤ N := by omega
        have hsn' : 2 * nB pr + (stB s).length < N := by
          rw [nB_snoc] at hsn
          have : (stB s).length ≤ 1 := by cases s <;> simp [stB]
          omega
        have hl1 : (cntA N pr).length = N := cntA_len (by rw [nB_snoc] at hsn; omega)
        have hl2 : (varA N pr).length = N := varA_len (by rw [nB_snoc] at hsn; omega)
        have up : ∀ {H2 : Hp}, Ex (Off [a1, a2] H') (Off [a1, a2] H2) → Ex (Off [a1, a2] H4) H2 := fun e => (p1.trans e).trans (off_le _ _)
        have st0 := oS hst
        have r0 : Ex (Off [a1, a2] H') (Off [a1, a2] H') := Ex.refl _
        refine q_asg (ev_add (ev_mul ev_c2 (ev_var rfl) (Or.inl ⟨by decide, by decide⟩)) (ev_ixT (ev_var rfl) (up r0 _ _ st0) rfl)) fun H5 e5 => ?_
        have r5 : Ex (Off [a1, a2] H') (Off [a1, a2] H5) := off_ex e5
        refine q_setL (v := .int (((cntA N pr).getD (2 * nB pr + (stB s).length) 0 + (stC s).length : Nat) : Int)) (e5 _ _ p2) (ev_add (ev_at (ev_fl T.Slots 0 (oP.ex (up r5)) (ev_var rfl)) (ev_var rfl) (sq_of (e5 _ _ p2)) (nl_at (n := (cntA N pr).getD (2 * nB pr + (stB s).length) 0) (by simp [hl1, hsn']))) (ev_ixT (ev_var rfl) (up r5 _ _ st0) rfl))
          (ev_fl T.Slots 0 (oP.ex (up r5)) (ev_var rfl)) (ev_var rfl) (by rw [nl_len, hl1]; exact hsn') fun H6 e6 => ?_
        generalize hG : upd H6 a1 _ = G
        have rG : Ex (Off [a1, a2] H') (Off [a1, a2] G) := by rw [← hG, off_upd (by simp)]; exact r5.trans (off_ex e6)
        have g1 : G a1 = some (.lst (nl (cntA N (pr ++ [s])))) := by
          rw [← hG, upd_same, cntA_snoc hsn]
          unfold nl
          rw [List.map_set]
        have g2 : G a2 = some (.lst ((varA N pr).map V.bl)) := by rw [← hG, upd_ne n12.symm]; exact (e5.trans e6) _ _ p3
        clear hG
        refine q_whenSet (b := unlike s) (v := .bl true) g2 (et_is' (et_not (et_test (ev_callV (v := .bl (!unlike s)) (ea_cons (ev_var rfl) (ea_cons (ev_var rfl) (ea_cons (ev_var rfl) (ea_cons (ev_var rfl) (ea_cons (ev_var rfl) ea_nil))))) fun H7 e7 => ⟨xa, ya, x, y, _, _, t, s, rfl, ((up rG).trans e7) _ _ oX, ((up rG).trans e7) _ _ oY, st0.ex ((up rG).trans e7), hok, rfl⟩))) (by simp))
          (fun _ _ => ev_c) (fun H7 e7 => ev_fl T.Slots 1 (oP.ex ((up rG).trans e7)) (ev_var rfl)) (fun _ _ => ev_var rfl) (by rw [List.length_map, hl2]; exact hsn') fun H7 e7 h7 => ?_
        have h7' : H7 a2 = some (.lst ((varA N (pr ++ [s])).map V.bl)) := by
          rw [h7, varA_snoc hsn]
          split
          · rw [List.map_set]
          · rfl
        have r7 : Ex (Off [a1, a2] H') (Off [a1, a2] H7) := rG.trans fun b o h => by
          obtain ⟨c, hb⟩ := off_some h
          have c2 : b ∉ [a2] := by
            intro z
            simp at z
            exact c (by simp [z])
          rw [off_out c]
          exact (off_some (e7 b o (by rw [off_out c2]; exact hb))).2
        have g7 : H7 a1 = some (.lst (nl (cntA N (pr ++ [s])))) := (off_some (e7 a1 _ (by rw [off_out (by simp [n12])]; exact g1))).2
        refine q_asg (ev_add (ev_var rfl) (ev_ixT (ev_var rfl) (up r7 _ _ st0) rfl)) fun H8 e8 => ?_
        refine s_asg (ev_add (ev_var rfl) (ev_ixT (ev_var rfl) ((up r7).trans e8 _ _ st0) rfl)) fun H9 e9 => ?_
        have e89 := e8.trans e9
        refine ⟨p1.trans (r7.trans (off_ex e89)), ⟨some (.ref t), some (.int ((2 * nB pr + (stB s).length : Nat) : Int)), ?_⟩, ?_, ?_⟩
        · rw [etk, nB_snoc, nC_snoc]
          rfl
        · rw [etk]
          exact e89 _ _ g7
        · rw [etk]
          exact e89 _ _ h7'
end
end Pf

end
section
set_option Elab.async false
set_option linter.all false
set_option maxRecDepth 100000
set_option maxHeartbeats 4000000
/-! Places where a copy differs. -/
namespace Pf
open PySem PySem.Spec PyProof.Rows L2 Evl
theorem take_snd {l : List Nat} {i m : Nat} (h : l[i]? = some m) : (l.take (i + 1)).sum = (l.take i).sum + m := by
  rw [take_next h, List.sum_append]
  simp
theorem sum_mono (l : List Nat) {i j : Nat} (h : i ≤ j) : (l.take i).sum ≤ (l.take j).sum := by
  obtain ⟨d, rfl⟩ : ∃ d, j = i + d := ⟨j - i, by omega⟩
  rw [sum_split]
  omega
/-- a run, as the program tells it -/
def PlcAt {K : PySem.W.Frag} {mg : Str → Option Value} (T : Tp K mg) (cs : List Nat) (H : Hp) (a : Addr) (r : Nat × Nat) : Prop :=
  InsAt H a T.Place.C flPlace [.int ((r.1 / 2 : Nat) : Int), .int (((r.1 + r.2) / 2 : Nat) : Int), .int ((cs.take r.1).sum : Int), .int ((cs.take (r.1 + r.2)).sum : Int)]
def PlaceAt {K : PySem.W.Frag} {mg : Str → Option Value} (T : Tp K mg) (H : Hp) (a : Addr) (p : Si43.Place) : Prop :=
  InsAt H a T.Place.C flPlace [.int (p.at_ : Int), .int ((p.at_ + p.words : Nat) : Int), .int (p.at2 : Int), .int ((p.at2 + p.words2 : Nat) : Int)]
section
variable {K : PySem.W.Frag} {mg : Str → Option Value} {T : Tp K mg} {H H' : Hp} {a : Addr} {cs : List Nat}
theorem PlcAt.ex {r : Nat × Nat} (h : PlcAt T cs H a r) (e : Ex H H') : PlcAt T cs H' a r := InsAt.ex h e
theorem PlaceAt.ex {r : Si43.Place} (h : PlaceAt T H a r) (e : Ex H H') : PlaceAt T H' a r := InsAt.ex h e
theorem plc_at {r : Nat × Nat} (h : PlcAt T cs H a r) : PlaceAt T H a (plc cs r) := by
  unfold PlaceAt plc
  dsimp only
  have h1 : r.1 / 2 + ((r.1 + r.2) / 2 - r.1 / 2) = (r.1 + r.2) / 2 := by
    have : r.1 / 2 ≤ (r.1 + r.2) / 2 := Nat.div_le_div_right (by omega)
    omega
  have h2 : (cs.take r.1).sum + ((cs.take (r.1 + r.2)).sum - (cs.take r.1).sum) = (cs.take (r.1 + r.2)).sum := by
    have := sum_mono cs (show r.1 ≤ r.1 + r.2 by omega)
    omega
  rw [h1, h2]
  exact h
theorem plc_last {qs : List Addr} {c : List (Nat × Nat)} {r r' : Nat × Nat} (h : Al2 (PlcAt T cs H) (qs ++ [a]) (c ++ [r])) (nd : (qs ++ [a]).Nodup) (e : Ex (Off [a] H) (Off [a] H')) (h' : PlcAt T cs H' a r') : Al2 (PlcAt T cs H') (qs ++ [a]) (c ++ [r']) := by
  have hl := h.1
  rw [List.length_append, List.length_append] at hl
  have hl : qs.length = c.length := by simpa using hl
  refine Al2.snoc ⟨hl, fun i x y hx hy => ?_⟩ h'
  have hi := (List.getElem?_eq_some_iff.mp hx).1
  have := h.2 i x y (by rw [List.getElem?_append_left hi]; exact hx) (by rw [List.getElem?_append_left (by omega)]; exact hy)
  refine InsAt.frame this e fun z => ?_
  subst z
  rw [List.nodup_append] at nd
  exact nd.2.2 x (List.mem_of_getElem? hx) x (by simp) rfl
end
section
variable {K : PySem.W.Frag} {σ : L2.St} {H : Hp} {te ta : TE} {t : TT} {D : Ends} {tz : TS} {P : Addr → Hp → Prop} {M : Hp → Prop}
/-- if c: xs.append(C(..)) -/
theorem q_whenAppR {b : Bool} {l : Addr} {xs : List V} (hl : H l = some (.lst xs)) (ht : EvT t σ H b) (ha : ∀ H1, Ex H H1 → Ev ta σ H1 (.ref l)) (he : b = true → EvR te σ H P) (hz : xs.length < 100000)
    (k1 : b = true → ∀ p H1, H p = none → Ex H H1 → P p H1 → M (upd H1 l (.lst (xs ++ [.ref p])))) (k2 : b = false → ∀ H1, Ex H H1 → M H1) (k : ∀ H', M H' → tz D σ H') : tSeq (tIfS t (tDrop (tBM K "list" rAppend ta (tCons te tNil))) tNext) tz D σ H := by
  refine q_when ht (fun hb H1 e1 => ?_) (fun hb H1 e1 => k H1 (k2 hb H1 e1))
  refine s_appP (e1 _ _ hl) (ha H1 e1) ((he hb).mono e1).toP hz fun v H2 e2 hv => ?_
  obtain ⟨p, rfl, hn, hp⟩ := hv
  exact k _ (k1 hb p H2 (ex_none e1 hn) (e1.trans e2) hp)
theorem ev_div2 {n : Nat} (h : Ev te σ H (.int (n : Int))) : Ev (tOp (rI CDiv fun i j => V.int (i / j)) te (tC (.int 2))) σ H (.int ((n / 2 : Nat) : Int)) := ev_is (ev_op h ev_c (rv_I (by unfold CDiv; first | decide | omega | simp))) (by congr 1)
theorem at_last {l : List Addr} {a : Addr} : atI ((l ++ [a]).map V.ref) (-1) = some (.ref a) := by
  have hl : ((l ++ [a]).map V.ref).length = l.length + 1 := by simp
  have e : ixN ((l ++ [a]).map V.ref).length (-1) = some l.length := by
    rw [hl]
    unfold ixN
    rw [if_neg (by omega), if_pos (by omega)]
    congr 1
    omega
  unfold atI
  rw [e, Option.bind_some]
  simp
end
section
variable {P : Program} {w : World} {K : PySem.W.Frag} {mg : Str → Option Value} {base : Heap}
def sp_places_of (T : Tp K mg) : Sp := spR fun vs H P => ∃ xa ya ca k x y, vs = [.ref xa, .ref ya, .ref ca] ∧ H xa = some (.lst (nl x)) ∧ H ya = some (.lst (nl y)) ∧ CostAt T H ca k ∧ x.length ≤ 200 ∧ y.length ≤ 200 ∧
  P = fun p H2 => ∃ ps : List Addr, H2 p = some (.lst (ps.map V.ref)) ∧ Al2 (PlaceAt T H2) ps (Si43.places k x y)
-- slots: base 0, copy 1, costs 2, slots 3, found 4, before 5, is_open 6, slot 7, many 8
theorem ok_places_of (T : Tp K mg) : FnOk P w K mg base CX0 5 T.places_of.f T.places_of.fd P_places_of (sp_places_of T) := by
  refine T.places_of.F.ok sc_places_of (fun vs H Q E h => ?_) (fun cdv A outer s H vs Q E hr h => ⟨_, (pss_cons (ps_set (i := 3) sc_places_of.nd rfl (.inl rfl) (pe_call (ok_slots_of T) (hr.mono (by decide)) rfl T.slots_of.g T.slots_of.F.kp T.slots_of.b .nil pass0 (pa_cons (pv 0) (pa_cons (pv 1) (pa_cons (pv 2) pa_nil)))))
    (pss_cons (ps_set (i := 4) sc_places_of.nd rfl (.inl rfl) (pe_lst pa_nil))
    (pss_cons (ps_set (i := 5) sc_places_of.nd rfl (.inl rfl) pe_int)
    (pss_cons (ps_set (i := 6) sc_places_of.nd rfl (.inl rfl) pe_bl)
    (pss_cons (ps_for PassesOwn.never rfl (pi_enum rfl T.nenumerate (pa_cons (pe_fld (pv 3) rfl) pa_nil)) (pg_tup rfl (pgs_cons (pg_name (i := 7) sc_places_of.nd rfl (.inl rfl)) (pgs_cons (pg_name (i := 8) sc_places_of.nd rfl (.inl rfl)) pgs_nil))) (pss_cons (ps_if (pt_val (pe_ix ix_list (pe_fld (pv 3) rfl) (pv 7) (fun _ _ => rfl))) (pss_cons (ps_if (pt_not (pt_val (pv 6))) (pss_one (ps_expr (pe_bm PySem.F.plainAttrs_list PySem.F.slot_list_append PySem.F.type_list_append mt_append (pv 4) (pa_cons (pe_make T.Place.mkd (ok_Place_init T) (hr.mono (by decide)) rfl T.Place.g T.Place.b .nil pass0 (pa_cons (pe_op op_fdiv (pv 7) pe_int) (pa_cons (pe_op op_fdiv (pv 7) pe_int) (pa_cons (pv 5) (pa_cons (pv 5) pa_nil))))) pa_nil)))) pss_nil)
    (pss_cons (ps_fld (pe_ix ix_list (pv 4) (pe_un un_neg pe_int) (fun _ _ => rfl)) (pe_op op_fdiv (pe_op op_add (pv 7) pe_int) pe_int) rfl)
    (pss_one (ps_fld (pe_ix ix_list (pv 4) (pe_un un_neg pe_int) (fun _ _ => rfl)) (pe_op op_add (pv 5) (pv 8)) rfl)))) pss_nil)
    (pss_cons (ps_set (i := 6) sc_places_of.nd rfl (.inl rfl) (pe_ix ix_list (pe_fld (pv 3) rfl) (pv 7) (fun _ _ => rfl)))
    (pss_one (ps_set (i := 5) sc_places_of.nd rfl (.inl rfl) (pe_op op_add (pv 5) (pv 8)))))))
    (pss_one (ps_ret (pv 4)))))))), ?_⟩)
  · obtain ⟨v, ⟨xa, ya, ca, k0, x, y, rfl, _⟩, _⟩ := h
    rfl
  · obtain ⟨P', ⟨xa, ya, ca, k0, x, y, rfl, hX, hY, hC, hx, hy, rfl⟩, k⟩ := h
    refine q_asgR (er_callR (ea_cons (ev_var rfl) (ea_cons (ev_var rfl) (ea_cons (ev_var rfl) ea_nil))) (fun H4 e => ⟨xa, ya, ca, k0, x, y, rfl, e _ _ hX, e _ _ hY, hC.ex e, hx, hy, rfl⟩)) fun sa H1 ns e1 h1 => ?_
    obtain ⟨a1, a2, hs, hA1, hA2⟩ := h1
    have hcl : (cntF 0 (wy k0 x y)).length = 2 * x.length + 1 := by rw [cntF_len, wy_nB]
    have hvl : (varF false (wy k0 x y)).length = 2 * x.length + 1 := by rw [varF_len, wy_nB]
    have hpe := places_eq k0 x y
    have hmax : (cntF 0 (wy k0 x y)).length ≤ 401 := by omega
    generalize cntF 0 (wy k0 x y) = cs at hA1 hcl hpe hmax
    generalize varF false (wy k0 x y) = bs at hA2 hvl hpe
    refine q_asgL (el_lst ea_nil (by decide)) fun fd H2 nf e2 hf => ?_
    refine q_asg ev_c fun H3 e3 => ?_
    refine q_asg ev_c fun H4 e4 => ?_
    have e24 := e3.trans e4
    have e14 := e2.trans e24
    refine q_forE (ea_cons (ev_fl T.Slots 0 (hs.ex e14) (ev_var rfl)) ea_nil) (sq_of (e14 _ _ hA1)) (fun i σ' H' => Ex H1 H' ∧ ∃ (u v : Option V) (c : List (Nat × Nat)) (o : Option (Nat × Nat)) (ps : List Addr), (c, o) = rsAll ([], none) 0 (bs.take i) ∧
      σ' = [some (.ref xa), some (.ref ya), some (.ref ca), some (.ref sa), some (.ref fd), some (.int ((cs.take i).sum : Int)), some (.bl o.isSome), u, v] ∧ H' fd = some (.lst (ps.map V.ref)) ∧ Al2 (PlcAt T cs H') ps (c ++ o.toList) ∧ ps.Nodup ∧ (∀ a ∈ ps, H1 a = none) ∧ ps.length ≤ i) ?h0 ?hl ?hs ?hd
    case h0 =>
      exact fun H5 e5 => ⟨e14.trans e5, _, _, [], none, [], rfl, rfl, (e24.trans e5) _ _ hf, Al2.nil, List.nodup_nil, by simp, Nat.zero_le _⟩
    case hl => exact fun i σ' H' _ h => sq_of (h.1 _ _ hA1)
    case hd =>
      rintro σ' H' ⟨p1, u, v, c, o, ps, hco, rfl, p2, p3, p4, p5, p6⟩
      rw [nl_len, hcl, ← hvl, List.take_length] at hco
      rw [← hco] at hpe
      refine s_ret (ev_var rfl) fun H5 e5 => k fd H5 (ex_none e1 nf) ((e1.trans p1).trans e5) ⟨ps, e5 _ _ p2, ?_⟩
      rw [hpe]
      exact p3.right fun a b h => (plc_at h).ex e5
    case hs =>
      rintro i v σ' H' hv ⟨p1, u, u2, c, o, ps, hco, rfl, p2, p3, p4, p5, p6⟩ H5 e5
      unfold nl at hv
      rw [List.getElem?_map] at hv
      cases hm : cs[i]? with
      | none => rw [hm] at hv; cases hv
      | some m =>
        rw [hm] at hv
        cases hv
        have hi : i < cs.length := (List.getElem?_eq_some_iff.mp hm).1
        have hb : bs[i]? = some (bs[i]'(by omega)) := by simp [show i < bs.length by omega]
        generalize bs[i]'(by omega) = b at hb
        have hok : RsOk (c, o) i := by
          have := RsOk.all (bs.take i) RsOk.nil
          rw [← hco, Nat.zero_add, List.length_take, Nat.min_eq_left (by omega)] at this
          exact this
        have hnx : rs (c, o) i b = rsAll ([], none) 0 (bs.take (i + 1)) := by
          rw [take_next hb, rsAll_snoc, ← hco, Nat.zero_add, List.length_take, Nat.min_eq_left (by omega)]
        have p15 := p1.trans e5
        have vrd : ∀ {H6 : Hp} {σ : L2.St} {te tf : TE}, Ex H1 H6 → Ev te σ H6 (.ref sa) → Ev tf σ H6 (.int (i : Int)) → Ev (tOp (rIxL K) (tFld K te (Str.ofString "varied")) tf) σ H6 (.bl b) := fun e h1 h2 => ev_at (ev_fl T.Slots 1 (hs.ex e) h1) h2 (sq_of (e _ _ hA2)) (by rw [List.getElem?_map, hb]; rfl)
        have hsum : (cs.take (i + 1)).sum = (cs.take i).sum + m := take_snd hm
        refine q_when (b := b) (et_test (vrd p15 (ev_var rfl) (ev_var rfl))) (fun hbt H6 e6 => ?_) (fun hbf H6 e6 => ?_)
        · subst hbt
          have p16 := p15.trans e6
          have e06 := e5.trans e6
          refine q_whenAppR (b := !o.isSome) (M := fun H' => ∃ (qs : List Addr) (a : Addr) (r : Nat × Nat), Ex H1 H' ∧ H' fd = some (.lst ((qs ++ [a]).map V.ref)) ∧ Al2 (PlcAt T cs H') (qs ++ [a]) (c ++ [r]) ∧ (qs ++ [a]).Nodup ∧ (∀ a' ∈ qs ++ [a], H1 a' = none) ∧ (qs ++ [a]).length ≤ i + 1 ∧ r.1 + r.2 = i ∧ rs (c, o) i true = (c, some (r.1, r.2 + 1)))
            (e06 _ _ p2) (et_not (et_test (ev_var rfl))) (fun _ _ => ev_var rfl)
            (fun _ => er_makeA (ea_cons (ev_div2 (ev_var rfl)) (ea_cons (ev_div2 (ev_var rfl)) (ea_cons (ev_var rfl) (ea_cons (ev_var rfl) ea_nil)))) rfl) (by rw [List.length_map]; omega) (fun ho p H7 np e7 hp => ?_) (fun ho H7 e7 => ?_) fun H7 hM => ?_
          · cases o with
            | some r => cases ho
            | none =>
              have fdp : p ≠ fd := fun z => by rw [z, e06 _ _ p2] at np; cases np
              have pps : p ∉ ps := fun z => by
                obtain ⟨j, hj⟩ := List.mem_iff_getElem?.mp z
                obtain ⟨r, _, _, dx, hi⟩ := p3.getL hj
                rw [e06 _ _ hi] at np
                cases np
              refine ⟨ps, p, (i, 0), Ex.mut (p16.trans e7) nf, by rw [upd_same]; simp, ?_, ?_, ?_, by rw [List.length_append]; simp; omega, by simp, by simp [rs]⟩
              · refine Al2.snoc ?_ ?_
                · have := p3
                  rw [Option.toList_none, List.append_nil] at this
                  refine this.mono fun a b h => InsAt.frame (a := fd) (h.ex (e06.trans e7)) (by rw [off_upd (by simp)]; exact Ex.refl _) ?_
                  intro z
                  obtain ⟨_, dx, hi⟩ := h
                  rw [z, p2] at hi
                  cases hi
                · refine InsAt.frame (a := fd) hp (by rw [off_upd (by simp)]; exact Ex.refl _) fdp
              · rw [List.nodup_append]
                refine ⟨p4, by simp, fun a ha b hb => ?_⟩
                have : b = p := by simpa using hb
                subst this
                exact fun z => pps (z ▸ ha)
              · intro a ha
                rcases List.mem_append.mp ha with ha | ha
                · exact p5 a ha
                · have : a = p := by simpa using ha
                  subst this
                  exact ex_none p16 np
          · cases o with
            | none => cases ho
            | some r =>
              obtain ⟨qs, a, rfl⟩ : ∃ qs a, ps = qs ++ [a] := by
                rcases List.eq_nil_or_concat ps with h | ⟨qs, a, h⟩
                · have := p3.1
                  rw [h] at this
                  simp at this
                · exact ⟨qs, a, by rw [h]; simp⟩
              have e07 := e06.trans e7
              refine ⟨qs, a, r, p1.trans e07, e07 _ _ p2, p3.mono fun _ _ h => h.ex e07, p4, p5, by omega, (hok.op r rfl).1, by simp [rs]⟩
          · obtain ⟨qs, a, r, m1, m2, m3, m4, m5, m6, m7, m8⟩ := hM
            rw [m8] at hnx
            have ha1 : H1 a = none := m5 a (by simp)
            have hql : qs.length = c.length := by
              have := m3.1
              rw [List.length_append, List.length_append] at this
              simpa using this
            have hlast : PlcAt T cs H7 a r := m3.2 qs.length a r (by simp) (by rw [hql]; simp)
            refine q_fl T.Place 1 hlast (ev_op (ev_var rfl) (ev_un ev_c ru_neg) (rv_ixL (sq_of m2) at_last)) (ev_div2 (ev_plus1 (ev_var rfl))) fun H8 dx e8 h8 hi8 => ?_
            generalize hG : upd H8 a _ = G at hi8 ⊢
            have oG : Ex (Off [a] H7) (Off [a] G) := by rw [← hG, off_upd (by simp)]; exact off_ex e8
            have exG : Ex H1 G := by rw [← hG]; exact Ex.mut (m1.trans e8) ha1
            have fda : fd ≠ a := fun z => by
              obtain ⟨_, dx, hi⟩ := hlast
              rw [← z, m2] at hi
              cases hi
            have gfd : G fd = some (.lst ((qs ++ [a]).map V.ref)) := by rw [← hG, upd_ne fda]; exact e8 _ _ m2
            clear hG
            refine s_fl T.Place 3 hi8 (ev_op (ev_var rfl) (ev_un ev_c ru_neg) (rv_ixL (sq_of gfd) at_last)) (ev_add (ev_var rfl) (ev_var rfl)) fun H9 dx9 e9 h9 hi9 => ?_
            generalize hG : upd H9 a _ = G9 at hi9 ⊢
            have oG9 : Ex (Off [a] H7) (Off [a] G9) := by rw [← hG, off_upd (by simp)]; exact oG.trans (off_ex e9)
            have exG9 : Ex H1 G9 := by rw [← hG]; exact Ex.mut (exG.trans e9) ha1
            have gfd9 : G9 fd = some (.lst ((qs ++ [a]).map V.ref)) := by rw [← hG, upd_ne fda]; exact e9 _ _ gfd
            clear hG
            have h' : PlcAt T cs G9 a (r.1, r.2 + 1) := by
              have er : r.1 + (r.2 + 1) = i + 1 := by omega
              unfold PlcAt
              dsimp only
              rw [er, hsum]
              exact hi9
            refine q_asg (vrd exG9 (ev_var rfl) (ev_var rfl)) fun HA eA => ?_
            refine s_asg (ev_add (ev_var rfl) (ev_var rfl)) fun HB eB => ?_
            have eAB := eA.trans eB
            refine ⟨exG9.trans eAB, some (.int (i : Int)), some (.int (m : Int)), c, some (r.1, r.2 + 1), qs ++ [a], hnx, ?_, eAB _ _ gfd9, (plc_last m3 m4 oG9 h').mono fun _ _ h => h.ex eAB, m4, m5, m6⟩
            rw [hsum]
            rfl
        · subst hbf
          have hrf : rs (c, o) i false = (c ++ o.toList, none) := by simp [rs]
          rw [hrf] at hnx
          have p16 := p15.trans e6
          refine q_asg (vrd p16 (ev_var rfl) (ev_var rfl)) fun HA eA => ?_
          refine s_asg (ev_add (ev_var rfl) (ev_var rfl)) fun HB eB => ?_
          have eB' := (e5.trans e6).trans (eA.trans eB)
          refine ⟨p1.trans eB', some (.int (i : Int)), some (.int (m : Int)), c ++ o.toList, none, ps, hnx, ?_, eB' _ _ p2, ?_, p4, p5, by omega⟩
          · rw [hsum]
            rfl
          · rw [Option.toList_none, List.append_nil]
            exact p3.mono fun _ _ h => h.ex eB'
end
end Pf

end
section
set_option Elab.async false
set_option linter.all false
set_option maxRecDepth 100000
set_option maxHeartbeats 4000000
/-! Refusals; words of a row. -/
namespace Pf
open PySem PySem.Spec PyProof.Rows L2 Evl
section
variable {K : PySem.W.Frag} {σ : L2.St} {H : Hp} {ta : TA} {to te : TE} {D : Ends} {tz : TS}
theorem q_veinit {a C : Addr} {m : V} (h : EvA ta σ H [.ref a, m]) (oc : OexC K C) (ha : H a = some (exo a C none)) (k : ∀ H1, Ex H H1 → tz D σ H1) : tSeq (tDrop (tVeI K ta)) tz D σ H :=
  h H (Ex.refl H) _ fun H1 e1 => ⟨a, C, [m], rfl, by show 1 ≤ 1000; decide, oc, e1 _ _ ha, k H1 e1⟩
theorem s_ost {a C : Addr} {f : Str} {y : V} (ha : H a = some (exo a C none)) (oc : OexC K C) (no : PySem.W.findIn K (.ref C) f = some none) (hx : Ev to σ H (.ref a)) (hy : Ev te σ H y)
    (k : ∀ H2 dx, Ex H H2 → H2 dx = none → dx ≠ a → D.nx σ (upd (upd H2 dx (exd dx [(f, y)])) a (exo a C (some dx)))) : tOst K f to te D σ H :=
  hy H (Ex.refl H) _ fun H1 e1 => hx H1 e1 _ fun H2 e2 => ⟨a, C, rfl, oc, no, Or.inl ⟨(e1.trans e2) _ _ ha, fun dx h1 h2 => k H2 dx (e1.trans e2) h1 h2⟩⟩
end
section
variable {P : Program} {w : World} {K : PySem.W.Frag} {mg : Str → Option Value} {base : Heap}
def numF (n : Int) : List (Str × V) := [("number", .int n)]
def sp_Refused_init (T : Tp K mg) : Sp := fun vs H Q _ => ∃ a n m, vs = [.ref a, .int n, m] ∧ H a = some (exo a T.Refused.C none) ∧ ∀ H2 dx, Ex H H2 → H2 dx = none → dx ≠ a → Q .non (upd (upd H2 dx (exd dx (numF n))) a (exo a T.Refused.C (some dx)))
theorem ok_Refused_init (T : Tp K mg) : FnOk P w K mg base CX0 1 T.Refused.fI T.Refused.fdI P_Refused_init (sp_Refused_init T) := by
  refine T.Refused.F.ok sc_Refused_init (fun vs H Q E h => ?_) (fun cdv A outer s H vs Q E hr h => ⟨_, (pss_cons (ps_expr (pe_veinit rfl T.nValueError T.vV (pa_cons (pv 0) (pa_cons (pv 2) pa_nil))))
    (pss_one (ps_ost (pv 0) (pv 1)))), ?_⟩)
  · obtain ⟨a, n, m, rfl, _⟩ := h
    rfl
  · obtain ⟨a, n, m, rfl, ha, k⟩ := h
    refine q_veinit (ea_cons (ev_var rfl) (ea_cons (ev_var rfl) ea_nil)) T.Refused.oex ha fun H1 e1 => ?_
    exact s_ost (e1 _ _ ha) T.Refused.oex T.Refused.no (ev_var rfl) (ev_var rfl) fun H2 dx e2 h1 h2 => k H2 dx (e1.trans e2) h1 h2
/-- a refusal -/
def Ref (T : Tp K mg) (H : Hp) (n : Int) (E : XK) : Prop := ∀ H' d, Ex H H' → H d = none → H' d = some (.xd (numF n)) → E (.ref T.Refused.C) (some d) H'
theorem Ref.mono {T : Tp K mg} {H H' : Hp} {n : Int} {E : XK} (h : Ref T H n E) (e : Ex H H') : Ref T H' n E := fun H2 d e2 hd hx => h H2 d (e.trans e2) (ex_none e hd) hx
def sp_ask (T : Tp K mg) : Sp := fun vs H Q E => ∃ b n, vs = [.bl b, .int n] ∧ (b = true → ∀ H', Ex H H' → Q .non H') ∧ (b = false → Ref T H n E)
-- slots: holds 0, number 1
theorem ok_ask (T : Tp K mg) : FnOk P w K mg base (L2.CX P w) 3 T.ask.f T.ask.fd P_ask (sp_ask T) := by
  refine T.ask.F.okX sc_ask (fun vs H Q E h => ?_) (fun cdv A outer s H vs Q E hr h => ⟨_, (pss_one (ps_if (pt_not (pt_val (pv 0))) (pss_one (ps_raise rfl (takes_of rfl rfl rfl rfl) (pmk_oex T.Refused.oex T.Refused.iC T.Refused.tI (ok_Refused_init T) (hr.mono (by decide)) T.Refused.b .nil pass0 rfl T.Refused.g (pa_cons (pv 1) (pa_cons pe_str pa_nil))))) pss_nil)), ?_⟩)
  · obtain ⟨b, n, rfl, _⟩ := h
    rfl
  · obtain ⟨b, n, rfl, k1, k2⟩ := h
    refine s_when (b := !b) (et_not (et_test (ev_var rfl))) (fun hb H1 e1 => ?_) (fun hb H1 e1 => k1 (by simpa using hb) H1 e1)
    have hb' : b = false := by simpa using hb
    have args : EvA (tCons (tVar 1) (tCons (tC (.str "a call")) tNil)) [some (.bl b), some (.int n)] H1 [.int n, .str "a call"] := ea_cons (ev_var rfl) (ea_cons ev_c ea_nil)
    refine args H1 (Ex.refl H1) _ fun H2 e2 => ⟨by show 2 ≤ 1000; decide, fun a ha => ⟨a, n, _, rfl, upd_same, fun H3 dx e3 hdx hne => ⟨rfl, dx, numF n, upd_same, by rw [upd_ne hne, upd_same], ?_, ?_⟩⟩⟩
    · have := ex_none e3 hdx
      rw [upd_ne hne] at this
      exact this
    · have hdx2 : H2 dx = none := by
        have := ex_none e3 hdx
        rw [upd_ne hne] at this
        exact this
      refine k2 hb' _ dx (fun b o hbo => ?_) (ex_none (e1.trans e2) hdx2) upd_same
      have h2 := (e1.trans e2) b o hbo
      have n1 : b ≠ a := fun z => by rw [z, ha] at h2; cases h2
      have n2 : b ≠ dx := fun z => by rw [z, hdx2] at h2; cases h2
      rw [upd_ne n2]
      unfold del
      rw [if_neg n1, upd_ne n1, upd_ne n2]
      exact e3 b o (by rw [upd_ne n1]; exact h2)
end
section
variable {K : PySem.W.Frag} {mg : Str → Option Value} {T : Tp K mg} {σ : L2.St} {H : Hp} {ta : TA} {D : Ends} {tz : TS} {E : XK} {b : Bool} {n : Int}
theorem s_asks (h : EvA ta σ H [.bl b, .int n]) (k1 : b = true → ∀ H1, Ex H H1 → D.nx σ H1) (k2 : b = false → Ref T H n E) : tDrop (tCall (sp_ask T) [] E ta) D σ H := s_callD h fun H1 e1 => ⟨b, n, rfl, fun hb H2 e2 => k1 hb H2 (e1.trans e2), fun hb => (k2 hb).mono e1⟩
theorem q_asks (h : EvA ta σ H [.bl b, .int n]) (k1 : b = true → ∀ H1, Ex H H1 → tz D σ H1) (k2 : b = false → Ref T H n E) : tSeq (tDrop (tCall (sp_ask T) [] E ta)) tz D σ H := s_asks (D := { D with nx := tz D }) h k1 k2
/-- what is asked, and the number -/
theorem ea_ask {te tu : TE} (h : Ev te σ H (.bl b)) (hn : Ev tu σ H (.int n)) : EvA (tCons te (tCons tu tNil)) σ H [.bl b, .int n] := ea_cons h (ea_cons hn ea_nil)
end
end Pf

end
section
set_option Elab.async false
set_option linter.all false
set_option maxRecDepth 100000
set_option maxHeartbeats 4000000
/-! Words of a row; the holder. -/
namespace Pf
open PySem PySem.Spec PyProof.Rows L2 Evl
theorem given_list {α : Type} (xs : List α) (p : α → Bool) (f : α → V) (f' : Nat → Bool) (v' : Nat → V) (hf : ∀ i x, xs[i]? = some x → f' i = p x) (hv : ∀ i x, xs[i]? = some x → p x = true → v' i = f x) : given xs.length f' v' = (xs.filter p).map f := by
  have : ∀ n, n ≤ xs.length → given n f' v' = ((xs.take n).filter p).map f := by
    intro n
    induction n with
    | zero => intro _; rfl
    | succ n ih =>
      intro hn
      have hx : xs[n]? = some xs[n] := by simp [show n < xs.length by omega]
      rw [take_next hx, List.filter_append, List.map_append, ← ih (by omega)]
      cases hp : p xs[n] with
      | true => rw [given_yes (by rw [hf n _ hx]; exact hp), hv n _ hx hp]; simp [hp]
      | false => rw [given_no (by rw [hf n _ hx]; exact hp)]; simp [hp]
  rw [this _ (Nat.le_refl _), List.take_length]
section
variable {K : PySem.W.Frag} {σ : L2.St} {H : Hp} {tl te ta tb : TE} {t : TT}
/-- [e for x in xs if t], the row's items told by others -/
theorem el_lcG {α : Type} {R : V → α → Prop} {a : Addr} {vs0 : List V} {xs : List α} {j : Nat} {vs : List Nat} (p : α → Bool) (f : α → V) (h : Ev tl σ H (.ref a)) (ha : H a = some (.lst vs0)) (hR : Al2 R vs0 xs) (hz : xs.length ≤ 40000)
    (hw : ∀ x, wipe ((wipe σ vs).set j (some x)) vs = wipe σ vs) (ht : ∀ v x H1, Ex H H1 → R v x → EvT t ((wipe σ vs).set j (some v)) H1 (p x)) (he : ∀ v x H1, Ex H H1 → R v x → p x = true → Ev te ((wipe σ vs).set j (some v)) H1 (f x)) :
    EvL (tLc (iList K tl) (gName j) t te vs) σ H ((xs.filter p).map f) := by
  have := el_lcL (K := K) (σ := σ) (H := H) (te := te) (t := t) (tl := tl) (j := j) (vs := vs) (fun i => match xs[i]? with | some x => p x | none => false) (fun i => match xs[i]? with | some x => f x | none => .non) h (sq_of ha) (by rw [hR.1]; exact hz) hw (fun i v H1 e hv => by
    obtain ⟨x, hx, hr⟩ := hR.getL hv
    rw [hx]
    exact ht v x H1 e hr) (fun i v H1 e hv hf => by
    obtain ⟨x, hx, hr⟩ := hR.getL hv
    rw [hx] at hf ⊢
    exact he v x H1 e hr hf)
  rw [hR.1, given_list xs p f _ _ (fun i x hx => by rw [hx]) (fun i x hx _ => by rw [hx])] at this
  exact this
theorem al_nat (l : List Nat) : Al2 (fun v (n : Nat) => v = V.int (n : Int)) (nl l) l := ⟨nl_len l, fun i a b h1 h2 => by
  unfold nl at h1
  rw [List.getElem?_map, h2] at h1
  exact (Option.some.inj h1).symm⟩
theorem al_ref {α : Type} {R : Addr → α → Prop} {as : List Addr} {xs : List α} (h : Al2 R as xs) : Al2 (fun v x => ∃ a, v = V.ref a ∧ R a x) (as.map V.ref) xs := ⟨by rw [List.length_map]; exact h.1, fun i a b h1 h2 => by
  rw [List.getElem?_map] at h1
  cases ha : as[i]? with
  | none => rw [ha] at h1; cases h1
  | some x => rw [ha] at h1; exact ⟨x, (Option.some.inj h1).symm, h.2 i x b ha h2⟩⟩
/-- a row of numbers: those for which p holds -/
theorem el_lcN {a : Addr} {l : List Nat} {j : Nat} {vs : List Nat} (p : Nat → Bool) (h : Ev tl σ H (.ref a)) (ha : H a = some (.lst (nl l))) (hz : l.length ≤ 40000)
    (hw : ∀ x, wipe ((wipe σ vs).set j (some x)) vs = wipe σ vs) (ht : ∀ (n : Nat) H1, Ex H H1 → EvT t ((wipe σ vs).set j (some (.int (n : Int)))) H1 (p n)) (he : ∀ (n : Nat) H1, Ex H H1 → Ev te ((wipe σ vs).set j (some (.int (n : Int)))) H1 (.int (n : Int))) :
    EvL (tLc (iList K tl) (gName j) t te vs) σ H (nl (l.filter p)) :=
  el_lcG p (fun n => V.int (n : Int)) h ha (al_nat l) hz hw (fun v n H1 e hv => by rw [hv]; exact ht n H1 e) (fun v n H1 e hv _ => by rw [hv]; exact he n H1 e)
/-- = [] -/
theorem ev_isNil {l : List Nat} (h : EvL ta σ H (nl l)) : Ev (tOp (rEqD K) ta (tLst tNil)) σ H (.bl (decide (l = []))) := ev_opLL h (el_lst ea_nil (by decide)) fun p q H1 hp hq e => rv_eqN (sq_of hp) (sq_of (show H1 q = some (.lst (nl [])) from hq))
theorem et_out (lo hi : Nat) {n : Nat} {tx ty : TE} (h : Ev tx σ H (.int (n : Int))) (hl : Ev ta σ H (.int (lo : Int))) (h2 : Ev ty σ H (.int (n : Int))) (hh : Ev tb σ H (.int (hi : Int))) : EvT (tOr (tTest (tOp (rI0 fun i j => V.bl (decide (i < j))) tx ta)) (tTest (tOp (rI0 fun i j => V.bl (decide (j < i))) ty tb))) σ H (decide (n < lo) || decide (hi < n)) :=
  et_or (et_lt h hl) (fun _ => et_is' (et_test (ev_op h2 hh rv_I0)) (by rw [Bool.eq_iff_iff]; simp))
theorem out_nil (lo hi : Nat) (l : List Nat) : decide (l.filter (fun n => decide (n < lo) || decide (hi < n)) = []) = l.all fun w => decide (lo ≤ w) && decide (w ≤ hi) := by
  rw [Bool.eq_iff_iff, decide_eq_true_eq, List.filter_eq_nil_iff, List.all_eq_true]
  constructor
  · intro h x hx
    have := h x hx
    simp at this ⊢
    omega
  · intro h x hx
    have := h x hx
    simp at this ⊢
    omega
end
section
variable {P : Program} {w : World} {K : PySem.W.Frag} {mg : Str → Option Value} {base : Heap}
def sp_are_words (T : Tp K mg) : Sp := spV fun vs v H => ∃ ra l, vs = [.ref ra] ∧ H ra = some (.lst (nl l)) ∧ l.length ≤ 40000 ∧ v = .bl (Si42.wordsOk l)
-- slots: row 0, word 1
theorem ok_are_words (T : Tp K mg) : FnOk P w K mg base CX0 1 T.are_words.f T.are_words.fd P_are_words (sp_are_words T) := by
  refine T.are_words.F.ok sc_are_words (fun vs H Q E h => ?_) (fun cdv A outer s H vs Q E hr h => ⟨_, (pss_one (ps_ret (pe_cmpR (op_eqD hr.units) (pe_lc (own := [("word", 1)]) (g := (gName 1)) (tt := (tOr (tTest (tOp (rI0 fun i j => .bl (decide (i < j))) (tVar 1) (tC (.int 1)))) (tTest (tOp (rI0 fun i j => .bl (decide (j < i))) (tVar 1) (tC (.int 99999)))))) (te := (tVar 1)) rfl sc_are_words.nd (pi_list (pv 0)) (blkOk_by (own := [("word", 1)]) (N := N_are_words) (sc := defScope s_are_words) (by decide +kernel)) (fun _ _ _ _ _ => (pg_name (i := 1) sc_are_words.nd rfl (.inl rfl))) (fun _ _ _ _ _ => (pts_one (PW.pt (pw_or (pt_cmpR op_lt (pv 1) pe_int (nomark _)) (pw_or1 (pt_cmpR op_gt (pv 1) (pe_glob (v := .int 99999) rfl T.kMOST_WORD ⟨_, rfl⟩) (nomark _))))))) (fun _ _ _ _ _ => (pv 1))) (pe_lst pa_nil) (nomark _)))), ?_⟩)
  · obtain ⟨v, ⟨ra, l, rfl, _⟩, _⟩ := h
    rfl
  · obtain ⟨v, ⟨ra, l, rfl, hR, hl, rfl⟩, k⟩ := h
    refine s_ret (ev_is (ev_isNil (el_lcN (fun n => decide (n < 1) || decide (99999 < n)) (ev_var rfl) hR hl (fun _ => rfl) (fun n H1 e => et_out 1 99999 (ev_var rfl) ev_c (ev_var rfl) ev_c) (fun n H1 e => ev_var rfl))) ?_) k
    rw [out_nil]
    rfl
def sp_told (T : Tp K mg) : Sp := spR fun vs H P => ∃ ta ats Q, vs = [.ref ta] ∧ H ta = some (.lst (ats.map V.ref)) ∧ Al2 (WordAt T H) ats Q ∧ Q.length ≤ 40000 ∧ P = fun p H2 => H2 p = some (.lst (nl ((Q : Tx).map fun x => x.1.word)))
theorem filter_yes {α : Type} (l : List α) : l.filter (fun _ => true) = l := by simp
theorem et_yes {σ : L2.St} {H : Hp} : EvT tYes σ H true := fun H1 _ Q q => q H1 (Ex.refl H1)
-- slots: words 0, word 1
theorem ok_told (T : Tp K mg) : FnOk P w K mg base CX0 1 T.told.f T.told.fd P_told (sp_told T) := by
  refine T.told.F.ok sc_told (fun vs H Q E h => ?_) (fun cdv A outer s H vs Q E hr h => ⟨_, (pss_one (ps_ret (pe_lc (own := [("word", 1)]) (g := (gName 1)) (tt := tYes) (te := (tFld K (tVar 1) "value")) rfl sc_told.nd (pi_list (pv 0)) (blkOk_by (own := [("word", 1)]) (N := N_told) (sc := defScope s_told) (by decide +kernel)) (fun _ _ _ _ _ => (pg_name (i := 1) sc_told.nd rfl (.inl rfl))) (fun _ _ _ _ _ => pts_nil) (fun _ _ _ _ _ => (pe_fld (pv 1) rfl))))), ?_⟩)
  · obtain ⟨v, ⟨ta, ats, Q', rfl, _⟩, _⟩ := h
    rfl
  · obtain ⟨P', ⟨ta, ats, Q', rfl, hT, hA, hl, rfl⟩, k⟩ := h
    refine s_retL (el_lcG (fun _ => true) (fun x : Tw => V.int (x.1.word : Int)) (ev_var rfl) hT (al_ref hA) hl (fun _ => rfl) (fun v x H1 e hv => et_yes) (fun v x H1 e hv _ => ?_)) fun p H1 hp e h1 => k p H1 hp e ?_
    · obtain ⟨a, rfl, ha⟩ := hv
      exact ev_fl T.Word 0 (ha.ex e) (ev_var rfl)
    · show H1 p = _
      rw [h1, filter_yes]
      unfold nl
      rw [List.map_map]
      rfl
end
end Pf

end
section
/-! What holds of a state that calls lead to; the calls that put a mark. Plain Lean about the specification alone. -/
set_option Elab.async false
set_option linter.all false
namespace Pf
open Si42
/-- states that calls lead to, the words with the program's own numbers beside -/
structure Sok (s : Si43.St) (P : Tx) (own : Nat) : Prop where
  text : P.map (·.1) = s.text.text
  tx : TxOk P s.text.next own
  len : P.length ≤ 100
  fl : s.text.first.length ≤ 100
  fnext : s.text.first.length ≤ s.text.next
  bynone : ∀ x ∈ P, x.1.by_ = none → x.1.id < s.text.first.length
  bysome : ∀ x ∈ P, ∀ m, x.1.by_ = some m → s.text.first.length ≤ x.1.id ∧ m < s.text.marks.length
  rd : ∀ m ∈ s.text.marks, m.reader < s.text.readers.length
  rl : s.text.readers.length ≤ 8
  ml : s.text.marks.length ≤ 60
  ol : (opens s.text.marks).length ≤ 10
  wf : ∀ x ∈ opens s.text.marks, AskWf P.length x.2
  wd : ∀ x ∈ opens s.text.marks, (akW x.2).length ≤ 20
  setl : ∀ w, s.setting = some w → w.length ≤ 120 ∧ wordsOk w = true
  gnd : (s.text.gone.map (·.1)).Nodup
  gdis : ∀ x ∈ s.text.gone, x.1 < s.text.next ∧ ∀ y ∈ P, y.1.id ≠ x.1
  gmk : ∀ x ∈ s.text.gone, x.2 < s.text.marks.length
theorem sok_init : Sok Si43.init [] 0 := by
  refine ⟨rfl, ⟨List.Pairwise.nil, by simp⟩, by simp, by decide, by decide, by simp, by simp, by simp [Si43.init, init], by decide, by decide, by decide, by simp [Si43.init, init, opens_nil], by simp [Si43.init, init, opens_nil], by simp [Si43.init], by simp [Si43.init, init], by simp [Si43.init, init], by simp [Si43.init, init]⟩
/-- no more than 100 words of the first text are gone -/
theorem nodup_lt : ∀ (n : Nat) (l : List Nat), l.Nodup → (∀ x ∈ l, x < n) → l.length ≤ n
  | 0, l, _, h => by
    cases l with
    | nil => simp
    | cons a l => exact absurd (h a (by simp)) (by omega)
  | n + 1, l, nd, h => by
    have ih := nodup_lt n (l.filter (fun x => decide (x ≠ n))) (nd.filter _) (fun x hx => by
      rw [List.mem_filter] at hx
      have := h x hx.1
      have h2 : x ≠ n := by simpa using hx.2
      omega)
    have : l.length ≤ (l.filter (fun x => decide (x ≠ n))).length + 1 := by
      clear ih h
      induction l with
      | nil => simp
      | cons a l ih =>
        rw [List.nodup_cons] at nd
        by_cases c : a = n
        · subst c
          have : (l.filter fun x => !decide (x = a)) = l := by
            rw [List.filter_eq_self]
            intro x hx
            have : x ≠ a := fun e => nd.1 (e ▸ hx)
            simpa using this
          simp [List.filter_cons, this]
        · have := ih nd.2
          simp [List.filter_cons, c] at this ⊢
          omega
    omega
def goneF (s : Si43.St) : List (Nat × Nat) := s.text.gone.filter fun x => decide (x.1 < s.text.first.length)
theorem Sok.gl {s : Si43.St} {P : Tx} {own : Nat} (h : Sok s P own) : (goneF s).length ≤ 100 := by
  have h1 : ((goneF s).map (·.1)).Nodup := by
    unfold goneF
    have := h.gnd
    exact (List.Sublist.map _ (List.filter_sublist)).nodup this
  have h2 := nodup_lt s.text.first.length _ h1 (fun x hx => by
    obtain ⟨y, hy, rfl⟩ := List.mem_map.mp hx
    unfold goneF at hy
    rw [List.mem_filter] at hy
    simpa using hy.2)
  rw [List.length_map] at h2
  exact Nat.le_trans h2 h.fl
/-! ### a mark more -/
def addM (s : Si43.St) (r : Nat) (q : Ask) : Si43.St := { s with text := { s.text with marks := s.text.marks ++ [⟨r, .open_ q⟩] } }
def fits (s : Si43.St) : Prop := (opens s.text.marks).length < 10 ∧ s.text.marks.length < 60
def markedS (s : Si43.St) (r : Nat) (q : Ask) : Si43.St × Si43.Ans := if s.text.readers.length ≤ r then (s, Si43.ok (-2)) else if askOk s.text q = false then (s, Si43.ok (-1)) else if 10 ≤ (opens s.text.marks).length ∨ 60 ≤ s.text.marks.length then (s, Si43.ok (-5)) else (addM s r q, Si43.ok (s.text.marks.length : Int))
theorem pass_marked (s : Si43.St) (r : Nat) (q : Ask) : (if (marked s.text r q).2.v < 0 then s else { s with text := (marked s.text r q).1 }, (⟨(marked s.text r q).2.v, (marked s.text r q).2.l⟩ : Si43.Ans)) = markedS s r q := by
  unfold marked markedS
  by_cases h1 : s.text.readers.length ≤ r
  · rw [if_pos h1, if_pos h1]; rfl
  · rw [if_neg h1, if_neg h1]
    by_cases h2 : askOk s.text q = false
    · rw [if_pos h2, if_pos h2]; rfl
    · rw [if_neg h2, if_neg h2]
      by_cases h3 : 10 ≤ (opens s.text.marks).length ∨ 60 ≤ s.text.marks.length
      · rw [if_pos h3]
        have h3' : OPEN ≤ (opens s.text.marks).length ∨ MARKS ≤ s.text.marks.length := h3
        rw [if_pos h3']; rfl
      · rw [if_neg h3]
        have h3' : ¬ (OPEN ≤ (opens s.text.marks).length ∨ MARKS ≤ s.text.marks.length) := h3
        rw [if_neg h3']
        have : ¬ (ok (s.text.marks.length : Int)).v < 0 := by show ¬ ((s.text.marks.length : Int) < 0); omega
        rw [if_neg this]
        rfl
theorem step_change (s : Si43.St) (r i j : Nat) (w : List Nat) : Si43.step s (.proof (.change r i j w)) = markedS s r (.change i j w) := pass_marked s r (.change i j w)
theorem step_keep (s : Si43.St) (r i j : Nat) : Si43.step s (.proof (.keep r i j)) = markedS s r (.keep i j) := pass_marked s r (.keep i j)
theorem step_move (s : Si43.St) (r i j k : Nat) : Si43.step s (.proof (.move r i j k)) = markedS s r (.move i j k) := pass_marked s r (.move i j k)
theorem sok_mark {s : Si43.St} {P : Tx} {own r : Nat} {q : Ask} (h : Sok s P own) (hr : r < s.text.readers.length) (hw : AskWf P.length q) (hd : (akW q).length ≤ 20) (hf : fits s) : Sok (addM s r q) P own := by
  have ho : opens (s.text.marks ++ [⟨r, .open_ q⟩]) = opens s.text.marks ++ [(s.text.marks.length, q)] := by rw [opens_snoc]; rfl
  refine ⟨h.text, h.tx, h.len, h.fl, h.fnext, h.bynone, fun x hx m hm => ⟨(h.bysome x hx m hm).1, ?_⟩, fun m hm => ?_, h.rl, ?_, ?_, fun x hx => ?_, fun x hx => ?_, h.setl, h.gnd, h.gdis, fun x hx => ?_⟩
  · have := (h.bysome x hx m hm).2
    show m < (s.text.marks ++ [_]).length
    rw [List.length_append]
    simp
    omega
  · rcases List.mem_append.mp (show m ∈ s.text.marks ++ [_] from hm) with hm | hm
    · exact h.rd m hm
    · have : m = ⟨r, .open_ q⟩ := by simpa using hm
      rw [this]
      exact hr
  · show (s.text.marks ++ [_]).length ≤ 60
    rw [List.length_append]
    have := hf.2
    simp
    omega
  · show (opens (s.text.marks ++ [⟨r, .open_ q⟩])).length ≤ 10
    rw [ho, List.length_append]
    have := hf.1
    simp
    omega
  · have hx' : x ∈ opens (s.text.marks ++ [⟨r, .open_ q⟩]) := hx
    rw [ho] at hx'
    rcases List.mem_append.mp hx' with hx' | hx'
    · exact h.wf x hx'
    · have : x = (s.text.marks.length, q) := by simpa using hx'
      rw [this]
      exact hw
  · have hx' : x ∈ opens (s.text.marks ++ [⟨r, .open_ q⟩]) := hx
    rw [ho] at hx'
    rcases List.mem_append.mp hx' with hx' | hx'
    · exact h.wd x hx'
    · have : x = (s.text.marks.length, q) := by simpa using hx'
      rw [this]
      exact hd
  · have := h.gmk x hx
    show x.2 < (s.text.marks ++ [_]).length
    rw [List.length_append]
    omega
theorem ask_wf {s : Si43.St} {P : Tx} {own : Nat} {q : Ask} (h : Sok s P own) (hq : askOk s.text q = true) : AskWf P.length q ∧ (akW q).length ≤ 20 := by
  have hl : s.text.text.length = P.length := by rw [← h.text, List.length_map]
  cases q with
  | change i j w =>
    simp only [askOk, Bool.and_eq_true, decide_eq_true_eq, hl] at hq
    exact ⟨⟨hq.1, hq.2.1⟩, hq.2.2.2.1⟩
  | keep i j =>
    simp only [askOk, Bool.and_eq_true, decide_eq_true_eq, hl] at hq
    exact ⟨⟨hq.1, hq.2⟩, by simp [akW]⟩
  | move i j k =>
    simp only [askOk, Bool.and_eq_true, decide_eq_true_eq, hl] at hq
    exact ⟨⟨hq.1, hq.2.1, hq.2.2.1⟩, by simp [akW]⟩
end Pf

end
section
set_option Elab.async false
set_option linter.all false
set_option maxRecDepth 100000
set_option maxHeartbeats 4000000
/-! The holder in the heap; what a deed promises. -/
namespace Pf
open PySem PySem.Spec PyProof.Rows L2 Evl
abbrev flHolder : List Str := ["first", "text", "proof", "weights", "marks", "taken", "setting", "costs", "own"]
/-- a holder's addresses, and what the program keeps beside the state -/
structure HX where
  fa : Addr
  ta : Addr
  wa : Addr
  ma : Addr
  ga : Addr
  ca : Addr
  sa : Option Addr
  as : List Addr
  ats : List Addr
  gs : List Addr
  zs : List Addr
  P : Tx
  own : Nat
  G : List (Tw × Nat)
/-- what may be changed -/
def HX.F (X : HX) (h : Addr) : List Addr := h :: X.wa :: X.ma :: (X.as ++ X.zs)
/-- what others hold stands -/
def Zk (X : HX) (H H' : Hp) : Prop := ∀ b ∈ X.zs, ∀ o, H b = some o → H' b = some o
def svV : Option Addr → V
  | none => .non
  | some a => .ref a
def SetAt (H : Hp) (o : Option (List Nat)) (sa : Option Addr) : Prop := match o, sa with
  | none, none => True
  | some w, some a => H a = some (.lst (nl w))
  | _, _ => False
theorem SetAt.ex {H H' : Hp} {o : Option (List Nat)} {sa : Option Addr} (h : SetAt H o sa) (e : Ex H H') : SetAt H' o sa := by
  cases o <;> cases sa <;> first | exact h | exact e _ _ h
section
variable {K : PySem.W.Frag} {mg : Str → Option Value}
structure HolderAt (T : Tp K mg) (H : Hp) (h : Addr) (s : Si43.St) (X : HX) : Prop where
  nd : (X.F h).Nodup
  hol : InsAt H h T.Holder.C flHolder [.ref X.fa, .ref X.ta, .int (s.text.proof : Int), .ref X.wa, .ref X.ma, .ref X.ga, svV X.sa, .ref X.ca, .int (X.own : Int)]
  first : Off (X.F h) H X.fa = some (.lst (nl s.text.first))
  text : Off (X.F h) H X.ta = some (.lst (X.ats.map V.ref))
  words : Al2 (WordAt T (Off (X.F h) H)) X.ats X.P
  wts : H X.wa = some (.lst (nl s.text.readers))
  mks : MarksAt T H (Off (X.F h) H) X.ma X.as s.text.marks
  gon : Off (X.F h) H X.ga = some (.lst (X.gs.map V.ref))
  gons : Al2 (TkAt T (Off (X.F h) H)) X.gs X.G
  set : SetAt (Off (X.F h) H) s.setting X.sa
  cost : CostAt T (Off (X.F h) H) X.ca s.costs
  eqG : X.G.map (fun x => (x.1.1.id, x.2)) = goneF s
  byG : ∀ x ∈ X.G, x.1.1.by_ = none
  zsm : ∀ b ∈ X.zs, ∃ l, H b = some (.lst l)
variable {T : Tp K mg} {H H' : Hp} {h : Addr} {s : Si43.St} {X : HX}
theorem HolderAt.ex (a : HolderAt T H h s X) (e : Ex H H') : HolderAt T H' h s X :=
  ⟨a.nd, a.hol.ex e, off_ex e _ _ a.first, off_ex e _ _ a.text, a.words.mono fun _ _ k => k.ex (off_ex e), e _ _ a.wts, a.mks.ex e (off_ex e), off_ex e _ _ a.gon, a.gons.mono fun _ _ k => k.ex (off_ex e), a.set.ex (off_ex e), a.cost.ex (off_ex e), a.eqG, a.byG, fun b hb => (a.zsm b hb).imp fun o ho => e _ _ ho⟩
theorem HolderAt.mksH (a : HolderAt T H h s X) : MarksAt T H H X.ma X.as s.text.marks := a.mks.ex (Ex.refl H) (off_le _ _)
theorem HolderAt.firstH (a : HolderAt T H h s X) : H X.fa = some (.lst (nl s.text.first)) := off_le _ _ _ _ a.first
theorem HolderAt.textH (a : HolderAt T H h s X) : H X.ta = some (.lst (X.ats.map V.ref)) := off_le _ _ _ _ a.text
theorem HolderAt.wordsH (a : HolderAt T H h s X) : Al2 (WordAt T H) X.ats X.P := a.words.mono fun _ _ k => k.ex (off_le _ _)
theorem HolderAt.gonH (a : HolderAt T H h s X) : H X.ga = some (.lst (X.gs.map V.ref)) := off_le _ _ _ _ a.gon
theorem HolderAt.gonsH (a : HolderAt T H h s X) : Al2 (TkAt T H) X.gs X.G := a.gons.mono fun _ _ k => k.ex (off_le _ _)
theorem HolderAt.costH (a : HolderAt T H h s X) : CostAt T H X.ca s.costs := a.cost.ex (off_le _ _)
theorem HolderAt.setH (a : HolderAt T H h s X) : SetAt H s.setting X.sa := a.set.ex (off_le _ _)
/-- what a deed answers: the spec's, or the refusal -/
def DeedGo (T : Tp K mg) (H : Hp) (h : Addr) (X : HX) (r : Si43.St × Si43.Ans) (Q : VK) (E : XK) : Prop :=
  (0 ≤ r.2.v → ∀ H' p X', Ex (Off (X.F h) H) (Off (X.F h) H') → (∀ a ∈ X'.F h, a ∈ X.F h ∨ H a = none) → X'.zs = X.zs → Zk X H H' → HolderAt T H' h r.1 X' → Sok r.1 X'.P X'.own → p ∉ X.zs → H' p = some (.lst ((r.2.v :: r.2.l).map V.int)) → Q (.ref p) H') ∧
  (r.2.v < 0 → Ref T H r.2.v E)
def spD (T : Tp K mg) (call : List Nat → List Nat → Option Si43.Call) : Sp := fun vs H Q E => ∃ h na ra ns row s X c, vs = [.ref h, .ref na, .ref ra] ∧ HolderAt T H h s X ∧ Sok s X.P X.own ∧ Off (X.F h) H na = some (.lst (nl ns)) ∧ Off (X.F h) H ra = some (.lst (nl row)) ∧ row.length ≤ 200 ∧
  call ns row = some c ∧ DeedGo T H h X (Si43.step s c) Q E
theorem DeedGo.of {r : Si43.St × Si43.Ans} {Q : VK} {E : XK} (g : DeedGo T H h X r Q E) {s' : Si43.St} {v : Int} {l : List Int} (e : r = (s', ⟨v, l⟩)) (hv : 0 ≤ v) : ∀ H' p X', Ex (Off (X.F h) H) (Off (X.F h) H') → (∀ a ∈ X'.F h, a ∈ X.F h ∨ H a = none) → X'.zs = X.zs → Zk X H H' → HolderAt T H' h s' X' → Sok s' X'.P X'.own → p ∉ X.zs → H' p = some (.lst ((v :: l).map V.int)) → Q (.ref p) H' := by
  subst e
  exact g.1 hv
/-- a deed that changes nothing -/
theorem DeedGo.same {r : Si43.St × Si43.Ans} {Q : VK} {E : XK} (g : DeedGo T H h X r Q E) (a : HolderAt T H h s X) (o : Sok s X.P X.own) {v : Int} {l : List Int} (e : r = (s, ⟨v, l⟩)) (hv : 0 ≤ v) : ∀ H' p, H p = none → Ex H H' → H' p = some (.lst ((v :: l).map V.int)) → Q (.ref p) H' := fun H' p hn ex hp =>
  g.of e hv H' p X (off_ex ex) (fun a ha => Or.inl ha) rfl (fun b _ o ho => ex _ _ ho) (a.ex ex) o (fun z => by
    obtain ⟨l, hl⟩ := a.zsm p z
    rw [hn] at hl
    cases hl) hp
theorem DeedGo.no {r : Si43.St × Si43.Ans} {Q : VK} {E : XK} (g : DeedGo T H h X r Q E) {s' : Si43.St} {v : Int} {l : List Int} (e : r = (s', ⟨v, l⟩)) (hv : v < 0) : Ref T H v E := by
  subst e
  exact g.2 hv
theorem Zk.nz {Hn : Hp} {p : Addr} (zk : Zk X H Hn) (a : ∀ b ∈ X.zs, ∃ l, H b = some (.lst l)) (n : Hn p = none) : p ∉ X.zs := fun z => by
  obtain ⟨l, hl⟩ := a p z
  have := zk p z _ hl
  rw [n] at this
  cases this
/-! ### stores, all but one address kept -/
theorem Keep.trans {p : Addr} {H H1 H2 : Hp} (a : Keep p H H1) (b : Keep p H1 H2) : Keep p H H2 := fun x o hx hp => b x o (a x o hx hp) hp
theorem Keep.ex1 {p : Addr} {H H1 H2 : Hp} (a : Ex H H1) (b : Keep p H1 H2) : Keep p H H2 := fun x o hx hp => b x o (a x o hx) hp
theorem Keep.ex2 {p : Addr} {H H1 H2 : Hp} (a : Keep p H H1) (b : Ex H1 H2) : Keep p H H2 := fun x o hx hp => b x o (a x o hx hp)
theorem Keep.none {p a : Addr} {H H1 : Hp} (k : Keep p H H1) (h : H1 a = none) (hp : a ≠ p) : H a = none := by
  cases q : H a with
  | none => rfl
  | some o => rw [k _ _ q hp] at h; cases h
theorem Keep.off {p : Addr} {F : List Addr} {H H1 : Hp} (k : Keep p H H1) (hp : p ∈ F) : Ex (Off F H) (Off F H1) := fun b o hb => by
  obtain ⟨c, hb⟩ := off_some hb
  rw [off_out c]
  exact k b o hb fun z => c (by rw [z]; exact hp)
theorem Keep.off1 {p : Addr} {H H1 : Hp} (k : Keep p H H1) : Ex (Off [p] H) (Off [p] H1) := k.off (by simp)
theorem off_keep {p : Addr} {H H1 : Hp} (e : Ex (Off [p] H) (Off [p] H1)) : Keep p H H1 := fun b o hb hp => (off_some (e b o (by rw [off_out (by simp [hp])]; exact hb))).2
end
section
variable {K : PySem.W.Frag} {mg : Str → Option Value} {σ : L2.St} {H : Hp} {te ta : TE} {D : Ends} {tz : TS} {Pv : V → Hp → Prop} {q xq : Str} {st : Stmt} {ps fl : List Str} {a dx : Addr} {vs : List V} {f : Str}
theorem s_flK (c : ClAt K mg xq q st ps fl) (i : Nat) (ho : InsAt H a c.C fl vs) (ha : ∀ H1, Ex H H1 → Ev ta σ H1 (.ref a)) (hy : EvP te σ H Pv) (k : ∀ y H1 G, Ex H H1 → Pv y H1 → Keep a H1 G → InsAt G a c.C fl (vs.set i y) → D.nx σ G)
    (hf : fl[i]? = some f := by rfl) (nd : fl.Nodup := by decide +kernel) (hz : fl.length < 1000 := by decide) : sFld K ta te f D σ H :=
  s_flP c i ho ha hy (fun y H1 H2 dx e1 py e2 _ hi => k y H1 _ e1 py (Keep.step Keep.refl e2) hi) hf nd hz
theorem q_flK (c : ClAt K mg xq q st ps fl) (i : Nat) (ho : InsAt H a c.C fl vs) (ha : ∀ H1, Ex H H1 → Ev ta σ H1 (.ref a)) (hy : EvP te σ H Pv) (k : ∀ y H1 G, Ex H H1 → Pv y H1 → Keep a H1 G → InsAt G a c.C fl (vs.set i y) → tz D σ G)
    (hf : fl[i]? = some f := by rfl) (nd : fl.Nodup := by decide +kernel) (hz : fl.length < 1000 := by decide) : tSeq (sFld K ta te f) tz D σ H := s_flK (D := { D with nx := tz D }) c i ho ha hy k hf nd hz
theorem q_newK (n : Nat) (c : ClAt K mg xq q st ps fl) (ho : H a = some (.ins c.C dx ((fl.take n).zip vs))) (ha : ∀ H1, Ex H H1 → Ev ta σ H1 (.ref a)) (hy : EvP te σ H Pv)
    (k : ∀ y H1 G, Ex H H1 → Pv y H1 → Keep a H1 G → G a = some (.ins c.C dx ((fl.take (n + 1)).zip (vs ++ [y]))) → tz D σ G) (hn : vs.length = n := by rfl) (hf : fl[n]? = some f := by rfl) (nd : fl.Nodup := by decide +kernel) (hz : n < 1000 := by decide) : tSeq (sFld K ta te f) tz D σ H :=
  q_new n c ho ha hy (fun y H1 H2 e1 py e2 => k y H1 _ e1 py (Keep.step Keep.refl e2) upd_same) hn hf nd hz
theorem s_newK (n : Nat) (c : ClAt K mg xq q st ps fl) (ho : H a = some (.ins c.C dx ((fl.take n).zip vs))) (ha : ∀ H1, Ex H H1 → Ev ta σ H1 (.ref a)) (hy : EvP te σ H Pv)
    (k : ∀ y H1 G, Ex H H1 → Pv y H1 → Keep a H1 G → G a = some (.ins c.C dx ((fl.take (n + 1)).zip (vs ++ [y]))) → D.nx σ G) (hn : vs.length = n := by rfl) (hf : fl[n]? = some f := by rfl) (nd : fl.Nodup := by decide +kernel) (hz : n < 1000 := by decide) : sFld K ta te f D σ H :=
  s_new n c ho ha hy (fun y H1 H2 e1 py e2 => k y H1 _ e1 py (Keep.step Keep.refl e2) upd_same) hn hf nd hz
/-- a new empty row -/
theorem ep_nil : EvP (tLst tNil) σ H (fun v H2 => ∃ p, v = .ref p ∧ H p = none ∧ H2 p = some (.lst [])) := EvR.toP (evl_r (el_lst ea_nil (by decide)))
end
end Pf

end
section
set_option Elab.async false
set_option linter.all false
set_option maxRecDepth 100000
set_option maxHeartbeats 4000000
/-! The holder made; another text; a reader. -/
namespace Pf
open PySem PySem.Spec PyProof.Rows L2 Evl
section
variable {P : Program} {w : World} {K : PySem.W.Frag} {mg : Str → Option Value} {base : Heap}
theorem ne_some {H : Hp} {a b : Addr} {o : HO} (h : H a = none) (k : H b = some o) : a ≠ b := fun z => by rw [z, k] at h; cases h
def sp_Holder_init (T : Tp K mg) : Sp := fun vs H Q _ => ∃ p dx, vs = [.ref p] ∧ H p = some (.ins T.Holder.C dx []) ∧ ∀ H' X, Keep p H H' → HolderAt T H' p Si43.init X → X.zs = [] → X.P = [] → X.own = 0 → (∀ a ∈ X.F p, a = p ∨ H a = none) → Q .non H'
-- slots: self 0
theorem ok_Holder_init (T : Tp K mg) : FnOk P w K mg base CX0 3 T.Holder.fI T.Holder.fdI P_Holder_init (sp_Holder_init T) := by
  refine T.Holder.F.ok sc_Holder_init (fun vs H Q E h => ?_) (fun cdv A outer s H vs Q E hr h => ⟨_, (pss_cons (ps_fld (pv 0) (pe_lst pa_nil) rfl)
    (pss_cons (ps_fld (pv 0) (pe_lst pa_nil) rfl)
    (pss_cons (ps_fld (pv 0) pe_int rfl)
    (pss_cons (ps_fld (pv 0) (pe_lst pa_nil) rfl)
    (pss_cons (ps_fld (pv 0) (pe_lst pa_nil) rfl)
    (pss_cons (ps_fld (pv 0) (pe_lst pa_nil) rfl)
    (pss_cons (ps_fld (pv 0) pe_non rfl)
    (pss_cons (ps_fld (pv 0) (pe_make T.Costs.mkd (ok_Costs_init T) (hr.mono (by decide)) rfl T.Costs.g T.Costs.b .nil pass0 (pa_cons pe_int (pa_cons pe_int (pa_cons pe_int pa_nil)))) rfl)
    (pss_one (ps_fld (pv 0) pe_int rfl)))))))))), ?_⟩)
  · obtain ⟨p, dx, rfl, _⟩ := h
    rfl
  · obtain ⟨p, dx, rfl, hp, k⟩ := h
    refine q_newK 0 T.Holder (vs := []) hp (fun H1 e => ev_var rfl) ep_nil fun y H1 G1 e1 hy k1 g1 => ?_
    obtain ⟨fa, rfl, n1, h1⟩ := hy
    have d1 := ne_some n1 hp
    have v1 := k1 _ _ h1 d1
    refine q_newK 1 T.Holder g1 (fun H1 e => ev_var rfl) ep_nil fun y H2 G2 e2 hy k2 g2 => ?_
    obtain ⟨ta, rfl, n2, h2⟩ := hy
    have d2 := ne_some n2 g1
    have v2 := k2 _ _ h2 d2
    have c2 := Keep.ex1 e2 k2
    refine q_newK 2 T.Holder g2 (fun H1 e => ev_var rfl) (ev_p ev_c) fun y H3 G3 e3 hy k3 g3 => ?_
    subst hy
    have c3 := Keep.ex1 e3 k3
    refine q_newK 3 T.Holder g3 (fun H1 e => ev_var rfl) ep_nil fun y H4 G4 e4 hy k4 g4 => ?_
    obtain ⟨wa, rfl, n4, h4⟩ := hy
    have d4 := ne_some n4 g3
    have v4 := k4 _ _ h4 d4
    have c4 := Keep.ex1 e4 k4
    refine q_newK 4 T.Holder g4 (fun H1 e => ev_var rfl) ep_nil fun y H5 G5 e5 hy k5 g5 => ?_
    obtain ⟨ma, rfl, n5, h5⟩ := hy
    have d5 := ne_some n5 g4
    have v5 := k5 _ _ h5 d5
    have c5 := Keep.ex1 e5 k5
    refine q_newK 5 T.Holder g5 (fun H1 e => ev_var rfl) ep_nil fun y H6 G6 e6 hy k6 g6 => ?_
    obtain ⟨ga, rfl, n6, h6⟩ := hy
    have d6 := ne_some n6 g5
    have v6 := k6 _ _ h6 d6
    have c6 := Keep.ex1 e6 k6
    refine q_newK 6 T.Holder g6 (fun H1 e => ev_var rfl) (ev_p ev_c) fun y H7 G7 e7 hy k7 g7 => ?_
    subst hy
    have c7 := Keep.ex1 e7 k7
    refine q_newK 7 T.Holder g7 (fun H1 e => ev_var rfl) (EvR.toP (er_makeA (ea_cons ev_c (ea_cons ev_c (ea_cons ev_c ea_nil))) rfl)) fun y H8 G8 e8 hy k8 g8 => ?_
    obtain ⟨ca, rfl, n8, h8⟩ := hy
    have d8 := ne_some n8 g7
    have c8 := Keep.ex1 e8 k8
    refine s_newK 8 T.Holder g8 (fun H1 e => ev_var rfl) (ev_p ev_c) fun y H9 G9 e9 hy k9 g9 => ?_
    subst hy
    have c9 := Keep.ex1 e9 k9
    have c89 := c8.trans c9
    have c79 := c7.trans c89
    have c69 := c6.trans c79
    have c59 := c5.trans c69
    have c49 := c4.trans c59
    have c39 := c3.trans c49
    have c29 := c2.trans c39
    have c19 := (Keep.ex1 e1 k1).trans c29
    have w1 : G3 fa = _ := c3 _ _ (c2 _ _ v1 d1) d1
    have w2 : G3 ta = _ := c3 _ _ v2 d2
    have f1 := ne_some n4 w1
    have f2 := ne_some n4 w2
    have f3 := ne_some n5 (c4 _ _ w1 d1)
    have f4 := ne_some n5 (c4 _ _ w2 d2)
    have f5 := ne_some n5 v4
    have f6 := ne_some n6 (c5 _ _ v4 d4)
    have f7 := ne_some n6 v5
    have f8 := ne_some n8 (c7 _ _ (c6 _ _ (c5 _ _ v4 d4) d4) d4)
    have f9 := ne_some n8 (c7 _ _ (c6 _ _ v5 d5) d5)
    have nH : ∀ a, a ≠ p → G3 a = none → H a = none := fun a hne h => ((Keep.ex1 e1 k1).trans (c2.trans c3)).none h hne
    refine k G9 ⟨fa, ta, wa, ma, ga, ca, none, [], [], [], [], [], 0, []⟩ c19 ?_ rfl rfl rfl ?_
    · have hoff : ∀ {b : Addr} {o : HO}, G9 b = some o → b ≠ p → b ≠ wa → b ≠ ma → Off [p, wa, ma] G9 b = some o := fun h x y z => by rw [off_out (by simp [x, y, z])]; exact h
      refine ⟨?_, ⟨rfl, dx, g9⟩, hoff (c29 _ _ v1 d1) d1 f1.symm f3.symm, hoff (c39 _ _ v2 d2) d2 f2.symm f4.symm, Al2.nil, c59 _ _ v4 d4, ⟨c69 _ _ v5 d5, Al2.nil⟩, hoff (c79 _ _ v6 d6) d6 f6 f7, Al2.nil, trivial, ?_, rfl, by simp, by simp⟩
      · show [p, wa, ma].Nodup
        simp [d4.symm, d5.symm, f5.symm]
      · have ic : InsAt G9 ca T.Costs.C flCosts [.int 2, .int 2, .int 2] := by
          have := h8
          obtain ⟨hl, dxc, hh⟩ := this
          exact ⟨hl, dxc, c9 _ _ (k8 _ _ hh d8) d8⟩
        exact ic.offN (F := [p, wa, ma]) (by simp [d8, f8, f9])
    · intro a ha
      have ha' : a ∈ [p, wa, ma] := ha
      simp at ha'
      rcases ha' with rfl | rfl | rfl
      · exact Or.inl rfl
      · exact Or.inr (nH a d4 n4)
      · exact Or.inr (nH a d5 (c4.none n5 d5))
end
end Pf

end
section
/-! Another text, a reader, a mark withdrawn, costs, a setting: the plain laws. -/
set_option Elab.async false
set_option linter.all false
namespace Pf
open Si42
theorem proof_no {s : Si43.St} {c : Si42.Call} {t : Si42.St} {v : Int} {l : List Int} (e : Si42.step s.text c = (t, ⟨v, l⟩)) (hv : v < 0) : Si43.step s (.proof c) = (s, ⟨v, l⟩) := by
  show (if (Si42.step s.text c).2.v < 0 then s else _, (⟨(Si42.step s.text c).2.v, (Si42.step s.text c).2.l⟩ : Si43.Ans)) = _
  have h1 : (Si42.step s.text c).2.v = v := by rw [e]
  have h2 : (Si42.step s.text c).2.l = l := by rw [e]
  rw [if_pos (by rw [h1]; exact hv), h1, h2]
theorem proof_yes {s : Si43.St} {c : Si42.Call} {t : Si42.St} {v : Int} {l : List Int} (hc : ∀ w, c ≠ .begins w) (e : Si42.step s.text c = (t, ⟨v, l⟩)) (hv : 0 ≤ v) : Si43.step s (.proof c) = ({ s with text := t }, ⟨v, l⟩) := by
  have h1 : (Si42.step s.text c).2.v = v := by rw [e]
  have h2 : (Si42.step s.text c).2.l = l := by rw [e]
  have h3 : (Si42.step s.text c).1 = t := by rw [e]
  cases c with
  | begins w => exact absurd rfl (hc w)
  | _ =>
    show (if (Si42.step s.text _).2.v < 0 then s else { s with text := (Si42.step s.text _).1, setting := s.setting }, (⟨(Si42.step s.text _).2.v, (Si42.step s.text _).2.l⟩ : Si43.Ans)) = _
    rw [if_neg (by rw [h1]; omega), h1, h2, h3]
theorem proof_beg {s : Si43.St} {w : List Nat} {t : Si42.St} {v : Int} {l : List Int} (e : Si42.step s.text (.begins w) = (t, ⟨v, l⟩)) (hv : 0 ≤ v) : Si43.step s (.proof (.begins w)) = ({ s with text := t, setting := none }, ⟨v, l⟩) := by
  have h1 : (Si42.step s.text (.begins w)).2.v = v := by rw [e]
  have h2 : (Si42.step s.text (.begins w)).2.l = l := by rw [e]
  have h3 : (Si42.step s.text (.begins w)).1 = t := by rw [e]
  show (if (Si42.step s.text (.begins w)).2.v < 0 then s else { s with text := (Si42.step s.text (.begins w)).1, setting := none }, (⟨(Si42.step s.text (.begins w)).2.v, (Si42.step s.text (.begins w)).2.l⟩ : Si43.Ans)) = _
  rw [if_neg (by rw [h1]; omega), h1, h2, h3]
def newP (row : List Nat) : Tx := row.zipIdx.map fun x => (⟨x.2, x.1, none⟩, x.2)
theorem newP_at (row : List Nat) (i : Nat) : (newP row)[i]? = (row[i]?).map fun v => (⟨i, v, none⟩, i) := by
  unfold newP
  rw [List.getElem?_map, List.getElem?_zipIdx]
  cases row[i]? with
  | none => rfl
  | some v => simp
theorem newP_len (row : List Nat) : (newP row).length = row.length := by simp [newP]
theorem newP_mem {row : List Nat} {x : Tw} (h : x ∈ newP row) : ∃ (i v : Nat), row[i]? = some v ∧ x = (⟨i, v, none⟩, i) := by
  obtain ⟨i, hi⟩ := List.mem_iff_getElem?.mp h
  rw [newP_at] at hi
  cases hv : row[i]? with
  | none => rw [hv] at hi; cases hi
  | some v =>
    rw [hv] at hi
    exact ⟨i, v, hv, (Option.some.inj hi).symm⟩
def bgn (s : Si43.St) (row : List Nat) : Si43.St := { s with text := ⟨[], 0, row.zipIdx.map fun x => ⟨x.2, x.1, none⟩, row.length, row, [], []⟩, setting := none }
theorem step_begins (s : Si43.St) (row : List Nat) : Si43.step s (.proof (.begins row)) = if (wordsOk row && decide (row.length ≤ 100)) = false then (s, Si43.ok (-1)) else (bgn s row, Si43.ok (row.length : Int)) := by
  by_cases h : (wordsOk row && decide (row.length ≤ 100)) = false
  · rw [if_pos h]
    exact proof_no (by simp only [Si42.step]; exact if_pos (show (wordsOk row && decide (row.length ≤ WORDS)) = false from h)) (by decide)
  · rw [if_neg h]
    exact proof_beg (by simp only [Si42.step]; exact if_neg (show ¬ (wordsOk row && decide (row.length ≤ WORDS)) = false from h)) (by omega)
theorem sok_begins {s : Si43.St} {row : List Nat} (hl : row.length ≤ 100) : Sok (bgn s row) (newP row) row.length := by
  refine ⟨?_, ⟨?_, fun x hx => ?_⟩, by rw [newP_len]; exact hl, hl, Nat.le_refl _, fun x hx _ => ?_, fun x hx m hm => ?_, by simp [bgn], by simp [bgn], by simp [bgn], by simp [bgn, opens_nil], by simp [bgn, opens_nil], by simp [bgn, opens_nil], by simp [bgn], by simp [bgn], by simp [bgn], by simp [bgn]⟩
  · show (newP row).map (·.1) = row.zipIdx.map _
    unfold newP
    rw [List.map_map]
    rfl
  · rw [List.pairwise_iff_getElem]
    intro i j hi hj hij
    have h1 := newP_at row i
    have h2 := newP_at row j
    rw [List.getElem?_eq_getElem hi] at h1
    rw [List.getElem?_eq_getElem hj] at h2
    cases r1 : row[i]? with
    | none => rw [r1] at h1; cases h1
    | some v1 =>
      cases r2 : row[j]? with
      | none => rw [r2] at h2; cases h2
      | some v2 =>
        rw [r1] at h1
        rw [r2] at h2
        rw [Option.some.inj h1, Option.some.inj h2]
        exact ⟨by show i ≠ j; omega, by show i ≠ j; omega⟩
  · obtain ⟨i, v, hv, rfl⟩ := newP_mem hx
    have := (List.getElem?_eq_some_iff.mp hv).1
    exact ⟨this, this⟩
  · obtain ⟨i, v, hv, rfl⟩ := newP_mem hx
    exact (List.getElem?_eq_some_iff.mp hv).1
  · obtain ⟨i, v, hv, rfl⟩ := newP_mem hx
    cases hm
def rdr (s : Si43.St) (n : Nat) : Si43.St := { s with text := { s.text with readers := s.text.readers ++ [n] } }
theorem step_reader (s : Si43.St) (n : Nat) : Si43.step s (.proof (.reader n)) = if n < 1 ∨ 1000 < n then (s, Si43.ok (-1)) else if 8 ≤ s.text.readers.length then (s, Si43.ok (-5)) else (rdr s n, Si43.ok (s.text.readers.length : Int)) := by
  by_cases h : n < 1 ∨ 1000 < n
  · rw [if_pos h]
    exact proof_no (by simp only [Si42.step]; exact if_pos h) (by decide)
  · rw [if_neg h]
    by_cases h2 : 8 ≤ s.text.readers.length
    · rw [if_pos h2]
      exact proof_no (by simp only [Si42.step]; rw [if_neg h]; exact if_pos (show READERS ≤ s.text.readers.length from h2)) (by decide)
    · rw [if_neg h2]
      exact proof_yes (by simp) (by simp only [Si42.step]; rw [if_neg h]; exact if_neg (show ¬ READERS ≤ s.text.readers.length from h2)) (by omega)
theorem sok_reader {s : Si43.St} {P : Tx} {own n : Nat} (h : Sok s P own) (hl : s.text.readers.length < 8) : Sok (rdr s n) P own := by
  refine ⟨h.text, h.tx, h.len, h.fl, h.fnext, h.bynone, h.bysome, fun m hm => ?_, ?_, h.ml, h.ol, h.wf, h.wd, h.setl, h.gnd, h.gdis, h.gmk⟩
  · show m.reader < (s.text.readers ++ [n]).length
    rw [List.length_append]
    exact Nat.lt_of_lt_of_le (h.rd m hm) (Nat.le_add_right _ _)
  · show (s.text.readers ++ [n]).length ≤ 8
    rw [List.length_append]
    simp
    omega
def wdr (s : Si43.St) (m : Nat) (x : Mark) : Si43.St := { s with text := { s.text with marks := s.text.marks.set m { x with stand := .withdrawn } } }
theorem step_withdraw (s : Si43.St) (m : Nat) : Si43.step s (.proof (.withdraw m)) = match s.text.marks[m]? with
    | none => (s, Si43.ok (-2))
    | some x => if (askOf x).isSome = true then (wdr s m x, Si43.ok 0) else (s, Si43.ok (-4)) := by
  cases hm : s.text.marks[m]? with
  | none => exact proof_no (t := s.text) (by simp only [Si42.step]; rw [hm]; rfl) (by decide)
  | some x =>
    cases hx : x.stand with
    | open_ a =>
      have : (askOf x).isSome = true := by unfold askOf; rw [hx]; rfl
      dsimp only
      rw [if_pos this]
      exact proof_yes (by simp) (by simp only [Si42.step]; rw [hm]; dsimp only; rw [hx]; rfl) (by omega)
    | done p =>
      have : ¬ (askOf x).isSome = true := by unfold askOf; rw [hx]; simp
      dsimp only
      rw [if_neg this]
      exact proof_no (t := s.text) (by simp only [Si42.step]; rw [hm]; dsimp only; rw [hx]; rfl) (by decide)
    | lost p =>
      have : ¬ (askOf x).isSome = true := by unfold askOf; rw [hx]; simp
      dsimp only
      rw [if_neg this]
      exact proof_no (t := s.text) (by simp only [Si42.step]; rw [hm]; dsimp only; rw [hx]; rfl) (by decide)
    | withdrawn =>
      have : ¬ (askOf x).isSome = true := by unfold askOf; rw [hx]; simp
      dsimp only
      rw [if_neg this]
      exact proof_no (t := s.text) (by simp only [Si42.step]; rw [hm]; dsimp only; rw [hx]; rfl) (by decide)
theorem opens_wd {l : List Mark} {m : Nat} {x : Mark} {y : Nat × Ask} (h : y ∈ opens (l.set m { x with stand := .withdrawn })) : y ∈ opens l := by
  obtain ⟨z, hz, ha⟩ := opens_mem.mp h
  rw [List.getElem?_set] at hz
  split at hz
  · split at hz
    · cases hz
      cases ha
    · cases hz
  · exact opens_mem.mpr ⟨z, hz, ha⟩
theorem isO_count (l : List Mark) : (opens l).length ≤ l.length := by
  have := congrArg List.length (opens_range l)
  rw [List.length_map] at this
  rw [this]
  have := List.length_filter_le (isO l) (List.range l.length)
  rw [List.length_range] at this
  exact this
theorem opens_wd_len {l : List Mark} {m : Nat} {x : Mark} : (opens (l.set m { x with stand := .withdrawn })).length ≤ (opens l).length := by
  have h1 := congrArg List.length (opens_range (l.set m { x with stand := .withdrawn }))
  have h2 := congrArg List.length (opens_range l)
  rw [List.length_map] at h1 h2
  rw [h1, h2, List.length_set]
  rw [← List.countP_eq_length_filter, ← List.countP_eq_length_filter]
  apply List.countP_mono_left
  intro i hi ho
  unfold isO at ho ⊢
  rw [List.getElem?_set] at ho
  by_cases c : m = i
  · subst c
    rw [if_pos rfl] at ho
    split at ho
    · cases ho
    · cases ho
  · rw [if_neg c] at ho
    exact ho
theorem sok_withdraw {s : Si43.St} {P : Tx} {own m : Nat} {x : Mark} (h : Sok s P own) (hm : s.text.marks[m]? = some x) : Sok (wdr s m x) P own := by
  refine ⟨h.text, h.tx, h.len, h.fl, h.fnext, h.bynone, fun y hy m' hm' => ⟨(h.bysome y hy m' hm').1, ?_⟩, fun y hy => ?_, h.rl, ?_, ?_, fun y hy => h.wf y (opens_wd hy), fun y hy => h.wd y (opens_wd hy), h.setl, h.gnd, h.gdis, fun y hy => by show y.2 < (s.text.marks.set m _).length; rw [List.length_set]; exact h.gmk y hy⟩
  · show m' < (s.text.marks.set m _).length
    rw [List.length_set]
    exact (h.bysome y hy m' hm').2
  · rcases List.mem_or_eq_of_mem_set hy with hy | rfl
    · exact h.rd y hy
    · exact h.rd x (List.mem_of_getElem? hm)
  · show (s.text.marks.set m _).length ≤ 60
    rw [List.length_set]
    exact h.ml
  · exact Nat.le_trans opens_wd_len h.ol
end Pf

end
section
set_option Elab.async false
set_option linter.all false
set_option maxRecDepth 100000
set_option maxHeartbeats 4000000
/-! Another text, a reader. -/
namespace Pf
open PySem PySem.Spec PyProof.Rows L2 Evl
section
variable {K : PySem.W.Frag} {σ : L2.St} {H : Hp} {te ta tb : TE}
theorem ev_le {m n : Nat} (h1 : Ev ta σ H (.int (m : Int))) (h2 : Ev tb σ H (.int (n : Int))) : Ev (tOp (rI0 fun i j => V.bl (decide (i ≤ j))) ta tb) σ H (.bl (decide (m ≤ n))) := ev_is (ev_op h1 h2 rv_I0) (by
  show V.bl _ = V.bl _
  congr 1
  rw [Bool.eq_iff_iff]; simp)
theorem ev_lt {m n : Nat} (h1 : Ev ta σ H (.int (m : Int))) (h2 : Ev tb σ H (.int (n : Int))) : Ev (tOp (rI0 fun i j => V.bl (decide (i < j))) ta tb) σ H (.bl (decide (m < n))) := ev_is (ev_op h1 h2 rv_I0) (by
  show V.bl _ = V.bl _
  congr 1
  rw [Bool.eq_iff_iff]; simp)
theorem ev_neg {n : Int} : Ev (tUn (rU fun i => V.int (-i)) (tC (.int n))) σ H (.int (-n)) := ev_un ev_c ru_neg
theorem rv_le {m n : Nat} : RV (rI0 fun i j => V.bl (decide (i ≤ j))) (.int (m : Int)) (.int (n : Int)) H (.bl (decide (m ≤ n))) := by
  have e : V.bl (decide (m ≤ n)) = V.bl (decide ((m : Int) ≤ (n : Int))) := by
    congr 1
    rw [Bool.eq_iff_iff]; simp
  rw [e]
  exact rv_I0
theorem rv_lt {m n : Nat} : RV (rI0 fun i j => V.bl (decide (i < j))) (.int (m : Int)) (.int (n : Int)) H (.bl (decide (m < n))) := by
  have e : V.bl (decide (m < n)) = V.bl (decide ((m : Int) < (n : Int))) := by
    congr 1
    rw [Bool.eq_iff_iff]; simp
  rw [e]
  exact rv_I0
theorem ev_listOf {p : Addr} {xs : List V} (h : Ev te σ H (.ref p)) (hp : SqL K H p xs) : EvL (tCB (rListS K) (tCons te tNil)) σ H xs := el_list h hp
end
section
variable {H H' : Hp} {a b C C' : Addr} {nm nm' : List Str} {vs vs' : List V}
theorem InsAt.ne (h : InsAt H a C nm vs) (k : InsAt H b C' nm' vs') (hl : nm.length ≠ nm'.length) : a ≠ b := fun z => by
  obtain ⟨h1, dx, h2⟩ := h
  obtain ⟨k1, dx', k2⟩ := k
  rw [z, k2] at h2
  have e := Option.some.inj h2
  injection e with e1 e2 e3
  have := congrArg List.length e3
  rw [List.length_zip, List.length_zip, h1, k1, Nat.min_self, Nat.min_self] at this
  exact hl this.symm
theorem InsAt.keep {p : Addr} (h : InsAt H a C nm vs) (k : Keep p H H') (hp : a ≠ p) : InsAt H' a C nm vs := by
  obtain ⟨h1, dx, h2⟩ := h
  exact ⟨h1, dx, k _ _ h2 hp⟩
end
section
variable {P : Program} {w : World} {K : PySem.W.Frag} {mg : Str → Option Value} {base : Heap}
def cBegins : List Nat → List Nat → Option Si43.Call := fun _ row => some (.proof (.begins row))
def sp_begins (T : Tp K mg) : Sp := spD T cBegins
-- slots: holder 0, numbers 1, row 2, place 3, value 4
theorem ok_begins (T : Tp K mg) : FnOk P w K mg base (L2.CX P w) 4 T.begins.f T.begins.fd P_begins (sp_begins T) := by
  refine T.begins.F.okX sc_begins (fun vs H Q E h => ?_) (fun cdv A outer s H vs Q E hr h => ⟨_, (pss_cons (ps_expr (pe_call (ok_ask T) (hr.mono (by decide)) rfl T.ask.g T.ask.F.kp T.ask.b .nil (passes_call (takes_of rfl rfl rfl rfl) (fun _ _ _ _ h => h)) (pa_cons (pe_and (pe_cmpR op_le (pe_callB call_len_seq rfl T.nlen PySem.boot_len (pa_cons (pv 2) pa_nil)) (pe_glob (v := .int 100) rfl T.kMOST_TEXT ⟨_, rfl⟩) (nomark _)) (pe_one (pe_call (ok_are_words T) (hr.mono (by decide)) rfl T.are_words.g T.are_words.F.kp T.are_words.b .nil pass0 (pa_cons (pv 2) pa_nil)))) (pa_cons (pe_un un_neg pe_int) pa_nil))))
    (pss_cons (ps_fld (pv 0) (pe_callTy call_list_of rfl T.nlist (by decide +kernel) (pa_cons (pv 2) pa_nil)) rfl)
    (pss_cons (ps_fld (pv 0) (pe_lc (own := [("place", 3), ("value", 4)]) (g := (g2 K 3 4)) (tt := tYes) (te := (tMake T.Word.C (sp_Word_init T) [] E0 (tCons (tVar 4) (tCons (tVar 3) (tCons (tVar 3) (tCons (tUn (rU fun i => .int (-i)) (tC (.int 1))) tNil)))))) rfl sc_begins.nd (pi_enum rfl T.nenumerate (pa_cons (pv 2) pa_nil)) (blkOk_by (own := [("place", 3), ("value", 4)]) (N := N_begins) (sc := defScope s_begins) (by decide +kernel)) (fun _ _ _ _ _ => (pg_tup rfl (pgs_cons (pg_name (i := 3) sc_begins.nd rfl (.inl rfl)) (pgs_cons (pg_name (i := 4) sc_begins.nd rfl (.inl rfl)) pgs_nil)))) (fun _ _ _ _ _ => pts_nil) (fun _ _ _ _ _ => (pe_make T.Word.mkd (ok_Word_init T) (hr.mono (by decide)) rfl T.Word.g T.Word.b .nil pass0 (pa_cons (pv 4) (pa_cons (pv 3) (pa_cons (pv 3) (pa_cons (pe_un un_neg pe_int) pa_nil))))))) rfl)
    (pss_cons (ps_fld (pv 0) (pe_callB call_len_seq rfl T.nlen PySem.boot_len (pa_cons (pv 2) pa_nil)) rfl)
    (pss_cons (ps_fld (pv 0) pe_int rfl)
    (pss_cons (ps_fld (pv 0) (pe_lst pa_nil) rfl)
    (pss_cons (ps_fld (pv 0) (pe_lst pa_nil) rfl)
    (pss_cons (ps_fld (pv 0) (pe_lst pa_nil) rfl)
    (pss_cons (ps_fld (pv 0) pe_non rfl)
    (pss_one (ps_ret (pe_lst (pa_cons (pe_callB call_len_seq rfl T.nlen PySem.boot_len (pa_cons (pv 2) pa_nil)) pa_nil))))))))))))), ?_⟩)
  · obtain ⟨h, na, ra, ns, row, s, X, c, rfl, _⟩ := h
    rfl
  · obtain ⟨hh, na, ra, ns, row, st, X, c, rfl, hA, hS, hN, hR, hrl, hc, g⟩ := h
    cases hc
    rw [step_begins] at g
    have hRH := off_le _ _ _ _ hR
    refine q_asks (b := decide (row.length ≤ 100) && Si42.wordsOk row) (ea_ask (ev_andV (ev_le (ev_lenN' (ev_var rfl) hRH) ev_c) (fun _ => ev_callV (ea_cons (ev_var rfl) ea_nil) fun H1 e1 => ⟨ra, row, rfl, e1 _ _ hRH, by omega, rfl⟩)) ev_neg) (fun hb H0 e0 => ?_) (fun hb => ?_)
    · rw [Bool.and_comm] at hb
      rw [if_neg (by rw [hb]; decide)] at g
      rw [Bool.and_eq_true, decide_eq_true_eq] at hb
      obtain ⟨hw, hl⟩ := hb
      have hA0 := hA.ex e0
      have hR0 := e0 _ _ hRH
      have hol := hA0.hol
      have hne : ra ≠ hh := fun z => by
        obtain ⟨_, dx, hi⟩ := hol
        rw [z, hi] at hR0
        cases hR0
      refine q_flK T.Holder 0 hol (fun H1 e => ev_var rfl) (EvR.toP (evl_r (ev_listOf (ev_var rfl) (sq_of hR0)))) fun y H1 G1 e1 hy k1 g1 => ?_
      obtain ⟨fa, rfl, n1, h1⟩ := hy
      have hole := hol
      obtain ⟨_, dx, hi⟩ := hole
      have d1 := ne_some n1 hi
      have v1 := k1 _ _ h1 d1
      have c1 := Keep.ex1 e1 k1
      have r1 := c1 _ _ hR0 hne
      refine q_flK T.Holder 1 g1 (fun H1 e => ev_var rfl) (EvR.toP (er_lcE (fun i a H => ∃ v, row[i]? = some v ∧ WordAt T H a (⟨i, v, none⟩, i)) (fun i p H H' e ⟨v, h1, h2⟩ => ⟨v, h1, h2.ex e⟩) (fun i p D l H hD ⟨v, h1, h2⟩ => ⟨v, h1, InsAt.off h2 hD⟩)
        (ea_cons (ev_var rfl) ea_nil) (sq_of r1) (by rw [nl_len]; omega) (fun _ _ => rfl) (fun i x H1 e hx => ?_))) fun y H2 G2 e2 hy k2 g2 => ?_
      · unfold nl at hx
        rw [List.getElem?_map] at hx
        cases hv : row[i]? with
        | none => rw [hv] at hx; cases hx
        | some v =>
          rw [hv] at hx
          cases hx
          exact (er_makeA (ea_cons (ev_var rfl) (ea_cons (ev_var rfl) (ea_cons (ev_var rfl) (ea_cons ev_neg ea_nil)))) rfl).imp fun p H2 _ hp => ⟨v, rfl, hp⟩
      obtain ⟨ta, rfl, n2, ats, h2, hal, hat⟩ := hy
      have d2 : ta ≠ hh := by
        obtain ⟨_, dx, hi⟩ := g1
        exact ne_some n2 hi
      have v2 := k2 _ _ h2 d2
      have c2 := Keep.ex1 e2 k2
      have wrd : Al2 (WordAt T H2) ats (newP row) := by
        refine ⟨by rw [hal, nl_len, newP_len], fun i a b h1 h2 => ?_⟩
        obtain ⟨v, hv, hw⟩ := hat i a h1
        rw [newP_at, hv] at h2
        cases h2
        exact hw
      have wne : ∀ a ∈ ats, a ≠ hh := fun a ha => by
        obtain ⟨i, hi⟩ := List.mem_iff_getElem?.mp ha
        obtain ⟨x, _, hx⟩ := wrd.getL hi
        exact (hx.ne (g1.ex e2) (by decide))
      have wrd2 : Al2 (WordAt T G2) ats (newP row) := ⟨wrd.1, fun i a b h1 h2 => InsAt.keep (wrd.2 i a b h1 h2) k2 (wne a (List.mem_of_getElem? h1))⟩
      have r2 := c2 _ _ r1 hne
      refine q_flK T.Holder 8 g2 (fun H1 e => ev_var rfl) (ev_p (ev_lenN' (ev_var rfl) r2)) fun y H3 G3 e3 hy k3 g3 => ?_
      subst hy
      have c3 := Keep.ex1 e3 k3
      have r3 := c3 _ _ r2 hne
      refine q_flK T.Holder 2 g3 (fun H1 e => ev_var rfl) (ev_p ev_c) fun y H4 G4 e4 hy k4 g4 => ?_
      subst hy
      have c4 := Keep.ex1 e4 k4
      have r4 := c4 _ _ r3 hne
      refine q_flK T.Holder 3 g4 (fun H1 e => ev_var rfl) ep_nil fun y H5 G5 e5 hy k5 g5 => ?_
      obtain ⟨wa, rfl, n5, h5⟩ := hy
      have d5 : wa ≠ hh := by
        obtain ⟨_, dx, hi⟩ := g4
        exact ne_some n5 hi
      have v5 := k5 _ _ h5 d5
      have c5 := Keep.ex1 e5 k5
      have r5 := c5 _ _ r4 hne
      refine q_flK T.Holder 4 g5 (fun H1 e => ev_var rfl) ep_nil fun y H6 G6 e6 hy k6 g6 => ?_
      obtain ⟨ma, rfl, n6, h6⟩ := hy
      have d6 : ma ≠ hh := by
        obtain ⟨_, dx, hi⟩ := g5
        exact ne_some n6 hi
      have v6 := k6 _ _ h6 d6
      have c6 := Keep.ex1 e6 k6
      have r6 := c6 _ _ r5 hne
      refine q_flK T.Holder 5 g6 (fun H1 e => ev_var rfl) ep_nil fun y H7 G7 e7 hy k7 g7 => ?_
      obtain ⟨ga, rfl, n7, h7⟩ := hy
      have d7 : ga ≠ hh := by
        obtain ⟨_, dx, hi⟩ := g6
        exact ne_some n7 hi
      have v7 := k7 _ _ h7 d7
      have c7 := Keep.ex1 e7 k7
      have r7 := c7 _ _ r6 hne
      refine q_flK T.Holder 6 g7 (fun H1 e => ev_var rfl) (ev_p ev_c) fun y H8 G8 e8 hy k8 g8 => ?_
      subst hy
      have c8 := Keep.ex1 e8 k8
      have r8 := c8 _ _ r7 hne
      refine s_retL (el_lst (ea_cons (ev_lenN' (ev_var rfl) r8) ea_nil) (by show 1 ≤ 100000; decide)) fun p G9 n9 e9 h9 => ?_
      -- all in the last heap
      have c9 : Keep hh G8 G9 := fun b o h _ => e9 b o h
      have t89 := c8.trans c9
      have t79 := c7.trans t89
      have t69 := c6.trans t79
      have t59 := c5.trans t69
      have t49 := c4.trans t59
      have t39 := c3.trans t49
      have t29 := c2.trans t39
      have t19 := c1.trans t29
      have t09 : Keep hh H G9 := Keep.ex1 e0 t19
      have u4 : Keep hh G2 G4 := c3.trans c4
      have fne : ∀ {x b : Addr} {o : HO} {Gx Gy : Hp}, Gx x = none → Keep hh Gy Gx → Gy b = some o → b ≠ hh → b ≠ x := fun hx kk hb hne z => by
        have := kk _ _ hb hne
        rw [z, hx] at this
        cases this
      have hoff : ∀ {b : Addr} {o : HO}, G9 b = some o → b ≠ hh → b ≠ wa → b ≠ ma → b ∉ X.zs → Off (hh :: wa :: ma :: ([] ++ X.zs)) G9 b = some o := fun h x y z u => by rw [off_out (by simp [x, y, z, u])]; exact h
      have zF : ∀ {b : Addr}, b ∈ X.zs → b ∈ X.F hh := fun hb => List.mem_cons_of_mem _ (List.mem_cons_of_mem _ (List.mem_cons_of_mem _ (List.mem_append_right _ hb)))
      have hhz : hh ∉ X.zs := fun z => by
        have := hA.nd
        unfold HX.F at this
        rw [List.nodup_cons] at this
        exact this.1 (by simp [z])
      have zk : Zk X H G9 := fun b hb o ho => t09 b o ho fun z => hhz (z ▸ hb)
      have fz : ∀ {b : Addr} {Gx : Hp}, Keep hh H Gx → Gx b = none → b ≠ hh → b ∉ X.zs := fun kk hb hne z => by
        obtain ⟨o, ho⟩ := hA.zsm _ z
        rw [kk _ _ ho hne] at hb
        cases hb
      have waN : G4 wa = none := n5
      have maN : G5 ma = none := n6
      have wam : wa ≠ ma := fne maN (Keep.refl) v5 d5
      have g9 : InsAt G9 hh T.Holder.C flHolder _ := g8.ex e9
      have caH : X.ca ≠ hh := fun z => by
        obtain ⟨_, dx, hi⟩ := hA.cost
        rw [z, off_in (show hh ∈ X.F hh from List.mem_cons_self)] at hi
        cases hi
      have nH : ∀ a, a ≠ hh → ∀ {Gx}, Keep hh H Gx → Gx a = none → H a = none := fun a hne _ kk h => kk.none h hne
      have kH4 : Keep hh H G4 := (Keep.ex1 e0 c1).trans (c2.trans u4)
      have kH5 : Keep hh H G5 := kH4.trans c5
      refine (g.of rfl (by omega)) G9 p ⟨fa, ta, wa, ma, ga, X.ca, none, [], ats, [], X.zs, newP row, row.length, []⟩ (t09.off (show hh ∈ X.F hh from List.mem_cons_self)) (fun a ha => ?_) rfl zk ?_ (sok_begins hl) (Zk.nz (X := X) (H := H) (Hn := G8) (fun b hb o ho => (Keep.ex1 e0 (c1.trans (c2.trans (u4.trans (c5.trans (c6.trans (c7.trans c8))))))) b o ho fun z => hhz (z ▸ hb)) hA.zsm n9) (by rw [h9]; rfl)
      · have ha' : a ∈ hh :: wa :: ma :: ([] ++ X.zs) := ha
        simp at ha'
        rcases ha' with rfl | rfl | rfl | hz
        · exact Or.inl List.mem_cons_self
        · exact Or.inr (kH4.none waN d5)
        · exact Or.inr (kH5.none maN d6)
        · exact Or.inl (zF hz)
      · have caz : X.ca ∉ X.zs := fun z => by
          obtain ⟨_, dx, hi⟩ := hA.cost
          rw [off_in (zF z)] at hi
          cases hi
        have wz2 : ∀ a ∈ ats, a ∉ X.zs := fun a ha z => by
          obtain ⟨i, hi⟩ := List.mem_iff_getElem?.mp ha
          obtain ⟨o, ho⟩ := hA.zsm a z
          obtain ⟨x, _, _, dx, hx⟩ := wrd2.getL hi
          have := (Keep.ex1 e0 (c1.trans c2)) _ _ ho (wne a ha)
          rw [hx] at this
          cases this
        have ww : ∀ a ∈ ats, a ≠ wa ∧ a ≠ ma := fun a ha => by
          obtain ⟨i, hi⟩ := List.mem_iff_getElem?.mp ha
          obtain ⟨x, _, _, dx, hx⟩ := wrd2.getL hi
          exact ⟨fne waN u4 hx (wne a ha), fne maN (u4.trans c5) hx (wne a ha)⟩
        refine ⟨?_, g9, hoff (t29 _ _ v1 d1) d1 (fne waN (c2.trans u4) v1 d1) (fne maN (c2.trans (u4.trans c5)) v1 d1) (fz (Keep.ex1 e0 Keep.refl) n1 d1), hoff (t39 _ _ v2 d2) d2 (fne waN u4 v2 d2) (fne maN (u4.trans c5) v2 d2) (fz (Keep.ex1 e0 c1) n2 d2), ?_, t69 _ _ v5 d5, ⟨t79 _ _ v6 d6, Al2.nil⟩, hoff (t89 _ _ v7 d7) d7 (Ne.symm (fne n7 (c6) v5 d5)) (Ne.symm (fne n7 Keep.refl v6 d6)) (fz (kH5.trans c6) n7 d7), Al2.nil, trivial, ?_, rfl, by simp, fun b hb => (hA.zsm b hb).imp fun o ho => zk b hb _ ho⟩
        · show (hh :: wa :: ma :: ([] ++ X.zs)).Nodup
          have wz := fz kH4 waN d5
          have mz := fz kH5 maN d6
          have nz : X.zs.Nodup := by
            have := hA.nd
            unfold HX.F at this
            simp only [List.nodup_cons, List.nodup_append] at this
            exact this.2.2.2.2.1
          simp [d5.symm, d6.symm, wam, hhz, wz, mz, nz]
        · exact ⟨wrd2.1, fun i a b h1 h2 => ((wrd2.2 i a b h1 h2).keep t39 (wne a (List.mem_of_getElem? h1))).offN (F := hh :: wa :: ma :: ([] ++ X.zs)) (by
            have := ww a (List.mem_of_getElem? h1)
            have hz := wz2 a (List.mem_of_getElem? h1)
            simp [wne a (List.mem_of_getElem? h1), this.1, this.2, hz])⟩
        · have hc := hA.costH
          obtain ⟨_, dxc, hcc⟩ := id hc
          exact (hc.keep t09 caH).offN (F := hh :: wa :: ma :: ([] ++ X.zs)) (by simp [caH, fne waN kH4 hcc caH, fne maN kH5 hcc caH, caz])
    · rw [Bool.and_comm] at hb
      rw [if_pos hb] at g
      exact g.no rfl (by decide)
end
end Pf

end
section
set_option Elab.async false
set_option linter.all false
set_option maxRecDepth 100000
set_option maxHeartbeats 4000000
/-! A reader; marks put and withdrawn. -/
namespace Pf
open PySem PySem.Spec PyProof.Rows L2 Evl
section
variable {K : PySem.W.Frag} {mg : Str → Option Value} {T : Tp K mg} {H H' I I' : Hp} {h : Addr} {s : Si43.St} {X : HX}
theorem MarkAt.keep {a b : Addr} {m : Si42.Mark} (hm : MarkAt T H I a m) (k : Keep b H H') (hb : a ≠ b) : MarkAt T H' I a m := hm.frame k.off1 hb
theorem MarksAt.keep {b am : Addr} {as : List Addr} {ms : List Si42.Mark} (hm : MarksAt T H I am as ms) (k : Keep b H H') (hb : am ≠ b) (hn : b ∉ as) (e : Ex I I') : MarksAt T H' I' am as ms :=
  ⟨k _ _ hm.1 hb, hm.2.1, fun i a m h1 h2 => ((hm.2.2 i a m h1 h2).keep k fun z => hn (z ▸ List.mem_of_getElem? h1)).ex (Ex.refl _) e⟩
theorem HolderAt.hN (a : HolderAt T H h s X) : h ≠ X.wa ∧ h ≠ X.ma ∧ h ∉ X.as ∧ X.wa ≠ X.ma ∧ X.wa ∉ X.as ∧ X.ma ∉ X.as ∧ X.as.Nodup := by
  have := a.nd
  unfold HX.F at this
  simp only [List.nodup_cons, List.mem_cons, not_or, List.mem_append, List.nodup_append] at this
  obtain ⟨⟨h1, h2, h3⟩, ⟨h4, h5⟩, h6, h7⟩ := this
  exact ⟨h1, h2, h3.1, h4, h5.1, h6.1, h7.1⟩
theorem HolderAt.hZ (a : HolderAt T H h s X) : h ∉ X.zs ∧ X.wa ∉ X.zs ∧ X.ma ∉ X.zs ∧ (∀ b ∈ X.as, b ∉ X.zs) ∧ X.zs.Nodup := by
  have := a.nd
  unfold HX.F at this
  simp only [List.nodup_cons, List.mem_cons, not_or, List.mem_append, List.nodup_append] at this
  obtain ⟨⟨h1, h2, h3⟩, ⟨h4, h5⟩, h6, h7⟩ := this
  exact ⟨h3.2, h5.2, h6.2, fun b hb z => h7.2.2 b hb b z rfl, h7.2.1⟩
theorem Zk.keep {b : Addr} (hz : b ∉ X.zs) (k : Keep b H H') : Zk X H H' := fun c hc o ho => k c o ho fun z => hz (z ▸ hc)
theorem Zk.sm {H H' : Hp} (z : Zk X H H') (a : ∀ b ∈ X.zs, ∃ l, H b = some (.lst l)) : ∀ b ∈ X.zs, ∃ l, H' b = some (.lst l) := fun b hb => (a b hb).imp fun o ho => z b hb _ ho
theorem Zk.trans {H H1 H2 : Hp} (a : Zk X H H1) (b : Zk X H1 H2) : Zk X H H2 := fun c hc o ho => b c hc o (a c hc o ho)
theorem Zk.of {H H' : Hp} (e : Ex H H') : Zk X H H' := fun c _ o ho => e _ _ ho
theorem HX.hF (X : HX) (h : Addr) : h ∈ X.F h := List.mem_cons_self
theorem HX.wF (X : HX) (h : Addr) : X.wa ∈ X.F h := List.mem_cons_of_mem _ List.mem_cons_self
theorem HX.mF (X : HX) (h : Addr) : X.ma ∈ X.F h := List.mem_cons_of_mem _ (List.mem_cons_of_mem _ List.mem_cons_self)
theorem HX.aF (X : HX) (h : Addr) {a : Addr} (ha : a ∈ X.as) : a ∈ X.F h := List.mem_cons_of_mem _ (List.mem_cons_of_mem _ (List.mem_cons_of_mem _ (List.mem_append_left _ ha)))
theorem HX.zF (X : HX) (h : Addr) {a : Addr} (ha : a ∈ X.zs) : a ∈ X.F h := List.mem_cons_of_mem _ (List.mem_cons_of_mem _ (List.mem_cons_of_mem _ (List.mem_append_right _ ha)))
end
section
variable {P : Program} {w : World} {K : PySem.W.Frag} {mg : Str → Option Value} {base : Heap}
def cReader : List Nat → List Nat → Option Si43.Call
  | [n], _ => some (.proof (.reader n))
  | _, _ => none
def sp_reader (T : Tp K mg) : Sp := spD T cReader
-- slots: holder 0, numbers 1, row 2
theorem ok_reader (T : Tp K mg) : FnOk P w K mg base (L2.CX P w) 4 T.reader.f T.reader.fd P_reader (sp_reader T) := by
  refine T.reader.F.okX sc_reader (fun vs H Q E h => ?_) (fun cdv A outer s H vs Q E hr h => ⟨_, (pss_cons (ps_expr (pe_call (ok_ask T) (hr.mono (by decide)) rfl T.ask.g T.ask.F.kp T.ask.b .nil (passes_call (takes_of rfl rfl rfl rfl) (fun _ _ _ _ h => h)) (pa_cons (pe_chain op_le op_le pe_int (pe_ix ix_list (pv 1) pe_int (fun _ _ => rfl)) (pe_glob (v := .int 1000) rfl T.kMOST_WEIGHT ⟨_, rfl⟩)) (pa_cons (pe_un un_neg pe_int) pa_nil))))
    (pss_cons (ps_expr (pe_call (ok_ask T) (hr.mono (by decide)) rfl T.ask.g T.ask.F.kp T.ask.b .nil (passes_call (takes_of rfl rfl rfl rfl) (fun _ _ _ _ h => h)) (pa_cons (pe_cmpR op_lt (pe_callB call_len_seq rfl T.nlen PySem.boot_len (pa_cons (pe_fld (pv 0) rfl) pa_nil)) (pe_glob (v := .int 8) rfl T.kMOST_READERS ⟨_, rfl⟩) (nomark _)) (pa_cons (pe_un un_neg pe_int) pa_nil))))
    (pss_cons (ps_expr (pe_bm PySem.F.plainAttrs_list PySem.F.slot_list_append PySem.F.type_list_append mt_append (pe_fld (pv 0) rfl) (pa_cons (pe_ix ix_list (pv 1) pe_int (fun _ _ => rfl)) pa_nil)))
    (pss_one (ps_ret (pe_lst (pa_cons (pe_op op_sub (pe_callB call_len_seq rfl T.nlen PySem.boot_len (pa_cons (pe_fld (pv 0) rfl) pa_nil)) pe_int) pa_nil))))))), ?_⟩)
  · obtain ⟨h, na, ra, ns, row, s, X, c, rfl, _⟩ := h
    rfl
  · obtain ⟨hh, na, ra, ns, row, st, X, c, rfl, hA, hS, hN, hR, hrl, hc, g⟩ := h
    match ns, hc with
    | [n], hc =>
    cases hc
    rw [step_reader] at g
    have hNH := off_le _ _ _ _ hN
    refine q_asks (b := decide (1 ≤ n) && decide (n ≤ 1000)) (ea_ask (ev_chain (ev_c : Ev (tC (.int ((1 : Nat) : Int))) _ _ _) (ev_at (n := 0) (ev_var rfl) ev_c (sq_of hNH) rfl) rv_le (fun _ => (ev_c : Ev (tC (.int ((1000 : Nat) : Int))) _ _ _)) (fun _ => rv_le)) ev_neg) (fun hb H1 e1 => ?_) (fun hb => ?_)
    · rw [Bool.and_eq_true, decide_eq_true_eq, decide_eq_true_eq] at hb
      rw [if_neg (by omega)] at g
      refine q_asks (b := decide (st.text.readers.length < 8)) (ea_ask (ev_lt (ev_lenN' (ev_fl T.Holder 3 (hA.ex e1).hol (ev_var rfl)) (e1 _ _ hA.wts)) ev_c) ev_neg) (fun hb2 H2 e2 => ?_) (fun hb2 => ?_)
      · have hb2 := of_decide_eq_true hb2
        rw [if_neg (by omega)] at g
        have e12 := e1.trans e2
        obtain ⟨d1, d2, d3, d4, d5, d6, d7⟩ := hA.hN
        refine q_app (e12 _ _ hA.wts) (ev_fl T.Holder 3 (hA.ex e12).hol (ev_var rfl)) (ev_at (n := 0) (ev_var rfl) ev_c (sq_of (e12 _ _ hNH)) rfl) (by rw [nl_len]; omega) fun H3 e3 => ?_
        have e13 := e12.trans e3
        have hA3 := hA.ex e13
        generalize hG : upd H3 X.wa _ = G
        have kk : Keep X.wa H3 G := by rw [← hG]; exact Keep.step Keep.refl (Ex.refl _)
        have gw : G X.wa = some (.lst (nl (st.text.readers ++ [n]))) := by rw [← hG, upd_same, nl_app]; rfl
        clear hG
        have oF : Ex (Off (X.F hh) H3) (Off (X.F hh) G) := kk.off (X.wF hh)
        have hol := hA3.hol.keep kk d1
        refine s_retL (el_lst (ea_cons (ev_op (ev_lenN' (ev_fl T.Holder 3 hol (ev_var rfl)) gw) ev_c rv_I0) ea_nil) (by show 1 ≤ 100000; decide)) fun p H4 n4 e4 h4 => ?_
        have oF4 := oF.trans (off_ex e4)
        have zk : Zk X H H4 := (Zk.of e13).trans ((Zk.keep hA.hZ.2.1 kk).trans (Zk.of e4))
        refine (g.of rfl (by omega)) H4 p X ((off_ex e13).trans oF4) (fun a ha => Or.inl ha) rfl zk ?_ (sok_reader hS hb2) (((Zk.of e13).trans (Zk.keep hA.hZ.2.1 kk)).nz hA.zsm n4) ?_
        · exact ⟨hA3.nd, hol.ex e4, oF4 _ _ hA3.first, oF4 _ _ hA3.text, hA3.words.mono fun _ _ k => k.ex oF4, e4 _ _ gw, (hA3.mks.keep kk d4.symm d5 oF).ex e4 (off_ex e4), oF4 _ _ hA3.gon, hA3.gons.mono fun _ _ k => k.ex oF4, hA3.set.ex oF4, hA3.cost.ex oF4, hA3.eqG, hA3.byG, zk.sm hA.zsm⟩
        · rw [h4]
          congr 2
          show [V.int _] = [V.int _]
          congr 2
          rw [List.length_append]
          simp
      · have hb2 := of_decide_eq_false hb2
        rw [if_pos (by omega)] at g
        exact (g.no rfl (by decide)).mono e1
    · have : n < 1 ∨ 1000 < n := by
        rw [Bool.and_eq_false_iff, decide_eq_false_iff_not, decide_eq_false_iff_not] at hb
        omega
      rw [if_pos this] at g
      exact g.no rfl (by decide)
/-- a mark more, at a -/
def HX.more (X : HX) (a : Addr) : HX := { X with as := X.as ++ [a] }
theorem HX.moreF {X : HX} {a b h : Addr} : b ∈ (X.more a).F h ↔ b ∈ X.F h ∨ b = a := by
  unfold HX.F HX.more
  simp only [List.mem_cons, List.mem_append, List.not_mem_nil, or_false]
  constructor
  · rintro (h | h | h | (h | h) | h) <;> simp [h]
  · rintro ((h | h | h | h | h) | h) <;> simp [h]
def sp_put_mark (T : Tp K mg) : Sp := fun vs H Q E => ∃ h a s X r q, vs = [.ref h, .ref a] ∧ HolderAt T H h s X ∧ Sok s X.P X.own ∧ a ∉ X.F h ∧ OpenAt T H (Off (X.F h) H) a r q ∧
  (fits s → ∀ H' p, Ex (Off (X.F h) H) (Off (X.F h) H') → Zk X H H' → HolderAt T H' h (addM s r q) (X.more a) → p ∉ X.zs → H' p = some (.lst [.int (s.text.marks.length : Int)]) → Q (.ref p) H') ∧ (¬ fits s → Ref T H (-5) E)
-- slots: holder 0, mark 1
theorem ok_put_mark (T : Tp K mg) : FnOk P w K mg base (L2.CX P w) 4 T.put_mark.f T.put_mark.fd P_put_mark (sp_put_mark T) := by
  refine T.put_mark.F.okX sc_put_mark (fun vs H Q E h => ?_) (fun cdv A outer s H vs Q E hr h => ⟨_, (pss_cons (ps_expr (pe_call (ok_ask T) (hr.mono (by decide)) rfl T.ask.g T.ask.F.kp T.ask.b .nil (passes_call (takes_of rfl rfl rfl rfl) (fun _ _ _ _ h => h)) (pa_cons (pe_and (pe_cmpR op_lt (pe_callB call_len_seq rfl T.nlen PySem.boot_len (pa_cons (pe_call (ok_open_marks T) (hr.mono (by decide)) rfl T.open_marks.g T.open_marks.F.kp T.open_marks.b .nil pass0 (pa_cons (pe_fld (pv 0) rfl) pa_nil)) pa_nil)) (pe_glob (v := .int 10) rfl T.kMOST_OPEN ⟨_, rfl⟩) (nomark _)) (pe_one (pe_cmpR op_lt (pe_callB call_len_seq rfl T.nlen PySem.boot_len (pa_cons (pe_fld (pv 0) rfl) pa_nil)) (pe_glob (v := .int 60) rfl T.kMOST_MARKS ⟨_, rfl⟩) (nomark _)))) (pa_cons (pe_un un_neg pe_int) pa_nil))))
    (pss_cons (ps_expr (pe_bm PySem.F.plainAttrs_list PySem.F.slot_list_append PySem.F.type_list_append mt_append (pe_fld (pv 0) rfl) (pa_cons (pv 1) pa_nil)))
    (pss_one (ps_ret (pe_lst (pa_cons (pe_op op_sub (pe_callB call_len_seq rfl T.nlen PySem.boot_len (pa_cons (pe_fld (pv 0) rfl) pa_nil)) pe_int) pa_nil)))))), ?_⟩)
  · obtain ⟨h, a, s, X, r, q, rfl, _⟩ := h
    rfl
  · obtain ⟨hh, a, st, X, r, q, rfl, hA, hS, ha, ho, k1, k2⟩ := h
    refine q_asks (b := decide ((Si42.opens st.text.marks).length < 10) && decide (st.text.marks.length < 60)) (ea_ask (ev_andV (ev_lt (ev_is (ev_lenN (evr_l (er_callR (ea_cons (ev_fl T.Holder 4 hA.hol (ev_var rfl)) ea_nil) fun H1 e1 => ⟨X.ma, X.as, st.text.marks, rfl, hA.mksH.ex e1 e1, hS.ml, rfl⟩))) (by rw [nl_len, List.length_map])) ev_c)
      (fun _ => ev_lt (ev_is (ev_len (ev_fl T.Holder 4 hA.hol (ev_var rfl)) (sq_of hA.mks.1)) (by rw [List.length_map, hA.mks.2.1])) ev_c)) ev_neg) (fun hb H1 e1 => ?_) (fun hb => ?_)
    · rw [Bool.and_eq_true, decide_eq_true_eq, decide_eq_true_eq] at hb
      obtain ⟨d1, d2, d3, d4, d5, d6, d7⟩ := hA.hN
      have hml : X.as.length = st.text.marks.length := hA.mks.2.1
      refine q_app (e1 _ _ hA.mks.1) (ev_fl T.Holder 4 (hA.ex e1).hol (ev_var rfl)) (ev_var rfl) (by rw [List.length_map, hml]; omega) fun H3 e3 => ?_
      have e13 := e1.trans e3
      have hA3 := hA.ex e13
      generalize hG : upd H3 X.ma _ = G
      have kk : Keep X.ma H3 G := by rw [← hG]; exact Keep.step Keep.refl (Ex.refl _)
      have gm : G X.ma = some (.lst ((X.as ++ [a]).map V.ref)) := by rw [← hG, upd_same]; simp
      clear hG
      have oF : Ex (Off (X.F hh) H3) (Off (X.F hh) G) := kk.off (X.mF hh)
      have hol := hA3.hol.keep kk d2
      have am : a ≠ X.ma := fun z => ha (by rw [z]; exact X.mF hh)
      refine s_retL (el_lst (ea_cons (ev_op (ev_len (ev_fl T.Holder 4 hol (ev_var rfl)) (sq_of gm)) ev_c rv_I0) ea_nil) (by show 1 ≤ 100000; decide)) fun p H4 n4 e4 h4 => ?_
      have oF4 := oF.trans (off_ex e4)
      -- the footprint is larger
      have big : ∀ {b : Addr}, b ≠ a → (b ∉ (X.more a).F hh ↔ b ∉ X.F hh) := fun {b} hb => by
        rw [HX.moreF]
        simp [hb]
      have sub : ∀ {b : Addr} {o : HO}, Off (X.F hh) H4 b = some o → b ≠ a → Off ((X.more a).F hh) H4 b = some o := fun {b o} h hb => by
        obtain ⟨c, h⟩ := off_some h
        rw [off_out ((big hb).mpr c)]
        exact h
      have ai : ∃ vs, InsAt H a T.Mark.C flMark vs := by
        obtain ⟨aw, pr, h1, _⟩ := ho
        exact ⟨_, h1⟩
      have nl1 : ∀ {b : Addr} {xs : List V}, Off (X.F hh) H4 b = some (.lst xs) → b ≠ a := fun {b xs} h z => by
        obtain ⟨vs, _, dx, hi⟩ := ai
        have h2 := (off_some h).2
        have hc : a ∉ X.F hh := ha
        have := oF4 a _ (by rw [off_out ha]; exact e13 _ _ hi)
        rw [off_out ha] at this
        rw [z, this] at h2
        cases h2
      have a4 : ∀ {vs}, InsAt H a T.Mark.C flMark vs → InsAt H4 a T.Mark.C flMark vs := fun h => ((h.ex e13).keep kk am).ex e4
      have ins1 : ∀ {b C : Addr} {nm : List Str} {vs : List V}, InsAt (Off (X.F hh) H4) b C nm vs → nm.length ≠ 8 → InsAt (Off ((X.more a).F hh) H4) b C nm vs := fun {b C nm vs} h hl => by
        obtain ⟨vs', hi⟩ := ai
        have hne : b ≠ a := (h.ex (off_le _ _)).ne (a4 hi) hl
        obtain ⟨h1, dx, h2⟩ := h
        exact ⟨h1, dx, sub h2 hne⟩
      have I1 : Al2 (MarkAt T H4 (Off ((X.more a).F hh) H4)) X.as st.text.marks := by
        have := ((hA3.mks.2).mono fun b m h => h)
        refine ⟨hA3.mks.2.1, fun i b m h1 h2 => ?_⟩
        have hb := hA3.mks.2.2 i b m h1 h2
        have hb' := (hb.keep kk fun z => d6 (z ▸ List.mem_of_getElem? h1)).ex e4 oF4
        have : ∀ aw xs, (Off (X.F hh) H4) aw = some (.lst xs) → Off ((X.more a).F hh) H4 aw = some (.lst xs) := fun aw xs h => sub h (nl1 h)
        unfold MarkAt at hb' ⊢
        split at hb' <;> first | exact hb' | (obtain ⟨aw, pr, x1, x2⟩ := hb'; exact ⟨aw, pr, x1, this _ _ x2⟩)
      have zk : Zk X H H4 := (Zk.of e13).trans ((Zk.keep hA.hZ.2.2.1 kk).trans (Zk.of e4))
      refine k1 hb H4 p ((off_ex e13).trans oF4) zk ⟨?_, hol.ex e4, sub (oF4 _ _ hA3.first) (nl1 (oF4 _ _ hA3.first)), sub (oF4 _ _ hA3.text) (nl1 (oF4 _ _ hA3.text)), hA3.words.mono fun _ _ k => ins1 (k.ex oF4) (by decide), e4 _ _ (kk _ _ hA3.wts d4), ⟨e4 _ _ gm, ?_⟩, sub (oF4 _ _ hA3.gon) (nl1 (oF4 _ _ hA3.gon)), hA3.gons.mono fun _ _ k => ?_, ?_, ins1 (hA3.cost.ex oF4) (by decide), hA3.eqG, hA3.byG, zk.sm hA.zsm⟩ (((Zk.of e13).trans (Zk.keep hA.hZ.2.2.1 kk)).nz hA.zsm n4) ?_
      · have nd := hA3.nd
        have ha' := ha
        unfold HX.F at nd ha'
        unfold HX.F HX.more
        simp only [List.nodup_cons, List.mem_cons, not_or, List.mem_append, List.nodup_append, List.not_mem_nil, not_false_eq_true, or_false] at nd ha' ⊢
        obtain ⟨⟨x1, x2, x3, x4⟩, ⟨y1, y2, y3⟩, ⟨z1, z2⟩, w1, w2, w3⟩ := nd
        obtain ⟨a1, a2, a3, a4, a5⟩ := ha'
        refine ⟨⟨x1, x2, ⟨x3, fun z => a1 z.symm⟩, x4⟩, ⟨y1, ⟨y2, fun z => a2 z.symm⟩, y3⟩, ⟨⟨z1, fun z => a3 z.symm⟩, z2⟩, ⟨w1, ⟨?_, ?_⟩⟩, w2, ?_⟩
        · simp
        · intro x hx y hy
          rw [hy]
          exact fun z => a4 (z ▸ hx)
        · intro x hx y hy
          rcases hx with hx | hx
          · exact w3 x hx y hy
          · rw [hx]
            exact fun z => a5 (z ▸ hy)
      · refine I1.snoc ?_
        obtain ⟨aw, pr, h1, h2⟩ := ho
        have h3 := oF4 _ _ (off_ex e13 _ _ h2)
        exact ⟨aw, pr, a4 h1, sub h3 (nl1 h3)⟩
      · obtain ⟨wd, x1, x2⟩ := k.ex oF4
        refine ⟨wd, sub x1 ?_, ins1 x2 (by decide)⟩
        intro z
        obtain ⟨vs, hi⟩ := ai
        obtain ⟨_, dx, hi⟩ := a4 hi
        have := (off_some x1).2
        rw [z, hi] at this
        cases this
      · have := hA3.set.ex oF4
        show SetAt (Off ((X.more a).F hh) H4) st.setting X.sa
        revert this
        cases hs1 : st.setting <;> cases hs2 : X.sa <;> intro this <;> first | exact this | exact sub this (nl1 this)
      · rw [h4]
        congr 2
        show [V.int _] = [V.int _]
        congr 2
        rw [List.length_map, List.length_append, hml]
        simp
    · refine k2 fun hf => ?_
      rw [Bool.and_eq_false_iff, decide_eq_false_iff_not, decide_eq_false_iff_not] at hb
      obtain ⟨f1, f2⟩ := hf
      omega
end
end Pf

end
section
set_option Elab.async false
set_option linter.all false
set_option maxRecDepth 100000
set_option maxHeartbeats 4000000
/-! Marks asked for and withdrawn. -/
namespace Pf
open PySem PySem.Spec PyProof.Rows L2 Evl
section
variable {K : PySem.W.Frag} {σ : L2.St} {H : Hp} {te ta' : TE} {ta : TA} {D : Ends} {tz : TS} {sp : Sp} {E : XK} {vs : List V}
theorem s_retCall (h : EvA ta σ H vs) (k : ∀ H1, Ex H H1 → sp (vs ++ []) H1 (fun v H2 => D.rt v H2) E) : tRet (tCall sp [] E ta) D σ H := h H (Ex.refl H) _ fun H1 e => k H1 e
theorem s_retCallP {P1 : List V → Hp → Prop} (h : EvAP ta σ H P1) (k : ∀ vs H1, Ex H H1 → P1 vs H1 → sp (vs ++ []) H1 (fun v H2 => D.rt v H2) E) : tRet (tCall sp [] E ta) D σ H := h H (Ex.refl H) _ fun vs H1 e p => k vs H1 e p
theorem q_asgCall {i : Nat} (h : EvA ta σ H vs) (k : ∀ H1, Ex H H1 → sp (vs ++ []) H1 (fun v H2 => tz D (σ.set i (some v)) H2) E) : tSeq (tAsg (tCall sp [] E ta) (gName i)) tz D σ H := h H (Ex.refl H) _ fun H1 e => k H1 e
end
section
variable {P : Program} {w : World} {K : PySem.W.Frag} {mg : Str → Option Value} {base : Heap}
theorem put_go {T : Tp K mg} {H H1 : Hp} {h a : Addr} {s : Si43.St} {X : HX} {r : Nat} {q : Si42.Ask} {Q : VK} {E : XK} (hA : HolderAt T H h s X) (hS : Sok s X.P X.own) (e : Ex H H1) (ha : H a = none) (ho : OpenAt T H1 (Off (X.F h) H1) a r q) (hr : r < s.text.readers.length)
    (hq : Si42.askOk s.text q = true) (hf : ∀ b ∈ X.F h, ∃ o, H b = some o) (g : DeedGo T H h X (markedS s r q) Q E) : sp_put_mark T [.ref h, .ref a] H1 Q E := by
  unfold markedS at g
  rw [if_neg (by omega), if_neg (by rw [hq]; decide)] at g
  obtain ⟨w1, w2⟩ := ask_wf hS hq
  refine ⟨h, a, s, X, r, q, rfl, hA.ex e, hS, fun z => ?_, ho, fun hfit H' p o zk hH hpz hp => ?_, fun hfit => ?_⟩
  · obtain ⟨o, hb⟩ := hf a z
    rw [ha] at hb
    cases hb
  · obtain ⟨f1, f2⟩ := id hfit
    rw [if_neg (by omega)] at g
    refine (g.of rfl (by omega)) H' p (X.more a) ((off_ex e).trans o) (fun b hb => ?_) rfl ((Zk.of e).trans zk) hH (sok_mark hS hr w1 w2 hfit) hpz hp
    rcases HX.moreF.mp hb with hb | hb
    · exact Or.inl hb
    · rw [hb]
      exact Or.inr ha
  · have : 10 ≤ (Si42.opens s.text.marks).length ∨ 60 ≤ s.text.marks.length := by
      unfold fits at hfit
      omega
    rw [if_pos this] at g
    exact (g.no rfl (by decide)).mono e
theorem HolderAt.sm {T : Tp K mg} {H : Hp} {h : Addr} {s : Si43.St} {X : HX} (hA : HolderAt T H h s X) : ∀ b ∈ X.F h, ∃ o, H b = some o := by
  intro b hb
  unfold HX.F at hb
  rcases List.mem_cons.mp hb with rfl | hb
  · obtain ⟨_, dx, hi⟩ := hA.hol
    exact ⟨_, hi⟩
  · rcases List.mem_cons.mp hb with rfl | hb
    · exact ⟨_, hA.wts⟩
    · rcases List.mem_cons.mp hb with rfl | hb
      · exact ⟨_, hA.mks.1⟩
      · rcases List.mem_append.mp hb with hb | hb
        · obtain ⟨vs, _, dx, hi⟩ := mark_ins hA.mks.2 hb
          exact ⟨_, hi⟩
        · obtain ⟨l, hl⟩ := hA.zsm b hb
          exact ⟨_, hl⟩
/-- what is fresh beside a holder -/
theorem HolderAt.offN {T : Tp K mg} {H H1 : Hp} {h a : Addr} {s : Si43.St} {X : HX} {o : HO} (hA : HolderAt T H h s X) (hn : H a = none) (h1 : H1 a = some o) : Off (X.F h) H1 a = some o := by
  rw [off_out (fun z => by
    obtain ⟨u, hu⟩ := hA.sm a z
    rw [hn] at hu
    cases hu)]
  exact h1
theorem HolderAt.lenT {T : Tp K mg} {H : Hp} {h : Addr} {s : Si43.St} {X : HX} (hA : HolderAt T H h s X) (hS : Sok s X.P X.own) : (X.ats.map V.ref).length = s.text.text.length := by rw [List.length_map, hA.words.1, ← hS.text, List.length_map]
theorem ev_tlen {T : Tp K mg} {H : Hp} {te : TE} {σ : L2.St} {h : Addr} {s : Si43.St} {X : HX} (hA : HolderAt T H h s X) (hS : Sok s X.P X.own) (he : Ev te σ H (.ref h)) : Ev (tCB (rLenS K) (tCons (tFld K te (Str.ofString "text")) tNil)) σ H (.int (s.text.text.length : Int)) :=
  ev_is (ev_len (ev_fl T.Holder 1 hA.hol he) (sq_of hA.textH)) (by rw [hA.lenT hS])
theorem ev_gt {σ : L2.St} {H : Hp} {ta tb : TE} {m n : Nat} (h1 : Ev ta σ H (.int (m : Int))) (h2 : Ev tb σ H (.int (n : Int))) : Ev (tOp (rI0 fun i j => V.bl (decide (j < i))) ta tb) σ H (.bl (decide (n < m))) := ev_is (ev_op h1 h2 rv_I0) (by
  show V.bl _ = V.bl _
  congr 1
  rw [Bool.eq_iff_iff]; simp)
theorem ev_notNil {σ : L2.St} {H : Hp} {te : TE} {p : Addr} {l : List Nat} (he : Ev te σ H (.ref p)) (hp : H p = some (.lst (nl l))) : Ev (tOp (rNeD K) te (tLst tNil)) σ H (.bl (!decide (l = []))) :=
  ev_opL he (el_lst ea_nil (by decide)) fun q H2 hq e2 => rv_neN (sq_of (e2 _ _ hp)) (sq_of (show H2 q = some (.lst (nl [])) from hq))
theorem askOk_change (s : Si42.St) (i j : Nat) (l : List Nat) : ((decide (i ≤ j) && decide (j ≤ s.text.length)) && (Si42.wordsOk l && (decide (l.length ≤ 20) && (decide (i < j) || !decide (l = []))))) = Si42.askOk s (.change i j l) := by
  unfold Si42.askOk
  have : (!decide (l = [])) = decide (0 < l.length) := by
    cases l <;> simp
  rw [this, Bool.and_assoc]
theorem s_unl3 {σ : L2.St} {H : Hp} {te : TE} {D : Ends} {tz : TS} {p : Addr} {a b c i j k : Nat} (he : Ev te σ H (.ref p)) (hp : H p = some (.lst (nl [a, b, c]))) (kk : ∀ H1, Ex H H1 → tz D (((σ.set i (some (.int (a : Int)))).set j (some (.int (b : Int)))).set k (some (.int (c : Int)))) H1) :
    tSeq (tAsg te (gUnl K 3 (gCons (gName i) (gCons (gName j) (gCons (gName k) gNil))))) tz D σ H := he H (Ex.refl H) _ fun H1 e1 => ⟨p, nl [a, b, c], rfl, sq_of (e1 _ _ hp), rfl, _, _, rfl, _, _, rfl, _, _, rfl, rfl, kk H1 e1⟩
def cChange : List Nat → List Nat → Option Si43.Call
  | [r, i, j], row => some (.proof (.change r i j row))
  | _, _ => none
def sp_change (T : Tp K mg) : Sp := spD T cChange
-- slots: holder 0, numbers 1, row 2, who_asks 3, i 4, j 5, mark 6
theorem ok_change (T : Tp K mg) : FnOk P w K mg base (L2.CX P w) 5 T.change.f T.change.fd P_change (sp_change T) := by
  refine T.change.F.okX sc_change (fun vs H Q E h => ?_) (fun cdv A outer s H vs Q E hr h => ⟨_, (pss_cons (ps_asg (pv 1) (pg_unl (n := 3) rfl (pgs_cons (pg_name (i := 3) sc_change.nd rfl (.inl rfl)) (pgs_cons (pg_name (i := 4) sc_change.nd rfl (.inl rfl)) (pgs_cons (pg_name (i := 5) sc_change.nd rfl (.inl rfl)) pgs_nil)))))
    (pss_cons (ps_expr (pe_call (ok_ask T) (hr.mono (by decide)) rfl T.ask.g T.ask.F.kp T.ask.b .nil (passes_call (takes_of rfl rfl rfl rfl) (fun _ _ _ _ h => h)) (pa_cons (pe_cmpR op_lt (pv 3) (pe_callB call_len_seq rfl T.nlen PySem.boot_len (pa_cons (pe_fld (pv 0) rfl) pa_nil)) (nomark _)) (pa_cons (pe_un un_neg pe_int) pa_nil))))
    (pss_cons (ps_expr (pe_call (ok_ask T) (hr.mono (by decide)) rfl T.ask.g T.ask.F.kp T.ask.b .nil (passes_call (takes_of rfl rfl rfl rfl) (fun _ _ _ _ h => h)) (pa_cons (pe_and (pe_chain op_le op_le (pv 4) (pv 5) (pe_callB call_len_seq rfl T.nlen PySem.boot_len (pa_cons (pe_fld (pv 0) rfl) pa_nil))) (pe_and (pe_call (ok_are_words T) (hr.mono (by decide)) rfl T.are_words.g T.are_words.F.kp T.are_words.b .nil pass0 (pa_cons (pv 2) pa_nil)) (pe_and (pe_cmpR op_le (pe_callB call_len_seq rfl T.nlen PySem.boot_len (pa_cons (pv 2) pa_nil)) (pe_glob (v := .int 20) rfl T.kMOST_PUT ⟨_, rfl⟩) (nomark _)) (pe_one (pe_or (pe_cmpR op_lt (pv 4) (pv 5) (nomark _)) (pe_one (pe_cmpR (op_neD hr.units) (pv 2) (pe_lst pa_nil) (nomark _)))))))) (pa_cons (pe_un un_neg pe_int) pa_nil))))
    (pss_cons (ps_set (i := 6) sc_change.nd rfl (.inl rfl) (pe_make T.Mark.mkd (ok_Mark_init T) (hr.mono (by decide)) rfl T.Mark.g T.Mark.b .nil pass0 (pa_cons (pe_glob (v := .int 0) rfl T.kCHANGE ⟨_, rfl⟩) (pa_cons (pv 3) (pa_cons (pv 4) (pa_cons (pv 5) pa_nil))))))
    (pss_cons (ps_fld (pv 6) (pe_callTy call_list_of rfl T.nlist (by decide +kernel) (pa_cons (pv 2) pa_nil)) rfl)
    (pss_one (ps_ret (pe_call (ok_put_mark T) (hr.mono (by decide)) rfl T.put_mark.g T.put_mark.F.kp T.put_mark.b .nil (passes_call (takes_of rfl rfl rfl rfl) (fun _ _ _ _ h => h)) (pa_cons (pv 0) (pa_cons (pv 6) pa_nil)))))))))), ?_⟩)
  · obtain ⟨h, na, ra, ns, row, s, X, c, rfl, _⟩ := h
    rfl
  · obtain ⟨hh, na, ra, ns, row, st, X, c, rfl, hA, hS, hN, hR, hrl, hc, g⟩ := h
    match ns, hc with
    | [r, i, j], hc =>
    cases hc
    rw [step_change] at g
    have hNH := off_le _ _ _ _ hN
    have hRH := off_le _ _ _ _ hR
    refine s_unl3 (ev_var rfl) hNH fun H0 e0 => ?_
    have hA0 := hA.ex e0
    refine q_asks (b := decide (r < st.text.readers.length)) (ea_ask (ev_lt (ev_var rfl) (ev_lenN' (ev_fl T.Holder 3 hA0.hol (ev_var rfl)) hA0.wts)) ev_neg) (fun hb H1 e1 => ?_) (fun hb => ?_)
    · have hr := of_decide_eq_true hb
      have e01 := e0.trans e1
      have hA1 := hA.ex e01
      have hR1 := e01 _ _ hRH
      refine q_asks (b := Si42.askOk st.text (.change i j row)) (ea_ask (ev_is (ev_andV (ev_chain (ev_var rfl) (ev_var rfl) rv_le (fun _ => ev_tlen hA1 hS (ev_var rfl)) (fun _ => rv_le))
        (fun _ => ev_andV (ev_callV (v := .bl (Si42.wordsOk row)) (ea_cons (ev_var rfl) ea_nil) fun H2 e2 => ⟨ra, row, rfl, e2 _ _ hR1, by omega, rfl⟩) (fun _ => ev_andV (ev_le (ev_lenN' (ev_var rfl) hR1) (ev_c : Ev (tC (.int ((20 : Nat) : Int))) _ _ _))
          (fun _ => ev_orV (ev_lt (ev_var rfl) (ev_var rfl)) (fun _ => ev_notNil (ev_var rfl) hR1))))) ?_) ev_neg) (fun hb2 H2 e2 => ?_) (fun hb2 => ?_)
      · show V.bl _ = V.bl _
        rw [askOk_change]
      · have e02 := e01.trans e2
        have hA2 := hA.ex e02
        refine q_asgR (er_makeN (ea_cons ev_c (ea_cons (ev_var rfl) (ea_cons (ev_var rfl) (ea_cons (ev_var rfl) ea_nil)))) rfl) fun a H3 na3 e3 hm => ?_
        obtain ⟨Hm, em, aw0, kd, r', i', j', hx, n0, hne, haw, hmi⟩ := hm
        cases hx
        have e03 := e02.trans e3
        have aN : H a = none := ex_none e02 na3
        refine q_flK T.Mark 5 hmi (fun H4 e => ev_var rfl) (EvR.toP (evl_r (ev_listOf (ev_var rfl) (sq_of (e03 _ _ hRH))))) fun y H4 G e4 hy k4 hi => ?_
        obtain ⟨aw, rfl, nw, hw⟩ := hy
        have awA : aw ≠ a := by
          obtain ⟨_, dx, hh⟩ := hmi
          exact ne_some nw hh
        have eG : Ex H G := fun b o hb => k4 _ _ ((e03.trans e4) b o hb) fun z => by rw [z, aN] at hb; cases hb
        refine s_retCall (ea_cons (ev_var rfl) (ea_cons (ev_var rfl) ea_nil)) fun H5 e5 => put_go (r := r) (q := .change i j row) hA hS (eG.trans e5) aN ⟨aw, 0, hi.ex e5, hA.offN (ex_none e03 nw) (e5 _ _ (k4 _ _ hw awA))⟩ hr hb2 hA.sm g
      · have : (markedS st r (.change i j row)) = (st, Si43.ok (-1)) := by
          unfold markedS
          rw [if_neg (by omega), if_pos hb2]
        exact (g.no this (by decide)).mono e01
    · have hr := of_decide_eq_false hb
      have : (markedS st r (.change i j row)) = (st, Si43.ok (-2)) := if_pos (by omega)
      exact (g.no this (by decide)).mono e0
def cKeep : List Nat → List Nat → Option Si43.Call
  | [r, i, j], _ => some (.proof (.keep r i j))
  | _, _ => none
def sp_keep (T : Tp K mg) : Sp := spD T cKeep
-- slots: holder 0, numbers 1, row 2, who_asks 3, i 4, j 5
theorem ok_keep (T : Tp K mg) : FnOk P w K mg base (L2.CX P w) 5 T.keep.f T.keep.fd P_keep (sp_keep T) := by
  refine T.keep.F.okX sc_keep (fun vs H Q E h => ?_) (fun cdv A outer s H vs Q E hr h => ⟨_, (pss_cons (ps_asg (pv 1) (pg_unl (n := 3) rfl (pgs_cons (pg_name (i := 3) sc_keep.nd rfl (.inl rfl)) (pgs_cons (pg_name (i := 4) sc_keep.nd rfl (.inl rfl)) (pgs_cons (pg_name (i := 5) sc_keep.nd rfl (.inl rfl)) pgs_nil)))))
    (pss_cons (ps_expr (pe_call (ok_ask T) (hr.mono (by decide)) rfl T.ask.g T.ask.F.kp T.ask.b .nil (passes_call (takes_of rfl rfl rfl rfl) (fun _ _ _ _ h => h)) (pa_cons (pe_cmpR op_lt (pv 3) (pe_callB call_len_seq rfl T.nlen PySem.boot_len (pa_cons (pe_fld (pv 0) rfl) pa_nil)) (nomark _)) (pa_cons (pe_un un_neg pe_int) pa_nil))))
    (pss_cons (ps_expr (pe_call (ok_ask T) (hr.mono (by decide)) rfl T.ask.g T.ask.F.kp T.ask.b .nil (passes_call (takes_of rfl rfl rfl rfl) (fun _ _ _ _ h => h)) (pa_cons (pe_chain op_lt op_le (pv 4) (pv 5) (pe_callB call_len_seq rfl T.nlen PySem.boot_len (pa_cons (pe_fld (pv 0) rfl) pa_nil))) (pa_cons (pe_un un_neg pe_int) pa_nil))))
    (pss_one (ps_ret (pe_call (ok_put_mark T) (hr.mono (by decide)) rfl T.put_mark.g T.put_mark.F.kp T.put_mark.b .nil (passes_call (takes_of rfl rfl rfl rfl) (fun _ _ _ _ h => h)) (pa_cons (pv 0) (pa_cons (pe_make T.Mark.mkd (ok_Mark_init T) (hr.mono (by decide)) rfl T.Mark.g T.Mark.b .nil pass0 (pa_cons (pe_glob (v := .int 1) rfl T.kKEEP ⟨_, rfl⟩) (pa_cons (pv 3) (pa_cons (pv 4) (pa_cons (pv 5) pa_nil))))) pa_nil)))))))), ?_⟩)
  · obtain ⟨h, na, ra, ns, row, s, X, c, rfl, _⟩ := h
    rfl
  · obtain ⟨hh, na, ra, ns, row, st, X, c, rfl, hA, hS, hN, hR, hrl, hc, g⟩ := h
    match ns, hc with
    | [r, i, j], hc =>
    cases hc
    rw [step_keep] at g
    have hNH := off_le _ _ _ _ hN
    refine s_unl3 (ev_var rfl) hNH fun H0 e0 => ?_
    have hA0 := hA.ex e0
    refine q_asks (b := decide (r < st.text.readers.length)) (ea_ask (ev_lt (ev_var rfl) (ev_lenN' (ev_fl T.Holder 3 hA0.hol (ev_var rfl)) hA0.wts)) ev_neg) (fun hb H1 e1 => ?_) (fun hb => ?_)
    · have hr := of_decide_eq_true hb
      have e01 := e0.trans e1
      have hA1 := hA.ex e01
      refine q_asks (b := Si42.askOk st.text (.keep i j)) (ea_ask (ev_chain (ev_var rfl) (ev_var rfl) rv_lt (fun _ => ev_tlen hA1 hS (ev_var rfl)) (fun _ => rv_le)) ev_neg) (fun hb2 H2 e2 => ?_) (fun hb2 => ?_)
      · have e02 := e01.trans e2
        refine s_retCallP (eap_v (ev_var rfl) (eap_cons (EvR.toP (er_makeN (ea_cons ev_c (ea_cons (ev_var rfl) (ea_cons (ev_var rfl) (ea_cons (ev_var rfl) ea_nil)))) rfl)) (fun v H1 e p => eap_nil))) fun vs H3 e3 hv => ?_
        obtain ⟨l, rfl, v, l2, H4, rfl, e4, ⟨a, rfl, na3, hm⟩, e43, rfl⟩ := hv
        obtain ⟨Hm, em, aw0, kd, r', i', j', hx, n0, hne, haw, hmi⟩ := hm
        cases hx
        have e24 := e02.trans e4
        have aN : H a = none := ex_none e02 na3
        exact put_go (r := r) (q := .keep i j) hA hS (e24.trans e43) aN ⟨aw0, 0, hmi.ex e43, hA.offN (ex_none (e02.trans em) n0) (e43 _ _ haw)⟩ hr hb2 hA.sm g
      · have : (markedS st r (.keep i j)) = (st, Si43.ok (-1)) := by
          unfold markedS
          rw [if_neg (by omega), if_pos hb2]
        exact (g.no this (by decide)).mono e01
    · have hr := of_decide_eq_false hb
      have : (markedS st r (.keep i j)) = (st, Si43.ok (-2)) := if_pos (by omega)
      exact (g.no this (by decide)).mono e0
theorem s_unl4 {σ : L2.St} {H : Hp} {te : TE} {D : Ends} {tz : TS} {p : Addr} {a b c d i j k l : Nat} (he : Ev te σ H (.ref p)) (hp : H p = some (.lst (nl [a, b, c, d]))) (kk : ∀ H1, Ex H H1 → tz D ((((σ.set i (some (.int (a : Int)))).set j (some (.int (b : Int)))).set k (some (.int (c : Int)))).set l (some (.int (d : Int)))) H1) :
    tSeq (tAsg te (gUnl K 4 (gCons (gName i) (gCons (gName j) (gCons (gName k) (gCons (gName l) gNil)))))) tz D σ H := he H (Ex.refl H) _ fun H1 e1 => ⟨p, nl [a, b, c, d], rfl, sq_of (e1 _ _ hp), rfl, _, _, rfl, _, _, rfl, _, _, rfl, _, _, rfl, rfl, kk H1 e1⟩
def cMove : List Nat → List Nat → Option Si43.Call
  | [r, i, j, k], _ => some (.proof (.move r i j k))
  | _, _ => none
def sp_move (T : Tp K mg) : Sp := spD T cMove
-- slots: holder 0, numbers 1, row 2, who_asks 3, i 4, j 5, k 6, mark 7
theorem ok_move (T : Tp K mg) : FnOk P w K mg base (L2.CX P w) 5 T.move.f T.move.fd P_move (sp_move T) := by
  refine T.move.F.okX sc_move (fun vs H Q E h => ?_) (fun cdv A outer s H vs Q E hr h => ⟨_, (pss_cons (ps_asg (pv 1) (pg_unl (n := 4) rfl (pgs_cons (pg_name (i := 3) sc_move.nd rfl (.inl rfl)) (pgs_cons (pg_name (i := 4) sc_move.nd rfl (.inl rfl)) (pgs_cons (pg_name (i := 5) sc_move.nd rfl (.inl rfl)) (pgs_cons (pg_name (i := 6) sc_move.nd rfl (.inl rfl)) pgs_nil))))))
    (pss_cons (ps_expr (pe_call (ok_ask T) (hr.mono (by decide)) rfl T.ask.g T.ask.F.kp T.ask.b .nil (passes_call (takes_of rfl rfl rfl rfl) (fun _ _ _ _ h => h)) (pa_cons (pe_cmpR op_lt (pv 3) (pe_callB call_len_seq rfl T.nlen PySem.boot_len (pa_cons (pe_fld (pv 0) rfl) pa_nil)) (nomark _)) (pa_cons (pe_un un_neg pe_int) pa_nil))))
    (pss_cons (ps_expr (pe_call (ok_ask T) (hr.mono (by decide)) rfl T.ask.g T.ask.F.kp T.ask.b .nil (passes_call (takes_of rfl rfl rfl rfl) (fun _ _ _ _ h => h)) (pa_cons (pe_and (pe_chain op_lt op_le (pv 4) (pv 5) (pe_callB call_len_seq rfl T.nlen PySem.boot_len (pa_cons (pe_fld (pv 0) rfl) pa_nil))) (pe_and (pe_cmpR op_le (pv 6) (pe_callB call_len_seq rfl T.nlen PySem.boot_len (pa_cons (pe_fld (pv 0) rfl) pa_nil)) (nomark _)) (pe_one (pe_or (pe_cmpR op_lt (pv 6) (pv 4) (nomark _)) (pe_one (pe_cmpR op_gt (pv 6) (pv 5) (nomark _))))))) (pa_cons (pe_un un_neg pe_int) pa_nil))))
    (pss_cons (ps_set (i := 7) sc_move.nd rfl (.inl rfl) (pe_make T.Mark.mkd (ok_Mark_init T) (hr.mono (by decide)) rfl T.Mark.g T.Mark.b .nil pass0 (pa_cons (pe_glob (v := .int 2) rfl T.kMOVE ⟨_, rfl⟩) (pa_cons (pv 3) (pa_cons (pv 4) (pa_cons (pv 5) pa_nil))))))
    (pss_cons (ps_fld (pv 7) (pv 6) rfl)
    (pss_one (ps_ret (pe_call (ok_put_mark T) (hr.mono (by decide)) rfl T.put_mark.g T.put_mark.F.kp T.put_mark.b .nil (passes_call (takes_of rfl rfl rfl rfl) (fun _ _ _ _ h => h)) (pa_cons (pv 0) (pa_cons (pv 7) pa_nil)))))))))), ?_⟩)
  · obtain ⟨h, na, ra, ns, row, s, X, c, rfl, _⟩ := h
    rfl
  · obtain ⟨hh, na, ra, ns, row, st, X, c, rfl, hA, hS, hN, hR, hrl, hc, g⟩ := h
    match ns, hc with
    | [r, i, j, kk], hc =>
    cases hc
    rw [step_move] at g
    have hNH := off_le _ _ _ _ hN
    refine s_unl4 (ev_var rfl) hNH fun H0 e0 => ?_
    have hA0 := hA.ex e0
    refine q_asks (b := decide (r < st.text.readers.length)) (ea_ask (ev_lt (ev_var rfl) (ev_lenN' (ev_fl T.Holder 3 hA0.hol (ev_var rfl)) hA0.wts)) ev_neg) (fun hb H1 e1 => ?_) (fun hb => ?_)
    · have hr := of_decide_eq_true hb
      have e01 := e0.trans e1
      have hA1 := hA.ex e01
      refine q_asks (b := Si42.askOk st.text (.move i j kk)) (ea_ask (ev_is (ev_andV (ev_chain (ev_var rfl) (ev_var rfl) rv_lt (fun _ => ev_tlen hA1 hS (ev_var rfl)) (fun _ => rv_le))
        (fun _ => ev_andV (ev_le (ev_var rfl) (ev_tlen hA1 hS (ev_var rfl))) (fun _ => ev_orV (ev_lt (ev_var rfl) (ev_var rfl)) (fun _ => ev_gt (ev_var rfl) (ev_var rfl))))) ?_) ev_neg) (fun hb2 H2 e2 => ?_) (fun hb2 => ?_)
      · show V.bl _ = V.bl _
        unfold Si42.askOk
        rw [Bool.and_assoc]
      · have e02 := e01.trans e2
        refine q_asgR (er_makeN (ea_cons ev_c (ea_cons (ev_var rfl) (ea_cons (ev_var rfl) (ea_cons (ev_var rfl) ea_nil)))) rfl) fun a H3 na3 e3 hm => ?_
        obtain ⟨Hm, em, aw0, kd, r', i', j', hx, n0, hne, haw, hmi⟩ := hm
        cases hx
        have e03 := e02.trans e3
        have aN : H a = none := ex_none e02 na3
        refine q_flK T.Mark 4 hmi (fun H4 e => ev_var rfl) (ev_p (ev_var rfl)) fun y H4 G e4 hy k4 hi => ?_
        subst hy
        have eG : Ex H G := fun b o hb => k4 _ _ ((e03.trans e4) b o hb) fun z => by rw [z, aN] at hb; cases hb
        refine s_retCall (ea_cons (ev_var rfl) (ea_cons (ev_var rfl) ea_nil)) fun H5 e5 => put_go (r := r) (q := .move i j kk) hA hS (eG.trans e5) aN ⟨aw0, 0, hi.ex e5, hA.offN (ex_none (e02.trans em) n0) (e5 _ _ (k4 _ _ (e4 _ _ haw) hne))⟩ hr hb2 hA.sm g
      · have : (markedS st r (.move i j kk)) = (st, Si43.ok (-1)) := by
          unfold markedS
          rw [if_neg (by omega), if_pos hb2]
        exact (g.no this (by decide)).mono e01
    · have hr := of_decide_eq_false hb
      have : (markedS st r (.move i j kk)) = (st, Si43.ok (-2)) := if_pos (by omega)
      exact (g.no this (by decide)).mono e0
end
end Pf

end
section
set_option Elab.async false
set_option linter.all false
set_option maxRecDepth 100000
set_option maxHeartbeats 4000000
/-! A mark withdrawn; what is told. -/
namespace Pf
open PySem PySem.Spec PyProof.Rows L2 Evl
section
variable {K : PySem.W.Frag} {σ : L2.St} {H : Hp} {te ta tb : TE}
theorem el_listT {p : Addr} {xs : List V} (h : Ev te σ H (.ref p)) (hp : H p = some (.tup xs)) : EvL (tCB (rListS K) (tCons te tNil)) σ H xs := fun H1 e Q q =>
  ea_cons h ea_nil H1 e _ fun H2 e2 => ⟨p, xs, rfl, Or.inr (st_of ((e.trans e2) _ _ hp)), fun l hl => q l _ (ex_none e2 hl) (e2.trans (Ex.new hl)) upd_same⟩
theorem nl_ints (v : Nat) (l : List Nat) : ((v : Int) :: Si42.ints l).map V.int = nl (v :: l) := by
  unfold nl Si42.ints
  simp
end
section
variable {P : Program} {w : World} {K : PySem.W.Frag} {mg : Str → Option Value} {base : Heap}
def cWithdraw : List Nat → List Nat → Option Si43.Call
  | [m], _ => some (.proof (.withdraw m))
  | _, _ => none
def sp_withdraw (T : Tp K mg) : Sp := spD T cWithdraw
-- slots: holder 0, numbers 1, row 2
theorem ok_withdraw (T : Tp K mg) : FnOk P w K mg base (L2.CX P w) 4 T.withdraw.f T.withdraw.fd P_withdraw (sp_withdraw T) := by
  refine T.withdraw.F.okX sc_withdraw (fun vs H Q E h => ?_) (fun cdv A outer s H vs Q E hr h => ⟨_, (pss_cons (ps_expr (pe_call (ok_ask T) (hr.mono (by decide)) rfl T.ask.g T.ask.F.kp T.ask.b .nil (passes_call (takes_of rfl rfl rfl rfl) (fun _ _ _ _ h => h)) (pa_cons (pe_cmpR op_lt (pe_ix ix_list (pv 1) pe_int (fun _ _ => rfl)) (pe_callB call_len_seq rfl T.nlen PySem.boot_len (pa_cons (pe_fld (pv 0) rfl) pa_nil)) (nomark _)) (pa_cons (pe_un un_neg pe_int) pa_nil))))
    (pss_cons (ps_expr (pe_call (ok_ask T) (hr.mono (by decide)) rfl T.ask.g T.ask.F.kp T.ask.b .nil (passes_call (takes_of rfl rfl rfl rfl) (fun _ _ _ _ h => h)) (pa_cons (pe_cmpR op_eq (pe_fld (pe_ix ix_list (pe_fld (pv 0) rfl) (pe_ix ix_list (pv 1) pe_int (fun _ _ => rfl)) (fun _ _ => rfl)) rfl) (pe_glob (v := .int 0) rfl T.kOPEN ⟨_, rfl⟩) (nomark _)) (pa_cons (pe_un un_neg pe_int) pa_nil))))
    (pss_cons (ps_fld (pe_ix ix_list (pe_fld (pv 0) rfl) (pe_ix ix_list (pv 1) pe_int (fun _ _ => rfl)) (fun _ _ => rfl)) (pe_glob (v := .int 3) rfl T.kWITHDRAWN ⟨_, rfl⟩) rfl)
    (pss_one (ps_ret (pe_lst (pa_cons pe_int pa_nil))))))), ?_⟩)
  · obtain ⟨h, na, ra, ns, row, s, X, c, rfl, _⟩ := h
    rfl
  · obtain ⟨hh, na, ra, ns, row, st, X, c, rfl, hA, hS, hN, hR, hrl, hc, g⟩ := h
    match ns, hc with
    | [m], hc =>
    cases hc
    rw [step_withdraw] at g
    have hNH := off_le _ _ _ _ hN
    have hml : X.as.length = st.text.marks.length := hA.mks.2.1
    have n0 : ∀ {H' : Hp} {σ : L2.St} {te : TE}, Ex H H' → Ev te σ H' (.ref na) → Ev (tOp (rIxL K) te (tC (.int 0))) σ H' (.int (m : Int)) := fun e h => ev_at (n := 0) h ev_c (sq_of (e _ _ hNH)) rfl
    refine q_asks (b := decide (m < st.text.marks.length)) (ea_ask (ev_lt (n0 (Ex.refl H) (ev_var rfl)) (ev_is (ev_len (ev_fl T.Holder 4 hA.hol (ev_var rfl)) (sq_of hA.mks.1)) (by rw [List.length_map, hml]))) ev_neg) (fun hb H1 e1 => ?_) (fun hb => ?_)
    · have hb := of_decide_eq_true hb
      have hm : st.text.marks[m]? = some (st.text.marks[m]'hb) := by simp [hb]
      generalize st.text.marks[m]'hb = x at hm
      rw [hm] at g
      dsimp only at g
      obtain ⟨a, ha, hma⟩ := hA.mks.2.get hm
      have hA1 := hA.ex e1
      have haA := List.mem_of_getElem? ha
      have obj : ∀ {H' : Hp} {σ : L2.St}, Ex H H' → Ev (tVar 0) σ H' (.ref hh) → Ev (tVar 1) σ H' (.ref na) → Ev (tOp (rIxL K) (tFld K (tVar 0) (Str.ofString "marks")) (tOp (rIxL K) (tVar 1) (tC (.int 0)))) σ H' (.ref a) := fun e h1 h2 =>
        ev_at (ev_fl T.Holder 4 (hA.ex e).hol h1) (n0 e h2) (sq_of (e _ _ hA.mks.1)) (by rw [List.getElem?_map, ha]; rfl)
      obtain ⟨vs, o, s6, _⟩ := mark_st hma
      refine q_asks (b := (askOf x).isSome) (ea_ask (ev_is (ev_op (ev_fl T.Mark 6 (o.ex e1) (obj e1 (ev_var rfl) (ev_var rfl)) s6) ev_c (rv_eq rfl)) ?_) ev_neg) (fun hb2 H2 e2 => ?_) (fun hb2 => ?_)
      · show V.bl _ = V.bl _
        congr 1
        rw [dI', Bool.eq_iff_iff, decide_eq_true_eq]
        show ((stN x : Int) = 0) ↔ (askOf x).isSome = true
        rw [← stN_open]
        omega
      · rw [if_pos hb2] at g
        have e12 := e1.trans e2
        have hA2 := hA.ex e12
        obtain ⟨q, hq⟩ := Option.isSome_iff_exists.mp hb2
        have ho : OpenAt T H2 (Off (X.F hh) H2) a x.reader q := mark_open (hma.ex e12 (off_ex e12)) hq
        obtain ⟨aw, pr, hi, _⟩ := ho
        obtain ⟨d1, d2, d3, d4, d5, d6, d7⟩ := hA.hN
        refine q_flK T.Mark 6 hi (fun H3 e3 => obj (e12.trans e3) (ev_var rfl) (ev_var rfl)) (ev_p ev_c) fun y H3 G e3 hy kk hg => ?_
        subst hy
        have e13 := e12.trans e3
        have hA3 := hA.ex e13
        have oF : Ex (Off (X.F hh) H3) (Off (X.F hh) G) := kk.off (X.aF hh haA)
        have ah : hh ≠ a := fun z => d3 (z ▸ haA)
        have aw' : X.wa ≠ a := fun z => d5 (z ▸ haA)
        have am : X.ma ≠ a := fun z => d6 (z ▸ haA)
        refine s_retL (el_lst (ea_cons ev_c ea_nil) (by show 1 ≤ 100000; decide)) fun p H4 n4 e4 h4 => ?_
        have oF4 := oF.trans (off_ex e4)
        have zk : Zk X H H4 := (Zk.of e13).trans ((Zk.keep (hA.hZ.2.2.2.1 a haA) kk).trans (Zk.of e4))
        refine (g.of rfl (by decide)) H4 p X ((off_ex e13).trans oF4) (fun b hb => Or.inl hb) rfl zk ?_ (sok_withdraw hS hm) (((Zk.of e13).trans (Zk.keep (hA.hZ.2.2.2.1 a haA) kk)).nz hA.zsm n4) (by rw [h4]; rfl)
        refine ⟨hA3.nd, (hA3.hol.keep kk ah).ex e4, oF4 _ _ hA3.first, oF4 _ _ hA3.text, hA3.words.mono fun _ _ k => k.ex oF4, e4 _ _ (kk _ _ hA3.wts aw'), ⟨e4 _ _ (kk _ _ hA3.mks.1 am), ?_⟩, oF4 _ _ hA3.gon, hA3.gons.mono fun _ _ k => k.ex oF4, hA3.set.ex oF4, hA3.cost.ex oF4, hA3.eqG, hA3.byG, zk.sm hA.zsm⟩
        refine ⟨by show X.as.length = (st.text.marks.set m _).length; rw [List.length_set]; exact hml, fun i b m' h1 h2 => ?_⟩
        have h2' : (st.text.marks.set m { x with stand := .withdrawn })[i]? = some m' := h2
        rw [List.getElem?_set] at h2'
        by_cases c : m = i
        · subst c
          rw [if_pos rfl, if_pos (by omega)] at h2'
          cases h2'
          rw [ha] at h1
          cases h1
          exact ⟨_, _, _, _, _, _, hg.ex e4⟩
        · rw [if_neg c] at h2'
          have hne : b ≠ a := fun z => c (by subst z; exact nd_ix d7 ha h1)
          exact (MarkAt.keep (hA3.mks.2.2 i b m' h1 h2') kk hne).ex e4 oF4
      · rw [if_neg (by rw [hb2]; decide)] at g
        exact (g.no rfl (by decide)).mono e1
    · have hb := of_decide_eq_false hb
      have : st.text.marks[m]? = none := by simp; omega
      rw [this] at g
      exact g.no rfl (by decide)
theorem step_clashes (s : Si43.St) : Si43.step s (.proof .clashes) = (s, ⟨((prs (Si42.opens s.text.marks)).length : Int), (prs (Si42.opens s.text.marks)).flatMap fun p => Si42.ints [p.1, p.2]⟩) := by
  have e := prs_eq (Si42.opens s.text.marks) [] (opens_pw _)
  rw [List.nil_append] at e
  refine proof_yes (t := s.text) (by simp) ?_ (by omega)
  simp only [Si42.step]
  rw [e]
def cClashes : List Nat → List Nat → Option Si43.Call
  | [], _ => some (.proof .clashes)
  | _, _ => none
def sp_clashes (T : Tp K mg) : Sp := spD T cClashes
theorem prs_len (o : List (Nat × Si42.Ask)) : (prs o).length ≤ o.length * o.length := by
  induction o with
  | nil => simp [prs]
  | cons x r ih =>
    rw [prs_cons, List.length_append, List.length_cons]
    have := rowP_len x r
    have h2 : (r.length + 1) * (r.length + 1) = r.length * r.length + 2 * r.length + 1 := by
      rw [Nat.mul_add, Nat.add_mul]
      omega
    omega
-- slots: holder 0, numbers 1, row 2, pairs 3, found 4, pair 5
theorem ok_clashes (T : Tp K mg) : FnOk P w K mg base (L2.CX P w) 4 T.clashes.f T.clashes.fd P_clashes (sp_clashes T) := by
  refine T.clashes.F.okX sc_clashes (fun vs H Q E h => ?_) (fun cdv A outer s H vs Q E hr h => ⟨_, (pss_cons (ps_set (i := 3) sc_clashes.nd rfl (.inl rfl) (pe_call (ok_clashing T) (hr.mono (by decide)) rfl T.clashing.g T.clashing.F.kp T.clashing.b .nil pass0 (pa_cons (pe_fld (pv 0) rfl) pa_nil)))
    (pss_cons (ps_set (i := 4) sc_clashes.nd rfl (.inl rfl) (pe_lst (pa_cons (pe_callB call_len_seq rfl T.nlen PySem.boot_len (pa_cons (pv 3) pa_nil)) pa_nil)))
    (pss_cons (ps_for (passes_of rfl) rfl (pi_list (pv 3)) (pg_name (i := 5) sc_clashes.nd rfl (.inl rfl)) (pss_one (ps_expr (pe_bm PySem.F.plainAttrs_list PySem.F.slot_list_extend PySem.F.type_list_extend mt_extend (pv 4) (pa_cons (pe_callTy call_list_of rfl T.nlist (by decide +kernel) (pa_cons (pv 5) pa_nil)) pa_nil)))))
    (pss_one (ps_ret (pv 4)))))), ?_⟩)
  · obtain ⟨h, na, ra, ns, row, s, X, c, rfl, _⟩ := h
    rfl
  · obtain ⟨hh, na, ra, ns, row, st, X, c, rfl, hA, hS, hN, hR, hrl, hc, g⟩ := h
    match ns, hc with
    | [], hc =>
    cases hc
    rw [step_clashes] at g
    refine q_asgR (er_callR (ea_cons (ev_fl T.Holder 4 hA.hol (ev_var rfl)) ea_nil) fun H1 e1 => ⟨X.ma, X.as, st.text.marks, X.P.length, rfl, hA.mksH.ex e1 e1, hS.ml, hS.wf, rfl⟩) fun pa H1 n1 e1 h1 => ?_
    obtain ⟨ts, ht, hts⟩ := h1
    have hpl : (prs (Si42.opens st.text.marks)).length ≤ 100 := by
      have h1 := prs_len (Si42.opens st.text.marks)
      have h2 := hS.ol
      have h3 : (Si42.opens st.text.marks).length * (Si42.opens st.text.marks).length ≤ 10 * 10 := Nat.mul_le_mul h2 h2
      omega
    have hg := g.same hA hS rfl (by omega)
    generalize prs (Si42.opens st.text.marks) = l at hts hg hpl
    refine q_asgL (el_lst (ea_cons (ev_is (ev_len (ev_var rfl) (sq_of ht)) (by rw [List.length_map, hts.1])) ea_nil) (by show 1 ≤ 100000; decide)) fun fd H2 n2 e2 h2 => ?_
    have e02 := e1.trans e2
    refine q_forLn (ev_var rfl) (sq_of (e2 _ _ ht)) (fun i σ' H' => Ex H1 (Off [fd] H') ∧ (∃ u, σ' = [some (.ref hh), some (.ref na), some (.ref ra), some (.ref pa), some (.ref fd), u]) ∧
      H' fd = some (.lst (((l.length : Int) :: (l.take i).flatMap fun p => Si42.ints [p.1, p.2]).map V.int))) ?h0 ?hl ?hs ?hd
    case h0 => exact fun H3 e3 => ⟨off_of (e2.trans e3) (by simp [n2]), ⟨_, rfl⟩, by rw [e3 _ _ h2]; rfl⟩
    case hl => exact fun i σ' H' _ h => sq_of ((h.1.trans (off_le _ _)) _ _ ht)
    case hd =>
      rintro σ' H' ⟨p1, ⟨u, rfl⟩, p2⟩
      rw [List.length_map, hts.1, List.take_length] at p2
      exact s_ret (ev_var rfl) fun H3 e3 => hg H3 fd (ex_none e1 n2) ((e1.trans (p1.trans (off_le _ _))).trans e3) (e3 _ _ p2)
    case hs =>
      rintro i v σ' H' hv ⟨p1, ⟨u, rfl⟩, p2⟩
      rw [List.getElem?_map] at hv
      cases ht' : ts[i]? with
      | none => rw [ht'] at hv; cases hv
      | some t =>
        rw [ht'] at hv
        cases hv
        obtain ⟨x, hx, hpx⟩ := hts.getL ht'
        have hil := (List.getElem?_eq_some_iff.mp hx).1
        have hpx' : H' t = some (.tup [.int (x.1 : Int), .int (x.2 : Int)]) := (p1.trans (off_le _ _)) _ _ hpx
        have fl : ∀ (n : Nat), ((l.take n).flatMap fun p => Si42.ints [p.1, p.2]).length ≤ 2 * n := fun n => by
          rw [List.length_flatMap]
          have : ((l.take n).map fun p : Nat × Nat => (Si42.ints [p.1, p.2]).length) = List.replicate (l.take n).length 2 := by
            rw [List.eq_replicate_iff]
            exact ⟨by simp, fun b hb => by
              obtain ⟨y, _, rfl⟩ := List.mem_map.mp hb
              rfl⟩
          rw [this, List.sum_replicate_nat, List.length_take]
          omega
        refine s_ext p2 (ev_var rfl) (evl_r (el_listT (ev_var rfl) hpx')) fun q H3 n3 e3 h3 => ⟨_, h3, ?_, ?_⟩
        · rw [List.length_map, List.length_cons]
          have := fl i
          simp only [List.length_cons, List.length_nil]
          omega
        · refine ⟨?_, ⟨_, rfl⟩, ?_⟩
          · rw [off_upd (by simp)]
            exact p1.trans (off_ex e3)
          · rw [upd_same, take_next hx, List.flatMap_append]
            simp [Si42.ints]
theorem step_shown (s : Si43.St) : Si43.step s (.proof .shown) = (s, ⟨(s.text.text.length : Int), Si42.ints (s.text.text.map fun x => x.word)⟩) := proof_yes (t := s.text) (by simp) rfl (by omega)
def cShown : List Nat → List Nat → Option Si43.Call
  | [], _ => some (.proof .shown)
  | _, _ => none
def sp_shown (T : Tp K mg) : Sp := spD T cShown
theorem wordsQ {s : Si43.St} {P : Tx} {own : Nat} (h : Sok s P own) : (P.map fun x => x.1.word) = s.text.text.map fun x => x.word := by
  rw [← h.text, List.map_map]
  rfl
-- slots: holder 0, numbers 1, row 2
theorem ok_shown (T : Tp K mg) : FnOk P w K mg base (L2.CX P w) 2 T.shown.f T.shown.fd P_shown (sp_shown T) := by
  refine T.shown.F.okX sc_shown (fun vs H Q E h => ?_) (fun cdv A outer s H vs Q E hr h => ⟨_, (pss_one (ps_ret (pe_op op_cat (pe_lst (pa_cons (pe_callB call_len_seq rfl T.nlen PySem.boot_len (pa_cons (pe_fld (pv 0) rfl) pa_nil)) pa_nil)) (pe_call (ok_told T) (hr.mono (by decide)) rfl T.told.g T.told.F.kp T.told.b .nil pass0 (pa_cons (pe_fld (pv 0) rfl) pa_nil))))), ?_⟩)
  · obtain ⟨h, na, ra, ns, row, s, X, c, rfl, _⟩ := h
    rfl
  · obtain ⟨hh, na, ra, ns, row, st, X, c, rfl, hA, hS, hN, hR, hrl, hc, g⟩ := h
    match ns, hc with
    | [], hc =>
    cases hc
    rw [step_shown] at g
    have hg := g.same hA hS rfl (by omega)
    refine s_retL (el_cat (els_l (el_lst (ea_cons (ev_tlen hA hS (ev_var rfl)) ea_nil) (by show 1 ≤ 100000; decide))) (els_l (evr_l (er_callR (ea_cons (ev_fl T.Holder 1 hA.hol (ev_var rfl)) ea_nil) fun H1 e1 => ⟨X.ta, X.ats, X.P, rfl, e1 _ _ hA.textH, hA.wordsH.mono fun _ _ k => k.ex e1, by have := hS.len; omega, rfl⟩))) ?_) fun p H1 n1 e1 h1 => hg H1 p n1 e1 ?_
    · rw [nl_len, List.length_map]
      have := hS.len
      simp only [List.length_cons, List.length_nil]
      omega
    · rw [h1, nl_ints, wordsQ hS]
      rfl
theorem step_who (s : Si43.St) (i : Nat) : Si43.step s (.proof (.who i)) = match s.text.text[i]? with
    | none => (s, ⟨-6, []⟩)
    | some x => match x.by_ with
      | none => (s, ⟨0, Si42.ints [x.id]⟩)
      | some m => (s, ⟨1, Si42.ints [m, (((s.text.marks[m]?).map fun y => y.reader).getD 0)]⟩) := by
  cases h : s.text.text[i]? with
  | none => exact proof_no (t := s.text) (by simp only [Si42.step]; rw [h]; rfl) (by decide)
  | some x =>
    cases hb : x.by_ with
    | none => dsimp only; rw [hb]; exact proof_yes (t := s.text) (by simp) (by simp only [Si42.step]; rw [h]; dsimp only; rw [hb]) (by omega)
    | some m => dsimp only; rw [hb]; exact proof_yes (t := s.text) (by simp) (by simp only [Si42.step]; rw [h]; dsimp only; rw [hb]) (by omega)
def cWho : List Nat → List Nat → Option Si43.Call
  | [i], _ => some (.proof (.who i))
  | _, _ => none
def sp_who (T : Tp K mg) : Sp := spD T cWho
-- slots: holder 0, numbers 1, row 2, word 3
theorem ok_who (T : Tp K mg) : FnOk P w K mg base (L2.CX P w) 4 T.who.f T.who.fd P_who (sp_who T) := by
  refine T.who.F.okX sc_who (fun vs H Q E h => ?_) (fun cdv A outer s H vs Q E hr h => ⟨_, (pss_cons (ps_expr (pe_call (ok_ask T) (hr.mono (by decide)) rfl T.ask.g T.ask.F.kp T.ask.b .nil (passes_call (takes_of rfl rfl rfl rfl) (fun _ _ _ _ h => h)) (pa_cons (pe_cmpR op_lt (pe_ix ix_list (pv 1) pe_int (fun _ _ => rfl)) (pe_callB call_len_seq rfl T.nlen PySem.boot_len (pa_cons (pe_fld (pv 0) rfl) pa_nil)) (nomark _)) (pa_cons (pe_un un_neg pe_int) pa_nil))))
    (pss_cons (ps_set (i := 3) sc_who.nd rfl (.inl rfl) (pe_ix ix_list (pe_fld (pv 0) rfl) (pe_ix ix_list (pv 1) pe_int (fun _ _ => rfl)) (fun _ _ => rfl)))
    (pss_cons (ps_if (pt_cmpR op_ge (pe_fld (pv 3) rfl) pe_int (nomark _)) (pss_one (ps_ret (pe_lst (pa_cons pe_int (pa_cons (pe_fld (pv 3) rfl) pa_nil))))) pss_nil)
    (pss_one (ps_ret (pe_lst (pa_cons pe_int (pa_cons (pe_fld (pv 3) rfl) (pa_cons (pe_fld (pe_ix ix_list (pe_fld (pv 0) rfl) (pe_fld (pv 3) rfl) (fun _ _ => rfl)) rfl) pa_nil))))))))), ?_⟩)
  · obtain ⟨h, na, ra, ns, row, s, X, c, rfl, _⟩ := h
    rfl
  · obtain ⟨hh, na, ra, ns, row, st, X, c, rfl, hA, hS, hN, hR, hrl, hc, g⟩ := h
    match ns, hc with
    | [i], hc =>
    cases hc
    rw [step_who] at g
    have hNH := off_le _ _ _ _ hN
    have hPl : X.P.length = st.text.text.length := by rw [← hS.text, List.length_map]
    have n0 : ∀ {H' : Hp} {σ : L2.St} {te : TE}, Ex H H' → Ev te σ H' (.ref na) → Ev (tOp (rIxL K) te (tC (.int 0))) σ H' (.int (i : Int)) := fun e h => ev_at (n := 0) h ev_c (sq_of (e _ _ hNH)) rfl
    refine q_asks (b := decide (i < st.text.text.length)) (ea_ask (ev_lt (n0 (Ex.refl H) (ev_var rfl)) (ev_tlen hA hS (ev_var rfl))) ev_neg) (fun hb H1 e1 => ?_) (fun hb => ?_)
    · have hb := of_decide_eq_true hb
      have hx : X.P[i]? = some (X.P[i]'(by omega)) := by simp [show i < X.P.length by omega]
      generalize X.P[i]'(by omega) = x at hx
      have hx2 : st.text.text[i]? = some x.1 := by rw [← hS.text, List.getElem?_map, hx]; rfl
      rw [hx2] at g
      dsimp only at g
      obtain ⟨a, ha, hw⟩ := hA.wordsH.get hx
      refine q_asg (ev_at (ev_fl T.Holder 1 (hA.ex e1).hol (ev_var rfl)) (n0 e1 (ev_var rfl)) (sq_of (e1 _ _ hA.textH)) (by rw [List.getElem?_map, ha]; rfl)) fun H2 e2 => ?_
      have e12 := e1.trans e2
      cases hby : x.1.by_ with
      | none =>
        rw [hby] at g
        have hg := g.same hA hS rfl (by decide)
        have hf : firstOf x.1 = (x.1.id : Int) := by unfold firstOf; rw [hby]
        refine q_when (b := true) (et_is' (et_test (ev_op (ev_fl T.Word 2 (hw.ex e12) (ev_var rfl)) ev_c rv_I0)) ?_) (fun _ H3 e3 => ?_) (fun c => by cases c)
        · rw [hf, decide_eq_true_eq]; omega
        · have e13 := e12.trans e3
          refine s_retL (el_lst (ea_cons ev_c (ea_cons (ev_fl T.Word 2 (hw.ex e13) (ev_var rfl)) ea_nil)) (by show 2 ≤ 100000; decide)) fun p H4 n4 e4 h4 => hg H4 p (ex_none e13 n4) (e13.trans e4) ?_
          rw [h4, hf]
          rfl
      | some m =>
        rw [hby] at g
        have hg := g.same hA hS rfl (by decide)
        have hf : firstOf x.1 = -1 := by unfold firstOf; rw [hby]
        have hmk : markOf x.1 = (m : Int) := by unfold markOf; rw [hby]
        have hml := (hS.bysome x (List.mem_of_getElem? hx) m hby).2
        have hm : st.text.marks[m]? = some (st.text.marks[m]'hml) := by simp [hml]
        generalize st.text.marks[m]'hml = mk at hm
        obtain ⟨b, hb', hmb⟩ := hA.mksH.2.get hm
        obtain ⟨vs, o, _, s1⟩ := mark_st hmb
        refine q_when (b := false) (et_is' (et_test (ev_op (ev_fl T.Word 2 (hw.ex e12) (ev_var rfl)) ev_c rv_I0)) ?_) (fun c => by cases c) (fun _ H3 e3 => ?_)
        · rw [hf]; decide
        · have e13 := e12.trans e3
          refine s_retL (el_lst (ea_cons ev_c (ea_cons (ev_fl T.Word 3 (hw.ex e13) (ev_var rfl)) (ea_cons (ev_fl T.Mark 1 (o.ex e13) (ev_at (n := m) (ev_fl T.Holder 4 (hA.ex e13).hol (ev_var rfl)) (ev_is (ev_fl T.Word 3 (hw.ex e13) (ev_var rfl)) (by rw [hmk])) (sq_of (e13 _ _ hA.mks.1)) (by rw [List.getElem?_map, hb']; rfl)) s1) ea_nil))) (by show 3 ≤ 100000; decide)) fun p H4 n4 e4 h4 => hg H4 p (ex_none e13 n4) (e13.trans e4) ?_
          rw [h4, hmk, hm]
          rfl
    · have hb := of_decide_eq_false hb
      have : st.text.text[i]? = none := by simp; omega
      rw [this] at g
      exact g.no rfl (by decide)
end
end Pf

end
section
set_option Elab.async false
set_option linter.all false
set_option maxRecDepth 100000
set_option maxHeartbeats 4000000
/-! How a mark stands; words that are gone; costs. -/
namespace Pf
open PySem PySem.Spec PyProof.Rows L2 Evl
section
variable {P : Program} {w : World} {K : PySem.W.Frag} {mg : Str → Option Value} {base : Heap}
theorem step_mark (s : Si43.St) (m : Nat) : Si43.step s (.proof (.mark m)) = match s.text.marks[m]? with
    | none => (s, ⟨-2, []⟩)
    | some x => match x.stand with
      | .open_ a => (s, ⟨0, Si42.ints (x.reader :: Si42.askOut a)⟩)
      | .done p => (s, ⟨1, Si42.ints [x.reader, p]⟩)
      | .lost p => (s, ⟨2, Si42.ints [x.reader, p]⟩)
      | .withdrawn => (s, ⟨3, Si42.ints [x.reader]⟩) := by
  cases h : s.text.marks[m]? with
  | none => exact proof_no (t := s.text) (by simp only [Si42.step]; rw [h]; rfl) (by decide)
  | some x => cases hb : x.stand <;> (dsimp only; rw [hb]; exact proof_yes (t := s.text) (by simp) (by simp only [Si42.step]; rw [h]; dsimp only; rw [hb]) (by omega))
def cMark : List Nat → List Nat → Option Si43.Call
  | [i], _ => some (.proof (.mark i))
  | _, _ => none
def sp_mark_told (T : Tp K mg) : Sp := spD T cMark
-- slots: holder 0, numbers 1, row 2, mark 3, found 4
theorem ok_mark_told (T : Tp K mg) : FnOk P w K mg base (L2.CX P w) 4 T.mark_told.f T.mark_told.fd P_mark_told (sp_mark_told T) := by
  refine T.mark_told.F.okX sc_mark_told (fun vs H Q E h => ?_) (fun cdv A outer s H vs Q E hr h => ⟨_, (pss_cons (ps_expr (pe_call (ok_ask T) (hr.mono (by decide)) rfl T.ask.g T.ask.F.kp T.ask.b .nil (passes_call (takes_of rfl rfl rfl rfl) (fun _ _ _ _ h => h)) (pa_cons (pe_cmpR op_lt (pe_ix ix_list (pv 1) pe_int (fun _ _ => rfl)) (pe_callB call_len_seq rfl T.nlen PySem.boot_len (pa_cons (pe_fld (pv 0) rfl) pa_nil)) (nomark _)) (pa_cons (pe_un un_neg pe_int) pa_nil))))
    (pss_cons (ps_set (i := 3) sc_mark_told.nd rfl (.inl rfl) (pe_ix ix_list (pe_fld (pv 0) rfl) (pe_ix ix_list (pv 1) pe_int (fun _ _ => rfl)) (fun _ _ => rfl)))
    (pss_cons (ps_if (pt_cmpR op_eq (pe_fld (pv 3) rfl) (pe_glob (v := .int 3) rfl T.kWITHDRAWN ⟨_, rfl⟩) (nomark _)) (pss_one (ps_ret (pe_lst (pa_cons (pe_glob (v := .int 3) rfl T.kWITHDRAWN ⟨_, rfl⟩) (pa_cons (pe_fld (pv 3) rfl) pa_nil))))) pss_nil)
    (pss_cons (ps_if (pt_cmpR op_in_seq (pe_fld (pv 3) rfl) (pe_tup (pa_cons (pe_glob (v := .int 1) rfl T.kDONE ⟨_, rfl⟩) (pa_cons (pe_glob (v := .int 2) rfl T.kLOST ⟨_, rfl⟩) pa_nil))) (by rfl)) (pss_one (ps_ret (pe_lst (pa_cons (pe_fld (pv 3) rfl) (pa_cons (pe_fld (pv 3) rfl) (pa_cons (pe_fld (pv 3) rfl) pa_nil)))))) pss_nil)
    (pss_cons (ps_set (i := 4) sc_mark_told.nd rfl (.inl rfl) (pe_lst (pa_cons (pe_glob (v := .int 0) rfl T.kOPEN ⟨_, rfl⟩) (pa_cons (pe_fld (pv 3) rfl) (pa_cons (pe_fld (pv 3) rfl) (pa_cons (pe_fld (pv 3) rfl) (pa_cons (pe_fld (pv 3) rfl) pa_nil)))))))
    (pss_cons (ps_if (pt_cmpR op_eq (pe_fld (pv 3) rfl) (pe_glob (v := .int 0) rfl T.kCHANGE ⟨_, rfl⟩) (nomark _)) (pss_one (ps_ret (pe_op op_cat (pe_op op_cat (pv 4) (pe_lst (pa_cons (pe_callB call_len_seq rfl T.nlen PySem.boot_len (pa_cons (pe_fld (pv 3) rfl) pa_nil)) pa_nil))) (pe_fld (pv 3) rfl)))) pss_nil)
    (pss_cons (ps_if (pt_cmpR op_eq (pe_fld (pv 3) rfl) (pe_glob (v := .int 2) rfl T.kMOVE ⟨_, rfl⟩) (nomark _)) (pss_one (ps_ret (pe_op op_cat (pv 4) (pe_lst (pa_cons (pe_fld (pv 3) rfl) pa_nil))))) pss_nil)
    (pss_one (ps_ret (pv 4)))))))))), ?_⟩)
  · obtain ⟨h, na, ra, ns, row, s, X, c, rfl, _⟩ := h
    rfl
  · obtain ⟨hh, na, ra, ns, row, st, X, c, rfl, hA, hS, hN, hR, hrl, hc, g⟩ := h
    match ns, hc with
    | [m], hc =>
    cases hc
    rw [step_mark] at g
    have hNH := off_le _ _ _ _ hN
    have hml : X.as.length = st.text.marks.length := hA.mks.2.1
    have n0 : ∀ {H' : Hp} {σ : L2.St} {te : TE}, Ex H H' → Ev te σ H' (.ref na) → Ev (tOp (rIxL K) te (tC (.int 0))) σ H' (.int (m : Int)) := fun e h => ev_at (n := 0) h ev_c (sq_of (e _ _ hNH)) rfl
    refine q_asks (b := decide (m < st.text.marks.length)) (ea_ask (ev_lt (n0 (Ex.refl H) (ev_var rfl)) (ev_is (ev_len (ev_fl T.Holder 4 hA.hol (ev_var rfl)) (sq_of hA.mks.1)) (by rw [List.length_map, hml]))) ev_neg) (fun hb H1 e1 => ?_) (fun hb => ?_)
    · have hb := of_decide_eq_true hb
      have hm : st.text.marks[m]? = some (st.text.marks[m]'hb) := by simp [hb]
      generalize st.text.marks[m]'hb = x at hm
      rw [hm] at g
      dsimp only at g
      obtain ⟨a, ha, hma⟩ := hA.mksH.2.get hm
      refine q_asg (ev_at (ev_fl T.Holder 4 (hA.ex e1).hol (ev_var rfl)) (n0 e1 (ev_var rfl)) (sq_of (e1 _ _ hA.mks.1)) (by rw [List.getElem?_map, ha]; rfl)) fun H2 e2 => ?_
      have e12 := e1.trans e2
      unfold MarkAt at hma
      have st3 : ∀ {vs : List V} {n : Nat} {H' : Hp} {σ : L2.St}, InsAt H' a T.Mark.C flMark vs → vs[6]? = some (.int (n : Int)) → Ev (tVar 3) σ H' (.ref a) → EvT (tTest (tOp rEq (tFld K (tVar 3) (Str.ofString "state")) (tC (.int 3)))) σ H' (decide (n = 3)) := fun o s6 h =>
        et_is' (et_test (ev_op (ev_fl T.Mark 6 o h s6) ev_c (rv_eq rfl))) (by rw [dI', Bool.eq_iff_iff, decide_eq_true_eq, decide_eq_true_eq]; omega)
      have st12 : ∀ {vs : List V} {n : Nat} {H' : Hp} {σ : L2.St}, InsAt H' a T.Mark.C flMark vs → vs[6]? = some (.int (n : Int)) → Ev (tVar 3) σ H' (.ref a) → EvT (tTest (tOp (rIn K false) (tFld K (tVar 3) (Str.ofString "state")) (tTup (tCons (tC (.int 1)) (tCons (tC (.int 2)) tNil))))) σ H' (inV (.int (n : Int)) (nl [1, 2])) := fun o s6 h =>
        et_test (ev_inU (ev_fl T.Mark 6 o h s6) evu_tup2 rfl rfl)
      cases hst : x.stand with
      | withdrawn =>
        rw [hst] at hma g
        obtain ⟨v0, v2, v3, v4, v5, v7, o⟩ := hma
        have hg := g.same hA hS rfl (by decide)
        refine q_when (b := true) (et_is' (st3 (n := 3) (o.ex e12) rfl (ev_var rfl)) rfl) (fun _ H3 e3 => ?_) (fun c => by cases c)
        have e13 := e12.trans e3
        refine s_retL (el_lst (ea_cons ev_c (ea_cons (ev_fl T.Mark 1 (o.ex e13) (ev_var rfl)) ea_nil)) (by show 2 ≤ 100000; decide)) fun p H4 n4 e4 h4 => hg H4 p (ex_none e13 n4) (e13.trans e4) (by rw [h4]; rfl)
      | done pr =>
        rw [hst] at hma g
        obtain ⟨v0, v2, v3, v4, v5, o⟩ := hma
        have hg := g.same hA hS rfl (by decide)
        refine q_when (b := false) (et_is' (st3 (n := 1) (o.ex e12) rfl (ev_var rfl)) rfl) (fun c => by cases c) (fun _ H3 e3 => ?_)
        have e13 := e12.trans e3
        refine q_when (b := true) (et_is' (st12 (n := 1) (o.ex e13) rfl (ev_var rfl)) (by rw [in_nums]; rfl)) (fun _ H4 e4 => ?_) (fun c => by cases c)
        have e14 := e13.trans e4
        refine s_retL (el_lst (ea_cons (ev_fl T.Mark 6 (o.ex e14) (ev_var rfl)) (ea_cons (ev_fl T.Mark 1 (o.ex e14) (ev_var rfl)) (ea_cons (ev_fl T.Mark 7 (o.ex e14) (ev_var rfl)) ea_nil))) (by show 3 ≤ 100000; decide)) fun p H5 n5 e5 h5 => hg H5 p (ex_none e14 n5) (e14.trans e5) (by rw [h5]; rfl)
      | lost pr =>
        rw [hst] at hma g
        obtain ⟨v0, v2, v3, v4, v5, o⟩ := hma
        have hg := g.same hA hS rfl (by decide)
        refine q_when (b := false) (et_is' (st3 (n := 2) (o.ex e12) rfl (ev_var rfl)) rfl) (fun c => by cases c) (fun _ H3 e3 => ?_)
        have e13 := e12.trans e3
        refine q_when (b := true) (et_is' (st12 (n := 2) (o.ex e13) rfl (ev_var rfl)) (by rw [in_nums]; rfl)) (fun _ H4 e4 => ?_) (fun c => by cases c)
        have e14 := e13.trans e4
        refine s_retL (el_lst (ea_cons (ev_fl T.Mark 6 (o.ex e14) (ev_var rfl)) (ea_cons (ev_fl T.Mark 1 (o.ex e14) (ev_var rfl)) (ea_cons (ev_fl T.Mark 7 (o.ex e14) (ev_var rfl)) ea_nil))) (by show 3 ≤ 100000; decide)) fun p H5 n5 e5 h5 => hg H5 p (ex_none e14 n5) (e14.trans e5) (by rw [h5]; rfl)
      | open_ q =>
        rw [hst] at hma g
        obtain ⟨aw, pr, o, hw⟩ := hma
        have hg := g.same hA hS rfl (by decide)
        have hwl : (akW q).length ≤ 20 := hS.wd (m, q) (opens_mem.mpr ⟨x, hm, by unfold askOf; rw [hst]⟩)
        refine q_when (b := false) (et_is' (st3 (n := 0) (o.ex e12) rfl (ev_var rfl)) rfl) (fun c => by cases c) (fun _ H3 e3 => ?_)
        have e13 := e12.trans e3
        refine q_when (b := false) (et_is' (st12 (n := 0) (o.ex e13) rfl (ev_var rfl)) (by rw [in_nums]; rfl)) (fun c => by cases c) (fun _ H4 e4 => ?_)
        have e14 := e13.trans e4
        refine q_asgL (el_lst (ea_cons ev_c (ea_cons (ev_fl T.Mark 1 (o.ex e14) (ev_var rfl)) (ea_cons (ev_fl T.Mark 0 (o.ex e14) (ev_var rfl)) (ea_cons (ev_fl T.Mark 2 (o.ex e14) (ev_var rfl)) (ea_cons (ev_fl T.Mark 3 (o.ex e14) (ev_var rfl)) ea_nil))))) (by show 5 ≤ 100000; decide)) fun fd H5 n5 e5 h5 => ?_
        have e15 := e14.trans e5
        have kd : ∀ {H' : Hp} {σ : L2.St} (k : Nat), Ex H H' → Ev (tVar 3) σ H' (.ref a) → EvT (tTest (tOp rEq (tFld K (tVar 3) (Str.ofString "kind")) (tC (.int (k : Int))))) σ H' (decide (akKind q = k)) := fun k e h =>
          et_is' (et_test (ev_op (ev_fl T.Mark 0 (o.ex e) h) ev_c (rv_eq rfl))) (dI _ _)
        refine q_when (b := decide (akKind q = 0)) (kd 0 e15 (ev_var rfl)) (fun hk H6 e6 => ?_) (fun hk H6 e6 => ?_)
        · have hk := of_decide_eq_true hk
          have e16 := e15.trans e6
          have w6 := e16 _ _ hw
          refine s_retL (el_cat (els_l (el_cat (els_v (ev_var rfl) (e6 _ _ h5)) (els_l (el_lst (ea_cons (ev_lenN' (ev_fl T.Mark 5 (o.ex e16) (ev_var rfl)) w6) ea_nil) (by show 1 ≤ 100000; decide))) (by show 5 + 1 ≤ 1000000; decide))) (els_v (ev_fl T.Mark 5 (o.ex e16) (ev_var rfl)) w6) (by rw [nl_len]; simp only [List.length_append, List.length_cons, List.length_nil]; omega)) fun p H7 n7 e7 h7 => hg H7 p (ex_none e16 n7) (e16.trans e7) ?_
          rw [h7]
          cases q with
          | change i j ww => rw [show ((0 : Int) :: Si42.ints (x.reader :: Si42.askOut (.change i j ww))) = ((0 : Nat) : Int) :: Si42.ints (x.reader :: Si42.askOut (.change i j ww)) from rfl, nl_ints]; rfl
          | keep i j => simp [akKind] at hk
          | move i j k => simp [akKind] at hk
        · have hk := of_decide_eq_false hk
          have e16 := e15.trans e6
          refine q_when (b := decide (akKind q = 2)) (kd 2 e16 (ev_var rfl)) (fun hk2 H7 e7 => ?_) (fun hk2 H7 e7 => ?_)
          · have hk2 := of_decide_eq_true hk2
            have e17 := e16.trans e7
            refine s_retL (el_cat (els_v (ev_var rfl) ((e6.trans e7) _ _ h5)) (els_l (el_lst (ea_cons (ev_fl T.Mark 4 (o.ex e17) (ev_var rfl)) ea_nil) (by show 1 ≤ 100000; decide))) (by show 5 + 1 ≤ 1000000; decide)) fun p H8 n8 e8 h8 => hg H8 p (ex_none e17 n8) (e17.trans e8) ?_
            rw [h8]
            cases q with
            | change i j ww => simp [akKind] at hk2
            | keep i j => simp [akKind] at hk2
            | move i j k => rfl
          · have hk2 := of_decide_eq_false hk2
            have e17 := e16.trans e7
            refine s_ret (ev_var rfl) fun H8 e8 => hg H8 fd (ex_none e14 n5) (e17.trans e8) ?_
            rw [((e6.trans e7).trans e8) _ _ h5]
            cases q with
            | change i j ww => exact absurd rfl hk
            | keep i j => rfl
            | move i j k => exact absurd rfl hk2
    · have hb := of_decide_eq_false hb
      have : st.text.marks[m]? = none := by simp; omega
      rw [this] at g
      exact g.no rfl (by decide)
end
end Pf

end
section
set_option Elab.async false
set_option linter.all false
set_option maxRecDepth 100000
set_option maxHeartbeats 4000000
/-! Words that are gone; costs; a setting. -/
namespace Pf
open PySem PySem.Spec PyProof.Rows L2 Evl
section
variable {K : PySem.W.Frag} {σ : L2.St} {H : Hp} {te ta tb : TE} {D : Ends} {tu tz : TS}
theorem q_forT2 {tl : TE} {a : Addr} {xs : List V} {j1 j2 : Nat} (h : Ev tl σ H (.ref a)) (hx : SqL K H a xs) (Pv : Nat → L2.St → Hp → Prop) (h0 : ∀ H1, Ex H H1 → Pv 0 σ H1) (hl : ∀ i σ' H', i ≤ xs.length → Pv i σ' H' → SqL K H' a xs)
    (hs : ∀ i v σ' H', xs[i]? = some v → Pv i σ' H' → ∃ T x y, v = .ref T ∧ SqT K H' T [x, y] ∧ tu { D with nx := Pv (i + 1), ct := Pv (i + 1), bk := tz D } ((σ'.set j1 (some x)).set j2 (some y)) H') (hd : ∀ σ' H', Pv xs.length σ' H' → tz D σ' H') :
    tSeq (tFor (iList K tl) (g2 K j1 j2) tu) tz D σ H := s_forT2 (D := { D with nx := tz D }) h hx Pv h0 hl hs hd
theorem rv_notN {x : V} : RV rNotN x .non H (.bl (!decide (x = .non))) := fun H1 _ _ q => ⟨rfl, q H1 (Ex.refl H1)⟩
end
section
variable {P : Program} {w : World} {K : PySem.W.Frag} {mg : Str → Option Value} {base : Heap}
theorem flat2 (l : List (Nat × Nat)) : (l.flatMap fun x => Si42.ints [x.1, x.2]).length = 2 * l.length := by
  induction l with
  | nil => rfl
  | cons a l ih =>
    rw [List.flatMap_cons, List.length_append, ih, List.length_cons]
    show 2 + _ = _
    omega
theorem step_gone (s : Si43.St) : Si43.step s (.proof .gone) = (s, ⟨((goneF s).length : Int), (goneF s).flatMap fun x => Si42.ints [x.1, x.2]⟩) := proof_yes (t := s.text) (by simp) rfl (by omega)
def cGone : List Nat → List Nat → Option Si43.Call
  | [], _ => some (.proof .gone)
  | _, _ => none
def sp_gone (T : Tp K mg) : Sp := spD T cGone
-- slots: holder 0, numbers 1, row 2, found 3, word 4, mark 5
theorem ok_gone (T : Tp K mg) : FnOk P w K mg base (L2.CX P w) 1 T.gone.f T.gone.fd P_gone (sp_gone T) := by
  refine T.gone.F.okX sc_gone (fun vs H Q E h => ?_) (fun cdv A outer s H vs Q E hr h => ⟨_, (pss_cons (ps_set (i := 3) sc_gone.nd rfl (.inl rfl) (pe_lst (pa_cons (pe_callB call_len_seq rfl T.nlen PySem.boot_len (pa_cons (pe_fld (pv 0) rfl) pa_nil)) pa_nil)))
    (pss_cons (ps_for (passes_of rfl) rfl (pi_list (pe_fld (pv 0) rfl)) (pg_tup rfl (pgs_cons (pg_name (i := 4) sc_gone.nd rfl (.inl rfl)) (pgs_cons (pg_name (i := 5) sc_gone.nd rfl (.inl rfl)) pgs_nil))) (pss_one (ps_set (i := 3) sc_gone.nd rfl (.inl rfl) (pe_op op_cat (pv 3) (pe_lst (pa_cons (pe_fld (pv 4) rfl) (pa_cons (pv 5) pa_nil)))))))
    (pss_one (ps_ret (pv 3))))), ?_⟩)
  · obtain ⟨h, na, ra, ns, row, s, X, c, rfl, _⟩ := h
    rfl
  · obtain ⟨hh, na, ra, ns, row, st, X, c, rfl, hA, hS, hN, hR, hrl, hc, g⟩ := h
    match ns, hc with
    | [], hc =>
    cases hc
    rw [step_gone] at g
    have hg := g.same hA hS rfl (by omega)
    have hGl : X.G.length = (goneF st).length := by rw [← hA.eqG, List.length_map]
    have hgl := hS.gl
    have hlen : (X.gs.map V.ref).length = (goneF st).length := by rw [List.length_map, hA.gons.1, hGl]
    refine q_asgL (el_lst (ea_cons (ev_is (ev_len (ev_fl T.Holder 5 hA.hol (ev_var rfl)) (sq_of hA.gonH)) (by rw [hlen])) ea_nil) (by show 1 ≤ 100000; decide)) fun fd H1 n1 e1 h1 => ?_
    refine q_forT2 (ev_fl T.Holder 5 (hA.ex e1).hol (ev_var rfl)) (sq_of (e1 _ _ hA.gonH)) (fun i σ' H' => Ex H H' ∧ ∃ (f : Addr) (u v : Option V), H f = none ∧ σ' = [some (.ref hh), some (.ref na), some (.ref ra), some (.ref f), u, v] ∧
      H' f = some (.lst ((((goneF st).length : Int) :: ((goneF st).take i).flatMap fun x => Si42.ints [x.1, x.2]).map V.int))) ?h0 ?hl ?hs ?hd
    case h0 => exact fun H2 e2 => ⟨e1.trans e2, fd, _, _, n1, rfl, by rw [e2 _ _ h1]; rfl⟩
    case hl => exact fun i σ' H' _ h => sq_of (h.1 _ _ hA.gonH)
    case hd =>
      rintro σ' H' ⟨p1, f, u, v, fN, rfl, p2⟩
      rw [hlen, List.take_length] at p2
      exact s_ret (ev_var rfl) fun H3 e3 => hg H3 f fN (p1.trans e3) (e3 _ _ p2)
    case hs =>
      rintro i v σ' H' hv ⟨p1, f, u, u2, fN, rfl, p2⟩
      rw [List.getElem?_map] at hv
      cases ht' : X.gs[i]? with
      | none => rw [ht'] at hv; cases hv
      | some t =>
        rw [ht'] at hv
        cases hv
        obtain ⟨x, hx, hpx⟩ := hA.gonsH.getL ht'
        obtain ⟨wd, ht, hw⟩ := hpx
        have hxg : (goneF st)[i]? = some (x.1.1.id, x.2) := by rw [← hA.eqG, List.getElem?_map, hx]; rfl
        have hf : firstOf x.1.1 = (x.1.1.id : Int) := by unfold firstOf; rw [hA.byG x (List.mem_of_getElem? hx)]
        have hil := (List.getElem?_eq_some_iff.mp hxg).1
        refine ⟨t, _, _, rfl, st_of (p1 _ _ ht), ?_⟩
        refine s_asgL (el_cat (els_v (ev_var rfl) p2) (els_l (el_lst (ea_cons (ev_fl T.Word 2 (hw.ex p1) (ev_var rfl)) (ea_cons (ev_var rfl) ea_nil)) (by show 2 ≤ 100000; decide))) ?_) fun f2 H2 n2 e2 h2 => ?_
        · rw [List.length_map, List.length_cons, flat2, List.length_take]
          simp only [List.length_cons, List.length_nil]
          omega
        · refine ⟨p1.trans e2, f2, _, _, ex_none p1 n2, rfl, ?_⟩
          rw [h2, hf, take_next hxg, List.flatMap_append]
          simp [Si42.ints]
def cCosts : List Nat → List Nat → Option Si43.Call
  | [a, b, c], _ => some (.costs a b c)
  | _, _ => none
def sp_set_costs (T : Tp K mg) : Sp := spD T cCosts
-- slots: holder 0, numbers 1, row 2, one 3
theorem ok_set_costs (T : Tp K mg) : FnOk P w K mg base (L2.CX P w) 4 T.set_costs.f T.set_costs.fd P_set_costs (sp_set_costs T) := by
  refine T.set_costs.F.okX sc_set_costs (fun vs H Q E h => ?_) (fun cdv A outer s H vs Q E hr h => ⟨_, (pss_cons (ps_expr (pe_call (ok_ask T) (hr.mono (by decide)) rfl T.ask.g T.ask.F.kp T.ask.b .nil (passes_call (takes_of rfl rfl rfl rfl) (fun _ _ _ _ h => h)) (pa_cons (pe_cmpR (op_eqD hr.units) (pe_lc (own := [("one", 3)]) (g := (gName 3)) (tt := (tOr (tTest (tOp (rI0 fun i j => .bl (decide (i < j))) (tVar 3) (tC (.int 1)))) (tTest (tOp (rI0 fun i j => .bl (decide (j < i))) (tVar 3) (tC (.int 100)))))) (te := (tVar 3)) rfl sc_set_costs.nd (pi_list (pv 1)) (blkOk_by (own := [("one", 3)]) (N := N_set_costs) (sc := defScope s_set_costs) (by decide +kernel)) (fun _ _ _ _ _ => (pg_name (i := 3) sc_set_costs.nd rfl (.inl rfl))) (fun _ _ _ _ _ => (pts_one (PW.pt (pw_or (pt_cmpR op_lt (pv 3) pe_int (nomark _)) (pw_or1 (pt_cmpR op_gt (pv 3) (pe_glob (v := .int 100) rfl T.kMOST_COST ⟨_, rfl⟩) (nomark _))))))) (fun _ _ _ _ _ => (pv 3))) (pe_lst pa_nil) (nomark _)) (pa_cons (pe_un un_neg pe_int) pa_nil))))
    (pss_cons (ps_fld (pv 0) (pe_make T.Costs.mkd (ok_Costs_init T) (hr.mono (by decide)) rfl T.Costs.g T.Costs.b .nil pass0 (pa_cons (pe_ix ix_list (pv 1) pe_int (fun _ _ => rfl)) (pa_cons (pe_ix ix_list (pv 1) pe_int (fun _ _ => rfl)) (pa_cons (pe_ix ix_list (pv 1) pe_int (fun _ _ => rfl)) pa_nil)))) rfl)
    (pss_one (ps_ret (pe_lst (pa_cons pe_int pa_nil)))))), ?_⟩)
  · obtain ⟨h, na, ra, ns, row, s, X, c, rfl, _⟩ := h
    rfl
  · obtain ⟨hh, na, ra, ns, row, st, X, c, rfl, hA, hS, hN, hR, hrl, hc, g⟩ := h
    match ns, hc with
    | [a, b, c], hc =>
    cases hc
    have hNH := off_le _ _ _ _ hN
    have ncost : ∀ {H' : Hp} {σ : L2.St} {te : TE}, Ex H H' → Ev te σ H' (.ref na) → Ev (tOp (rIxL K) te (tC (.int 0))) σ H' (.int (a : Int)) ∧ Ev (tOp (rIxL K) te (tC (.int 1))) σ H' (.int (b : Int)) ∧ Ev (tOp (rIxL K) te (tC (.int 2))) σ H' (.int (c : Int)) := fun e h =>
      ⟨ev_at (n := 0) h ev_c (sq_of (e _ _ hNH)) rfl, ev_at (n := 1) h ev_c (sq_of (e _ _ hNH)) rfl, ev_at (n := 2) h ev_c (sq_of (e _ _ hNH)) rfl⟩
    refine q_asks (b := [a, b, c].all fun w => decide (1 ≤ w) && decide (w ≤ 100)) (ea_ask (ev_is (ev_isNil (el_lcN (fun n => decide (n < 1) || decide (100 < n)) (ev_var rfl) hNH (by show 3 ≤ 40000; decide) (fun _ => rfl) (fun n H1 e => et_out 1 100 (ev_var rfl) ev_c (ev_var rfl) ev_c) (fun n H1 e => ev_var rfl))) (by rw [out_nil])) ev_neg) (fun hb H1 e1 => ?_) (fun hb => ?_)
    · have hn : ¬ (a < 1 ∨ 100 < a ∨ b < 1 ∨ 100 < b ∨ c < 1 ∨ 100 < c) := by
        simp at hb
        omega
      have hst : Si43.step st (.costs a b c) = ({ st with costs := ⟨a, b, c⟩ }, Si43.ok 0) := if_neg hn
      have hA1 := hA.ex e1
      obtain ⟨d1, d2, d3, d4, d5, d6, d7⟩ := hA.hN
      refine q_flK T.Holder 7 hA1.hol (fun H2 e => ev_var rfl) (EvR.toP (er_makeA (ea_cons (ncost e1 (ev_var rfl)).1 (ea_cons (ncost e1 (ev_var rfl)).2.1 (ea_cons (ncost e1 (ev_var rfl)).2.2 ea_nil))) rfl)) fun y H2 G e2 hy kk hi => ?_
      obtain ⟨ca, rfl, nc, hc⟩ := hy
      have hcH : ca ≠ hh := by
        obtain ⟨_, dx, hx⟩ := hA1.hol
        exact ne_some nc hx
      refine s_retL (el_lst (ea_cons ev_c ea_nil) (by show 1 ≤ 100000; decide)) fun p H4 n4 e4 h4 => ?_
      have kG : Keep hh H H4 := (Keep.ex1 (e1.trans e2) kk).ex2 e4
      have oF := kG.off (X.hF hh)
      have cF : ca ∉ X.F hh := fun z => by
        obtain ⟨o, ho⟩ := hA.sm ca z
        rw [ex_none e1 nc] at ho
        cases ho
      refine (g.of hst (by decide)) H4 p { X with ca := ca } oF (fun a ha => Or.inl ha) rfl (Zk.keep hA.hZ.1 kG) ?_ ⟨hS.text, hS.tx, hS.len, hS.fl, hS.fnext, hS.bynone, hS.bysome, hS.rd, hS.rl, hS.ml, hS.ol, hS.wf, hS.wd, hS.setl, hS.gnd, hS.gdis, hS.gmk⟩ (Zk.nz (X := X) (H := H) (Hn := G) (Zk.keep hA.hZ.1 (Keep.ex1 (e1.trans e2) kk)) hA.zsm n4) (by rw [h4]; rfl)
      exact ⟨hA.nd, hi.ex e4, oF _ _ hA.first, oF _ _ hA.text, hA.words.mono fun _ _ k => k.ex oF, kG _ _ hA.wts d1.symm, hA.mks.keep kG d2.symm d3 oF, oF _ _ hA.gon, hA.gons.mono fun _ _ k => k.ex oF, hA.set.ex oF, ((hc.keep kk hcH).ex e4).offN cF, hA.eqG, hA.byG, (Zk.keep hA.hZ.1 kG).sm hA.zsm⟩
    · have hn : a < 1 ∨ 100 < a ∨ b < 1 ∨ 100 < b ∨ c < 1 ∨ 100 < c := by
        simp at hb
        omega
      have hst : Si43.step st (.costs a b c) = (st, Si43.ok (-1)) := if_pos hn
      exact g.no hst (by decide)
end
end Pf

end
section
set_option Elab.async false
set_option linter.all false
set_option maxRecDepth 100000
set_option maxHeartbeats 4000000
/-! A setting that has come back: its faults. -/
namespace Pf
open PySem PySem.Spec PyProof.Rows L2 Evl
theorem cnt_sum : ∀ (p : List Si38.Step) (g : Nat), (cntF g p).sum = g + nC p
  | [], g => by simp [cntF, nC]
  | .into b :: l, g => by rw [cntF, cnt_sum l]; simp [nC, stC]; omega
  | .both a b :: l, g => by rw [cntF, List.sum_cons, List.sum_cons, cnt_sum l]; simp [nC, stC]; omega
  | .out a :: l, g => by rw [cntF, List.sum_cons, List.sum_cons, cnt_sum l]; simp [nC, stC]
/-- places lie in both texts -/
theorem place_in {k : Si38.Costs} {x y : Si38.Text} {p : Si43.Place} (h : p ∈ Si43.places k x y) : p.at_ + p.words ≤ x.length ∧ p.at2 + p.words2 ≤ y.length := by
  have ok := RsOk.all (varF false (wy k x y)) RsOk.nil
  have hl : (varF false (wy k x y)).length = 2 * x.length + 1 := by rw [varF_len, wy_nB]
  rw [places_eq] at h
  obtain ⟨r, hr, rfl⟩ := List.mem_map.mp h
  rw [hl, Nat.zero_add] at ok
  have hb : r.1 + r.2 ≤ 2 * x.length + 1 := by
    rcases List.mem_append.mp hr with hr | hr
    · exact ok.cl r hr
    · cases ho : (rsAll ([], none) 0 (varF false (wy k x y))).2 with
      | none => rw [ho] at hr; simp at hr
      | some z =>
        rw [ho] at hr
        have e : r = z := by simpa using hr
        subst e
        exact Nat.le_of_eq (ok.op r ho).1
  unfold plc
  dsimp only
  constructor
  · have : r.1 / 2 ≤ (r.1 + r.2) / 2 := Nat.div_le_div_right (by omega)
    omega
  · have h1 := sum_mono (cntF 0 (wy k x y)) (show r.1 ≤ r.1 + r.2 by omega)
    have h2 : ((cntF 0 (wy k x y)).take (r.1 + r.2)).sum ≤ (cntF 0 (wy k x y)).sum := by
      have hcl : (cntF 0 (wy k x y)).length = 2 * x.length + 1 := by rw [cntF_len, wy_nB]
      have := sum_mono (cntF 0 (wy k x y)) (show r.1 + r.2 ≤ (cntF 0 (wy k x y)).length by omega)
      rw [List.take_length] at this
      exact this
    rw [cnt_sum, wy_nC] at h2
    omega
theorem rs_few (st : List (Nat × Nat) × Option (Nat × Nat)) (i : Nat) (b : Bool) : (rs st i b).1.length + (rs st i b).2.toList.length ≤ st.1.length + st.2.toList.length + 1 := by
  obtain ⟨c, o⟩ := st
  unfold rs
  cases b with
  | true => cases o <;> simp
  | false => cases o <;> simp
theorem rsAll_few : ∀ (l : List Bool) (st : List (Nat × Nat) × Option (Nat × Nat)) (i : Nat), (rsAll st i l).1.length + (rsAll st i l).2.toList.length ≤ st.1.length + st.2.toList.length + l.length
  | [], st, i => by simp [rsAll]
  | b :: l, st, i => by
    have h1 := rs_few st i b
    have h2 := rsAll_few l (rs st i b) (i + 1)
    rw [rsAll, List.length_cons]
    omega
theorem places_few (k : Si38.Costs) (x y : Si38.Text) : (Si43.places k x y).length ≤ 2 * x.length + 1 := by
  have h := rsAll_few (varF false (wy k x y)) ([], none) 0
  rw [varF_len, wy_nB] at h
  rw [places_eq, List.length_map, List.length_append]
  simpa using h
section
variable {K : PySem.W.Frag} {σ : L2.St} {H : Hp} {te ta tb : TE} {P : Addr → Hp → Prop}
theorem ev_lenR {n : Int} (h : EvR te σ H P) (hp : ∀ p H1, P p H1 → ∃ xs, H1 p = some (.lst xs) ∧ (xs.length : Int) = n) : Ev (tCB (rLenS K) (tCons te tNil)) σ H (.int n) := fun H1 e Q q =>
  h H1 e _ fun p H2 hn e2 hP => by
    obtain ⟨xs, hx, hl⟩ := hp p H2 hP
    exact ⟨p, xs, rfl, Or.inl (sq_of hx), by rw [hl]; exact q H2 e2⟩
theorem ev_int1 {b : Bool} (h : Ev te σ H (.bl b)) : Ev (tCB (fun xs H Q => (∃ i, xs = [.int i] ∧ Q (.int i) H) ∨ ∃ k, xs = [.bl k] ∧ Q (.int (if k then 1 else 0)) H) (tCons te tNil)) σ H (.int (if b then 1 else 0)) := fun H1 e Q q =>
  ea_cons h ea_nil H1 e _ fun H2 e2 => Or.inr ⟨b, rfl, q H2 e2⟩
end
section
variable {K : PySem.W.Frag} {mg : Str → Option Value} {T : Tp K mg} {H H' : Hp} {h : Addr} {s : Si43.St} {X : HX}
theorem DeedGo.mono {r : Si43.St × Si43.Ans} {Q : VK} {E : XK} (g : DeedGo T H h X r Q E) (e : Ex H H') : DeedGo T H' h X r Q E :=
  ⟨fun hv H2 p X' o hf hz zk hh hs hpz hp => g.1 hv H2 p X' ((off_ex e).trans o) (fun a ha => (hf a ha).imp id (ex_none e)) hz ((Zk.of e).trans zk) hh hs hpz hp, fun hv => (g.2 hv).mono e⟩
/-- places as objects -/
def PlsAt (T : Tp K mg) (H : Hp) (p : Addr) (l : List Si43.Place) : Prop := ∃ ps : List Addr, H p = some (.lst (ps.map V.ref)) ∧ Al2 (PlaceAt T H) ps l
theorem PlsAt.ex {p : Addr} {l : List Si43.Place} (a : PlsAt T H p l) (e : Ex H H') : PlsAt T H' p l := by
  obtain ⟨ps, h1, h2⟩ := a
  exact ⟨ps, e _ _ h1, h2.mono fun _ _ k => k.ex e⟩
/-- the setting -/
theorem HolderAt.setO (a : HolderAt T H h s X) : (∃ w sa, s.setting = some w ∧ X.sa = some sa ∧ Off (X.F h) H sa = some (.lst (nl w))) ∨ (s.setting = none ∧ X.sa = none) := by
  have := a.set
  revert this
  cases hs1 : s.setting <;> cases hs2 : X.sa <;> intro this
  · exact Or.inr ⟨rfl, rfl⟩
  · exact this.elim
  · exact this.elim
  · exact Or.inl ⟨_, _, rfl, rfl, this⟩
end
section
variable {P : Program} {w : World} {K : PySem.W.Frag} {mg : Str → Option Value} {base : Heap}
/-- the text's words told -/
theorem er_told {T : Tp K mg} {E : XK} {H : Hp} {σ : L2.St} {te : TE} {h : Addr} {s : Si43.St} {X : HX} (hA : HolderAt T H h s X) (hS : Sok s X.P X.own) (he : Ev te σ H (.ref h)) : EvR (tCall (sp_told T) [] E (tCons (tFld K te (Str.ofString "text")) tNil)) σ H (fun p H2 => H2 p = some (.lst (nl (Si43.wanted s)))) := by
  have := wordsQ hS
  unfold Si43.wanted
  rw [← this]
  exact er_callR (ea_cons (ev_fl T.Holder 1 hA.hol he) ea_nil) fun H1 e1 => ⟨X.ta, X.ats, X.P, rfl, e1 _ _ hA.textH, hA.wordsH.mono fun _ _ k => k.ex e1, by have := hS.len; omega, rfl⟩
theorem wanted_len {s : Si43.St} {P : Tx} {own : Nat} (h : Sok s P own) : (Si43.wanted s).length ≤ 100 := by
  unfold Si43.wanted
  rw [List.length_map, ← h.text, List.length_map]
  exact h.len
def sp_fault_places (T : Tp K mg) : Sp := fun vs H Q E => ∃ h s X, vs = [.ref h] ∧ HolderAt T H h s X ∧ Sok s X.P X.own ∧ (s.setting = none → Ref T H (-4) E) ∧ ∀ w, s.setting = some w → ∀ p H', H p = none → Ex H H' → PlsAt T H' p (Si43.faults s w) → Q (.ref p) H'
-- slots: holder 0
theorem ok_fault_places (T : Tp K mg) : FnOk P w K mg base (L2.CX P w) 6 T.fault_places.f T.fault_places.fd P_fault_places (sp_fault_places T) := by
  refine T.fault_places.F.okX sc_fault_places (fun vs H Q E h => ?_) (fun cdv A outer s H vs Q E hr h => ⟨_, (pss_cons (ps_expr (pe_call (ok_ask T) (hr.mono (by decide)) rfl T.ask.g T.ask.F.kp T.ask.b .nil (passes_call (takes_of rfl rfl rfl rfl) (fun _ _ _ _ h => h)) (pa_cons (pe_cmpR op_notN1 (pe_fld (pv 0) rfl) pe_non (nomark _)) (pa_cons (pe_un un_neg pe_int) pa_nil))))
    (pss_one (ps_ret (pe_call (ok_places_of T) (hr.mono (by decide)) rfl T.places_of.g T.places_of.F.kp T.places_of.b .nil pass0 (pa_cons (pe_call (ok_told T) (hr.mono (by decide)) rfl T.told.g T.told.F.kp T.told.b .nil pass0 (pa_cons (pe_fld (pv 0) rfl) pa_nil)) (pa_cons (pe_fld (pv 0) rfl) (pa_cons (pe_fld (pv 0) rfl) pa_nil))))))), ?_⟩)
  · obtain ⟨h, s, X, rfl, _⟩ := h
    rfl
  · obtain ⟨hh, st, X, rfl, hA, hS, k1, k2⟩ := h
    refine q_asks (b := !decide (svV X.sa = V.non)) (ea_ask (ev_op (ev_fl T.Holder 6 hA.hol (ev_var rfl)) ev_c rv_notN) ev_neg) (fun hb H1 e1 => ?_) (fun hb => ?_)
    · rcases hA.setO with ⟨w, sa, hs1, hs2, hs3⟩ | ⟨hs1, hs2⟩
      · have hA1 := hA.ex e1
        have hsw := (hS.setl w hs1).1
        have hol := hA1.hol
        rw [hs2] at hol
        refine s_retR (er_callRP (eap_cons (EvR.toP (er_told hA1 hS (ev_var rfl))) fun v H2 e2 hv => EvA.toP (ea_cons (ev_fl T.Holder 6 (hol.ex e2) (ev_var rfl)) (ea_cons (ev_fl T.Holder 7 (hol.ex e2) (ev_var rfl)) ea_nil))) (P := fun p H2 => PlsAt T H2 p (Si43.faults st w)) fun vs H2 e2 hv => ?_) fun p H2 n2 e2 hp => k2 w hs1 p H2 (ex_none e1 n2) (e1.trans e2) hp
        obtain ⟨v, r, H3, rfl, e3, ⟨ta, rfl, _, ht⟩, e32, rfl⟩ := hv
        exact ⟨ta, sa, X.ca, st.costs, Si43.wanted st, w, rfl, e32 _ _ ht, e2 _ _ (e1 _ _ ((off_some hs3).2)), hA1.costH.ex e2, by have := wanted_len hS; omega, by omega, rfl⟩
      · rw [hs2] at hb
        exact absurd hb (by decide)
    · rcases hA.setO with ⟨w, sa, hs1, hs2, hs3⟩ | ⟨hs1, hs2⟩
      · rw [hs2] at hb
        exact absurd hb (by simp [svV])
      · exact k1 hs1
/-- with a setting -/
theorem er_faults {T : Tp K mg} {E : XK} {H : Hp} {σ : L2.St} {te : TE} {h : Addr} {s : Si43.St} {X : HX} {w : List Nat} (hA : HolderAt T H h s X) (hS : Sok s X.P X.own) (hs : s.setting = some w) (he : Ev te σ H (.ref h)) : EvR (tCall (sp_fault_places T) [] E (tCons te tNil)) σ H (fun p H2 => PlsAt T H2 p (Si43.faults s w)) := fun H1 e1 Q q =>
  ea_cons he ea_nil H1 e1 _ fun H2 e2 => ⟨h, s, X, rfl, hA.ex (e1.trans e2), hS, fun z => (by rw [hs] at z; cases z), fun w' hw' p H3 n3 e3 hp => by
    rw [hs] at hw'
    cases hw'
    exact q p H3 (ex_none e2 n3) (e2.trans e3) hp⟩
def cSet : List Nat → List Nat → Option Si43.Call
  | [], row => some (.set row)
  | _, _ => none
def sp_set_setting (T : Tp K mg) : Sp := spD T cSet
def stS (s : Si43.St) (w : List Nat) : Si43.St := { s with setting := some w }
-- slots: holder 0, numbers 1, row 2
theorem ok_set_setting (T : Tp K mg) : FnOk P w K mg base (L2.CX P w) 7 T.set_setting.f T.set_setting.fd P_set_setting (sp_set_setting T) := by
  refine T.set_setting.F.okX sc_set_setting (fun vs H Q E h => ?_) (fun cdv A outer s H vs Q E hr h => ⟨_, (pss_cons (ps_expr (pe_call (ok_ask T) (hr.mono (by decide)) rfl T.ask.g T.ask.F.kp T.ask.b .nil (passes_call (takes_of rfl rfl rfl rfl) (fun _ _ _ _ h => h)) (pa_cons (pe_and (pe_call (ok_are_words T) (hr.mono (by decide)) rfl T.are_words.g T.are_words.F.kp T.are_words.b .nil pass0 (pa_cons (pv 2) pa_nil)) (pe_one (pe_cmpR op_le (pe_callB call_len_seq rfl T.nlen PySem.boot_len (pa_cons (pv 2) pa_nil)) (pe_glob (v := .int 120) rfl T.kMOST_SETTING ⟨_, rfl⟩) (nomark _)))) (pa_cons (pe_un un_neg pe_int) pa_nil))))
    (pss_cons (ps_fld (pv 0) (pe_callTy call_list_of rfl T.nlist (by decide +kernel) (pa_cons (pv 2) pa_nil)) rfl)
    (pss_one (ps_ret (pe_lst (pa_cons (pe_callB call_len_seq rfl T.nlen PySem.boot_len (pa_cons (pe_call (ok_fault_places T) (hr.mono (by decide)) rfl T.fault_places.g T.fault_places.F.kp T.fault_places.b .nil (passes_call (takes_of rfl rfl rfl rfl) (fun _ _ _ _ h => h)) (pa_cons (pv 0) pa_nil)) pa_nil)) (pa_cons (pe_call (ok_way_cost T) (hr.mono (by decide)) rfl T.way_cost.g T.way_cost.F.kp T.way_cost.b .nil pass0 (pa_cons (pe_call (ok_told T) (hr.mono (by decide)) rfl T.told.g T.told.F.kp T.told.b .nil pass0 (pa_cons (pe_fld (pv 0) rfl) pa_nil)) (pa_cons (pe_fld (pv 0) rfl) (pa_cons (pe_fld (pv 0) rfl) pa_nil)))) pa_nil))))))), ?_⟩)
  · obtain ⟨h, na, ra, ns, row, s, X, c, rfl, _⟩ := h
    rfl
  · obtain ⟨hh, na, ra, ns, row, st, X, c, rfl, hA, hS, hN, hR, hrl, hc, g⟩ := h
    match ns, hc with
    | [], hc =>
    cases hc
    have hRH := off_le _ _ _ _ hR
    refine q_asks (b := Si42.wordsOk row && decide (row.length ≤ 120)) (ea_ask (ev_andV (ev_callV (v := .bl (Si42.wordsOk row)) (ea_cons (ev_var rfl) ea_nil) fun H1 e1 => ⟨ra, row, rfl, e1 _ _ hRH, by omega, rfl⟩) (fun _ => ev_le (ev_lenN' (ev_var rfl) hRH) (ev_c : Ev (tC (.int ((120 : Nat) : Int))) _ _ _))) ev_neg) (fun hb H1 e1 => ?_) (fun hb => ?_)
    · rw [Bool.and_eq_true, decide_eq_true_eq] at hb
      have hst : Si43.step st (.set row) = (stS st row, ⟨((Si43.faults st row).length : Int), [(Si38.least st.costs (Si43.wanted st) row : Int)]⟩) := if_neg (by
        rw [hb.1]
        show ¬ (true = false ∨ 120 < row.length)
        rw [not_or]
        exact ⟨by decide, by omega⟩)
      have hA1 := hA.ex e1
      obtain ⟨d1, d2, d3, d4, d5, d6, d7⟩ := hA.hN
      refine q_flK T.Holder 6 hA1.hol (fun H2 e => ev_var rfl) (EvR.toP (evl_r (ev_listOf (ev_var rfl) (sq_of (e1 _ _ hRH))))) fun y H2 G e2 hy kk hi => ?_
      obtain ⟨sa, rfl, nc, hc⟩ := hy
      have hcH : sa ≠ hh := by
        obtain ⟨_, dx, hx⟩ := hA1.hol
        exact ne_some nc hx
      have kG : Keep hh H G := Keep.ex1 (e1.trans e2) kk
      have oF := kG.off (X.hF hh)
      have cF : sa ∉ X.F hh := fun z => by
        obtain ⟨o, ho⟩ := hA.sm sa z
        rw [ex_none e1 nc] at ho
        cases ho
      have hA' : HolderAt T G hh (stS st row) { X with sa := some sa } := ⟨hA.nd, hi, oF _ _ hA.first, oF _ _ hA.text, hA.words.mono fun _ _ k => k.ex oF, kG _ _ hA.wts d1.symm, hA.mks.keep kG d2.symm d3 oF, oF _ _ hA.gon, hA.gons.mono fun _ _ k => k.ex oF, by
        show Off (X.F hh) G sa = _
        rw [off_out cF]
        exact kk _ _ hc hcH, hA.cost.ex oF, hA.eqG, hA.byG, (Zk.keep hA.hZ.1 kG).sm hA.zsm⟩
      have hS' : Sok (stS st row) X.P X.own := ⟨hS.text, hS.tx, hS.len, hS.fl, hS.fnext, hS.bynone, hS.bysome, hS.rd, hS.rl, hS.ml, hS.ol, hS.wf, hS.wd, fun w hw => by
        cases hw
        exact ⟨hb.2, hb.1⟩, hS.gnd, hS.gdis, hS.gmk⟩
      have hwl := wanted_len hS
      have hg := g.of hst (by omega)
      refine s_retL (el_lst (ea_cons (ev_lenR (n := ((Si43.faults st row).length : Int)) (er_faults hA' hS' rfl (ev_var rfl)) fun p H3 hp => ?_) (ea_cons (ev_callVP (v := .int (cst st.costs (Si43.wanted st) row : Int)) (eap_cons (EvR.toP (er_told hA' hS' (ev_var rfl))) fun v H3 e3 hv => EvA.toP (ea_cons (ev_fl T.Holder 6 (hi.ex e3) (ev_var rfl)) (ea_cons (ev_fl T.Holder 7 (hi.ex e3) (ev_var rfl)) ea_nil))) fun vs H3 e3 hv => ?_) ea_nil)) (by show 2 ≤ 100000; decide)) fun p H4 n4 e4 h4 => ?_
      · obtain ⟨ps, h1, h2⟩ := hp
        exact ⟨_, h1, by rw [List.length_map, h2.1]; rfl⟩
      · obtain ⟨v, r, H4, rfl, e4, ⟨ta, rfl, _, ht⟩, e43, rfl⟩ := hv
        exact ⟨ta, sa, X.ca, st.costs, Si43.wanted st, row, rfl, e43 _ _ ht, e3 _ _ (kk _ _ hc hcH), (hA'.costH).ex e3, by omega, by omega, rfl⟩
      · refine hg H4 p { X with sa := some sa } (oF.trans (off_ex e4)) (fun a ha => Or.inl ha) rfl ((Zk.keep hA.hZ.1 kG).trans (Zk.of e4)) (hA'.ex e4) hS' ((Zk.keep hA.hZ.1 kG).nz hA.zsm n4) ?_
        rw [h4, least_eq]
        rfl
    · have hn : Si42.wordsOk row = false ∨ 120 < row.length := by
        rw [Bool.and_eq_false_iff, decide_eq_false_iff_not] at hb
        rcases hb with hb | hb
        · exact Or.inl hb
        · exact Or.inr (by omega)
      exact g.no (s' := st) (v := -1) (l := []) (if_pos hn) (by decide)
theorem out_len {s : Si43.St} {w : List Nat} {p : Si43.Place} (h : p ∈ Si43.faults s w) : (Si43.cutOut w p.at2 p.words2).length = p.words2 := by
  have := (place_in h).2
  unfold Si43.cutOut
  rw [List.length_take, List.length_drop]
  omega
def cPlaces : List Nat → List Nat → Option Si43.Call
  | [], _ => some .places
  | _, _ => none
def sp_faults (T : Tp K mg) : Sp := spD T cPlaces
-- slots: holder 0, numbers 1, row 2, places 3, found 4, place 5, words 6
theorem ok_faults (T : Tp K mg) : FnOk P w K mg base (L2.CX P w) 7 T.faults.f T.faults.fd P_faults (sp_faults T) := by
  refine T.faults.F.okX sc_faults (fun vs H Q E h => ?_) (fun cdv A outer s H vs Q E hr h => ⟨_, (pss_cons (ps_set (i := 3) sc_faults.nd rfl (.inl rfl) (pe_call (ok_fault_places T) (hr.mono (by decide)) rfl T.fault_places.g T.fault_places.F.kp T.fault_places.b .nil (passes_call (takes_of rfl rfl rfl rfl) (fun _ _ _ _ h => h)) (pa_cons (pv 0) pa_nil)))
    (pss_cons (ps_set (i := 4) sc_faults.nd rfl (.inl rfl) (pe_lst (pa_cons (pe_callB call_len_seq rfl T.nlen PySem.boot_len (pa_cons (pv 3) pa_nil)) pa_nil)))
    (pss_cons (ps_for (passes_of rfl) rfl (pi_list (pv 3)) (pg_name (i := 5) sc_faults.nd rfl (.inl rfl)) (pss_cons (ps_set (i := 6) sc_faults.nd rfl (.inl rfl) (pe_slice sl_list (pe_fld (pv 0) rfl) (po_some (pe_fld (pv 5) rfl)) (po_some (pe_fld (pv 5) rfl))))
    (pss_one (ps_set (i := 4) sc_faults.nd rfl (.inl rfl) (pe_op op_cat (pe_op op_cat (pv 4) (pe_lst (pa_cons (pe_fld (pv 5) rfl) (pa_cons (pe_op op_sub (pe_fld (pv 5) rfl) (pe_fld (pv 5) rfl)) (pa_cons (pe_callB call_len_seq rfl T.nlen PySem.boot_len (pa_cons (pv 6) pa_nil)) pa_nil))))) (pv 6))))))
    (pss_one (ps_ret (pv 4)))))), ?_⟩)
  · obtain ⟨h, na, ra, ns, row, s, X, c, rfl, _⟩ := h
    rfl
  · obtain ⟨hh, na, ra, ns, row, st, X, c, rfl, hA, hS, hN, hR, hrl, hc, g⟩ := h
    match ns, hc with
    | [], hc =>
    cases hc
    rcases hA.setO with ⟨w, sa, hs1, hs2, hs3⟩ | ⟨hs1, hs2⟩
    · have hsw := (hS.setl w hs1).1
      have hst : Si43.step st .places = (st, ⟨((Si43.faults st w).length : Int), (Si43.faults st w).flatMap fun p => Si43.ints (Si43.faultOut w p)⟩) := by
        show (st, Si43.back st _) = _
        unfold Si43.back
        rw [hs1]
      have hg := g.same hA hS hst (by omega)
      have hin := fun p (h : p ∈ Si43.faults st w) => place_in h
      have hol2 := fun p (h : p ∈ Si43.faults st w) => out_len h
      have hfew : (Si43.faults st w).length ≤ 201 := by
        have := places_few st.costs (Si43.wanted st) w
        have h2 := wanted_len hS
        unfold Si43.faults
        omega
      refine q_asgR (er_faults hA hS hs1 (ev_var rfl)) fun pa H1 n1 e1 hp => ?_
      obtain ⟨ps, hp1, hp2⟩ := hp
      generalize Si43.faults st w = l at hp2 hg hin hol2 hfew
      refine q_asgL (el_lst (ea_cons (ev_is (ev_len (ev_var rfl) (sq_of hp1)) (by rw [List.length_map, hp2.1])) ea_nil) (by show 1 ≤ 100000; decide)) fun fd H2 n2 e2 h2 => ?_
      have e02 := e1.trans e2
      have hol := hA.hol
      rw [hs2] at hol
      refine q_forLn (ev_var rfl) (sq_of (e2 _ _ hp1)) (fun i σ' H' => Ex H1 H' ∧ ∃ (f : Addr) (u v : Option V), H f = none ∧ σ' = [some (.ref hh), some (.ref na), some (.ref ra), some (.ref pa), some (.ref f), u, v] ∧
        H' f = some (.lst (((l.length : Int) :: (l.take i).flatMap fun p => Si43.ints (Si43.faultOut w p)).map V.int)) ∧ ((l.take i).flatMap fun p => Si43.ints (Si43.faultOut w p)).length ≤ 200 * i) ?h0 ?hl ?hs ?hd
      case h0 => exact fun H3 e3 => ⟨e2.trans e3, fd, _, _, ex_none e1 n2, rfl, by rw [e3 _ _ h2]; rfl, Nat.zero_le _⟩
      case hl => exact fun i σ' H' _ h => sq_of (h.1 _ _ hp1)
      case hd =>
        rintro σ' H' ⟨p1, f, u, v, fN, rfl, p2, _⟩
        rw [List.length_map, hp2.1, List.take_length] at p2
        exact s_ret (ev_var rfl) fun H3 e3 => hg H3 f fN ((e1.trans p1).trans e3) (e3 _ _ p2)
      case hs =>
        rintro i v σ' H' hv ⟨p1, f, u, u2, fN, rfl, p2, p3⟩
        rw [List.getElem?_map] at hv
        cases ht' : ps[i]? with
        | none => rw [ht'] at hv; cases hv
        | some t =>
          rw [ht'] at hv
          cases hv
          obtain ⟨x, hx, hpx⟩ := hp2.getL ht'
          have hxm := List.mem_of_getElem? hx
          have hil := (List.getElem?_eq_some_iff.mp hx).1
          have e01 := e1.trans p1
          have hx1 := hin x hxm
          have hx2 := hol2 x hxm
          have hpx' := hpx.ex p1
          have hcut : cutV (nl w) (some ((x.at2 : Nat) : Int)) (some ((x.at2 + x.words2 : Nat) : Int)) = nl (Si43.cutOut w x.at2 x.words2) := by
            rw [cutV_mid _ _ _ (by omega) (by rw [nl_len]; omega)]
            unfold nl Si43.cutOut
            rw [← List.map_drop, ← List.map_take, show x.at2 + x.words2 - x.at2 = x.words2 by omega]
          refine q_asgL (el_sl (ev_fl T.Holder 6 (hol.ex e01) (ev_var rfl)) (eo_some (ev_fl T.Place 2 hpx' (ev_var rfl))) (eo_some (ev_fl T.Place 3 hpx' (ev_var rfl))) (sq_of (e01 _ _ ((off_some hs3).2)))) fun wa H3 n3 e3 h3 => ?_
          rw [hcut] at h3
          have hpx3 := hpx'.ex e3
          refine s_asgL (el_cat (els_l (el_cat (els_v (ev_var rfl) (e3 _ _ p2)) (els_l (el_lst (ea_cons (ev_fl T.Place 0 hpx3 (ev_var rfl)) (ea_cons (ev_op (ev_fl T.Place 1 hpx3 (ev_var rfl)) (ev_fl T.Place 0 hpx3 (ev_var rfl)) rv_I0) (ea_cons (ev_lenN' (ev_var rfl) h3) ea_nil))) (by show 3 ≤ 100000; decide))) ?_)) (els_v (ev_var rfl) h3) ?_) fun f2 H4 n4 e4 h4 => ?_
          · rw [List.length_map, List.length_cons]
            simp only [List.length_cons, List.length_nil]
            omega
          · rw [List.length_append, List.length_map, List.length_cons, nl_len, hx2]
            simp only [List.length_cons, List.length_nil]
            omega
          · refine ⟨(p1.trans e3).trans e4, f2, _, _, ex_none (e01.trans e3) n4, rfl, ?_, ?_⟩
            · rw [h4, hx2, take_next hx, List.flatMap_append]
              have e1 : ((x.at_ + x.words : Nat) : Int) - (x.at_ : Int) = (x.words : Int) := by omega
              rw [e1]
              simp [Si43.ints, Si43.faultOut, nl]
            · rw [take_next hx, List.flatMap_append, List.length_append]
              simp only [List.flatMap_cons, List.flatMap_nil, List.append_nil]
              have : (Si43.ints (Si43.faultOut w x)).length ≤ 200 := by
                unfold Si43.ints Si43.faultOut
                rw [List.length_map, List.length_append, hx2]
                simp only [List.length_cons, List.length_nil]
                omega
              omega
    · have hst : Si43.step st .places = (st, ⟨-4, []⟩) := by
        show (st, Si43.back st _) = _
        unfold Si43.back
        rw [hs1]
        rfl
      refine q_asgCall (ea_cons (ev_var rfl) ea_nil) fun H1 e1 => ⟨hh, st, X, rfl, hA.ex e1, hS, fun _ => (g.no hst (by decide)).mono e1, fun w hw => by rw [hs1] at hw; cases hw⟩
end
end Pf

end
section
set_option Elab.async false
set_option linter.all false
set_option maxRecDepth 100000
set_option maxHeartbeats 4000000
/-! A fault adopted; whether a setting is the text. -/
namespace Pf
open PySem PySem.Spec PyProof.Rows L2 Evl
section
variable {P : Program} {w : World} {K : PySem.W.Frag} {mg : Str → Option Value} {base : Heap}
def cAdopt : List Nat → List Nat → Option Si43.Call
  | [r, k], _ => some (.adopt r k)
  | _, _ => none
def sp_adopt (T : Tp K mg) : Sp := spD T cAdopt
-- slots: holder 0, numbers 1, row 2, places 3, place 4
theorem ok_adopt (T : Tp K mg) : FnOk P w K mg base (L2.CX P w) 7 T.adopt.f T.adopt.fd P_adopt (sp_adopt T) := by
  refine T.adopt.F.okX sc_adopt (fun vs H Q E h => ?_) (fun cdv A outer s H vs Q E hr h => ⟨_, (pss_cons (ps_set (i := 3) sc_adopt.nd rfl (.inl rfl) (pe_call (ok_fault_places T) (hr.mono (by decide)) rfl T.fault_places.g T.fault_places.F.kp T.fault_places.b .nil (passes_call (takes_of rfl rfl rfl rfl) (fun _ _ _ _ h => h)) (pa_cons (pv 0) pa_nil)))
    (pss_cons (ps_expr (pe_call (ok_ask T) (hr.mono (by decide)) rfl T.ask.g T.ask.F.kp T.ask.b .nil (passes_call (takes_of rfl rfl rfl rfl) (fun _ _ _ _ h => h)) (pa_cons (pe_cmpR op_lt (pe_ix ix_list (pv 1) pe_int (fun _ _ => rfl)) (pe_callB call_len_seq rfl T.nlen PySem.boot_len (pa_cons (pv 3) pa_nil)) (nomark _)) (pa_cons (pe_un un_neg pe_int) pa_nil))))
    (pss_cons (ps_set (i := 4) sc_adopt.nd rfl (.inl rfl) (pe_ix ix_list (pv 3) (pe_ix ix_list (pv 1) pe_int (fun _ _ => rfl)) (fun _ _ => rfl)))
    (pss_one (ps_ret (pe_call (ok_change T) (hr.mono (by decide)) rfl T.change.g T.change.F.kp T.change.b .nil (passes_call (takes_of rfl rfl rfl rfl) (fun _ _ _ _ h => h)) (pa_cons (pv 0) (pa_cons (pe_lst (pa_cons (pe_ix ix_list (pv 1) pe_int (fun _ _ => rfl)) (pa_cons (pe_fld (pv 4) rfl) (pa_cons (pe_fld (pv 4) rfl) pa_nil)))) (pa_cons (pe_slice sl_list (pe_fld (pv 0) rfl) (po_some (pe_fld (pv 4) rfl)) (po_some (pe_fld (pv 4) rfl))) pa_nil))))))))), ?_⟩)
  · obtain ⟨h, na, ra, ns, row, s, X, c, rfl, _⟩ := h
    rfl
  · obtain ⟨hh, na, ra, ns, row, st, X, c, rfl, hA, hS, hN, hR, hrl, hc, g⟩ := h
    match ns, hc with
    | [r, kn], hc =>
    cases hc
    have hNH := off_le _ _ _ _ hN
    rcases hA.setO with ⟨w, sa, hs1, hs2, hs3⟩ | ⟨hs1, hs2⟩
    · have hsw := (hS.setl w hs1).1
      have hin := fun p (h : p ∈ Si43.faults st w) => place_in h
      refine q_asgR (er_faults hA hS hs1 (ev_var rfl)) fun pa H1 n1 e1 hp => ?_
      obtain ⟨ps, hp1, hp2⟩ := hp
      have n0 : ∀ {H' : Hp} {σ : L2.St} {te : TE}, Ex H H' → Ev te σ H' (.ref na) → Ev (tOp (rIxL K) te (tC (.int 0))) σ H' (.int (r : Int)) ∧ Ev (tOp (rIxL K) te (tC (.int 1))) σ H' (.int (kn : Int)) := fun e h => ⟨ev_at (n := 0) h ev_c (sq_of (e _ _ hNH)) rfl, ev_at (n := 1) h ev_c (sq_of (e _ _ hNH)) rfl⟩
      refine q_asks (b := decide (kn < (Si43.faults st w).length)) (ea_ask (ev_lt (n0 e1 (ev_var rfl)).2 (ev_is (ev_len (ev_var rfl) (sq_of hp1)) (by rw [List.length_map, hp2.1]))) ev_neg) (fun hb H2 e2 => ?_) (fun hb => ?_)
      · have hb := of_decide_eq_true hb
        have e02 := e1.trans e2
        have hx : (Si43.faults st w)[kn]? = some ((Si43.faults st w)[kn]'hb) := by simp [hb]
        generalize (Si43.faults st w)[kn]'hb = x at hx
        have hxm := List.mem_of_getElem? hx
        obtain ⟨t, ht, hpx⟩ := hp2.get hx
        have hx1 := hin x hxm
        have hcut : cutV (nl w) (some ((x.at2 : Nat) : Int)) (some ((x.at2 + x.words2 : Nat) : Int)) = nl (Si43.cutOut w x.at2 x.words2) := by
          rw [cutV_mid _ _ _ (by omega) (by rw [nl_len]; omega)]
          unfold nl Si43.cutOut
          rw [← List.map_drop, ← List.map_take, show x.at2 + x.words2 - x.at2 = x.words2 by omega]
        have hst : Si43.step st (.adopt r kn) = Si43.step st (.proof (.change r x.at_ (x.at_ + x.words) (Si43.cutOut w x.at2 x.words2))) := by
          rw [step_change, ← pass_marked]
          show (match st.setting with | none => _ | some w => _) = _
          rw [hs1]
          dsimp only
          rw [hx]
          rfl
        rw [hst] at g
        have hol := hA.hol
        rw [hs2] at hol
        refine q_asg (ev_at (ev_var rfl) (n0 e02 (ev_var rfl)).2 (sq_of (e2 _ _ hp1)) (by rw [List.getElem?_map, ht]; rfl)) fun H3 e3 => ?_
        have e03 := e02.trans e3
        have hpx3 := (hpx.ex e2).ex e3
        have args := eap_v (σ := [some (.ref hh), some (.ref na), some (.ref ra), some (.ref pa), some (.ref t)]) (ev_var (i := 0) (v := .ref hh) rfl) (eap_cons (EvR.toP (evl_r (el_lst (H := H3) (ea_cons (n0 e03 (ev_var (i := 1) rfl)).1 (ea_cons (ev_fl T.Place 0 hpx3 (ev_var (i := 4) rfl)) (ea_cons (ev_fl T.Place 1 hpx3 (ev_var (i := 4) rfl)) ea_nil))) (by show 3 ≤ 100000; decide))))
          (Pr := fun v l H2 => ∃ p, l = [.ref p] ∧ H3 p = none ∧ H2 p = some (.lst (nl (Si43.cutOut w x.at2 x.words2)))) (fun v H4 e4 hv => (eap_cons (σ := [some (.ref hh), some (.ref na), some (.ref ra), some (.ref pa), some (.ref t)]) (EvR.toP (evl_r (el_sl (K := K) (ev_fl T.Holder 6 (hol.ex (e03.trans e4)) (ev_var (i := 0) rfl)) (eo_some (ev_fl T.Place 2 (hpx3.ex e4) (ev_var (i := 4) rfl))) (eo_some (ev_fl T.Place 3 (hpx3.ex e4) (ev_var (i := 4) rfl))) (sq_of ((e03.trans e4) _ _ ((off_some hs3).2)))))) (Pr := fun _ l _ => l = []) (fun v2 H5 e5 hv2 => eap_nil)).imp fun ws H5 e5 hv => by
            obtain ⟨v2, l3, H6, rfl, e6, ⟨p, rfl, np, hp'⟩, e65, rfl⟩ := hv
            refine ⟨p, rfl, ex_none e4 np, ?_⟩
            rw [← hcut]
            exact e65 _ _ hp'))
        refine s_retCallP args fun vs H4 e4 hv => ?_
        obtain ⟨l, rfl, v, l2, H5, rfl, e5, ⟨na', rfl, nn, hn'⟩, e54, ra', rfl, nr, hr'⟩ := hv
        have e04 := e03.trans e4
        refine ⟨hh, na', ra', [r, x.at_, x.at_ + x.words], Si43.cutOut w x.at2 x.words2, st, X, _, rfl, hA.ex e04, hS, hA.offN (ex_none e03 nn) (e54 _ _ hn'), hA.offN (ex_none e03 nr) hr', ?_, rfl, g.mono e04⟩
        rw [out_len hxm]
        omega
      · have hb := of_decide_eq_false hb
        have hx : (Si43.faults st w)[kn]? = none := by simp; omega
        have hst : Si43.step st (.adopt r kn) = (st, ⟨-6, []⟩) := by
          show (match st.setting with | none => _ | some w => _) = _
          rw [hs1]
          dsimp only
          rw [hx]
          rfl
        exact (g.no hst (by decide)).mono e1
    · have hst : Si43.step st (.adopt r kn) = (st, ⟨-4, []⟩) := by
        show (match st.setting with | none => _ | some w => _) = _
        rw [hs1]
        rfl
      refine q_asgCall (ea_cons (ev_var rfl) ea_nil) fun H1 e1 => ⟨hh, st, X, rfl, hA.ex e1, hS, fun _ => (g.no hst (by decide)).mono e1, fun w hw => by rw [hs1] at hw; cases hw⟩
def cClean : List Nat → List Nat → Option Si43.Call
  | [], _ => some .clean
  | _, _ => none
def sp_clean (T : Tp K mg) : Sp := spD T cClean
-- slots: holder 0, numbers 1, row 2
theorem ok_clean (T : Tp K mg) : FnOk P w K mg base (L2.CX P w) 4 T.clean.f T.clean.fd P_clean (sp_clean T) := by
  refine T.clean.F.okX sc_clean (fun vs H Q E h => ?_) (fun cdv A outer s H vs Q E hr h => ⟨_, (pss_cons (ps_expr (pe_call (ok_ask T) (hr.mono (by decide)) rfl T.ask.g T.ask.F.kp T.ask.b .nil (passes_call (takes_of rfl rfl rfl rfl) (fun _ _ _ _ h => h)) (pa_cons (pe_cmpR op_notN1 (pe_fld (pv 0) rfl) pe_non (nomark _)) (pa_cons (pe_un un_neg pe_int) pa_nil))))
    (pss_one (ps_ret (pe_lst (pa_cons (pe_callTy call_int1 rfl T.nint (by decide +kernel) (pa_cons (pe_cmpR (op_eqD hr.units) (pe_fld (pv 0) rfl) (pe_call (ok_told T) (hr.mono (by decide)) rfl T.told.g T.told.F.kp T.told.b .nil pass0 (pa_cons (pe_fld (pv 0) rfl) pa_nil)) (nomark _)) pa_nil)) pa_nil))))), ?_⟩)
  · obtain ⟨h, na, ra, ns, row, s, X, c, rfl, _⟩ := h
    rfl
  · obtain ⟨hh, na, ra, ns, row, st, X, c, rfl, hA, hS, hN, hR, hrl, hc, g⟩ := h
    match ns, hc with
    | [], hc =>
    cases hc
    refine q_asks (b := !decide (svV X.sa = V.non)) (ea_ask (ev_op (ev_fl T.Holder 6 hA.hol (ev_var rfl)) ev_c rv_notN) ev_neg) (fun hb H1 e1 => ?_) (fun hb => ?_)
    · rcases hA.setO with ⟨w, sa, hs1, hs2, hs3⟩ | ⟨hs1, hs2⟩
      · have hA1 := hA.ex e1
        have hol := hA1.hol
        rw [hs2] at hol
        have hst : Si43.step st .clean = (st, ⟨if w = Si43.wanted st then 1 else 0, []⟩) := by
          show (st, Si43.back st _) = _
          unfold Si43.back
          rw [hs1]
          rfl
        have hg := g.same hA hS hst (by split <;> decide)
        refine s_retL (el_lst (ea_cons (ev_int1 (ev_opL (ev_fl T.Holder 6 hol (ev_var rfl)) (evr_l (er_told hA1 hS (ev_var rfl))) fun q H2 hq e2 => rv_eqN (sq_of (e2 _ _ (e1 _ _ ((off_some hs3).2)))) (sq_of hq))) ea_nil) (by show 1 ≤ 100000; decide)) fun p H2 n2 e2 h2 => hg H2 p (ex_none e1 n2) (e1.trans e2) ?_
        rw [h2]
        by_cases c : w = Si43.wanted st
        · simp [c]
        · simp [c]
      · rw [hs2] at hb
        exact absurd hb (by decide)
    · rcases hA.setO with ⟨w, sa, hs1, hs2, hs3⟩ | ⟨hs1, hs2⟩
      · rw [hs2] at hb
        exact absurd hb (by simp [svV])
      · have hst : Si43.step st .clean = (st, ⟨-4, []⟩) := by
          show (st, Si43.back st _) = _
          unfold Si43.back
          rw [hs1]
          rfl
        exact g.no hst (by decide)
end
end Pf

end
section
/-! What holds after all has been carried out; the tests of marks. Plain Lean about the specification alone. -/
set_option Elab.async false
set_option linter.all false
namespace Pf
open Si42
theorem putLen_le {P : Tx} {p : Option (Nat × Ask)} (hP : P.length ≤ 100) (h : ∀ x, p = some x → (akW x.2).length ≤ 40) : putLen P p ≤ 100 := by
  unfold putLen
  cases p with
  | none => simp [putQ]
  | some x =>
    have := h x rfl
    obtain ⟨m, a⟩ := x
    cases a with
    | change i j w =>
      simp only [putQ, nwQ_len]
      have : w.length ≤ 40 := this
      omega
    | keep i j => simp [putQ]
    | move i j k =>
      simp only [putQ, List.length_take, List.length_drop]
      omega
theorem wpre_le {P : Tx} {l : List (Nat × Ask)} {n0 o0 : Nat} (hP : P.length ≤ 100) (h : ∀ x ∈ l, (akW x.2).length ≤ 40) : ∀ N, (wpre P l n0 o0 N).length ≤ 101 * N
  | 0 => by rw [wpre_zero]; simp
  | N + 1 => by
    have ih := wpre_le (n0 := n0) (o0 := o0) hP h N
    rw [wpre_succ, List.length_append]
    have : (blk P l n0 o0 N).length ≤ 101 := by
      unfold blk putG
      rw [List.length_append, putQ_len]
      have h1 := putLen_le (p := putAt l N) hP (fun x hx => h x (putAt_mem hx).1)
      have h2 : (if isTaken l N = true then [] else (P[N]?).toList : Tx).length ≤ 1 := by
        split
        · simp
        · cases P[N]? <;> simp
      omega
    omega
/-! ### the chosen ones -/
structure ChOk (s : Si43.St) (l : List (Nat × Ask)) : Prop where
  sub : ∀ x ∈ l, x ∈ opens s.text.marks
  apt : Apt l
theorem ChOk.once {s : Si43.St} {l : List (Nat × Ask)} (h : ChOk s l) : ChOk s (once l) := ⟨fun x hx => h.sub x (once_sub l x hx), fun x hx y hy => h.apt x (once_sub l x hx) y (once_sub l y hy)⟩
theorem chosen_ok (s : Si43.St) : ChOk s (chosen s.text.readers s.text.marks) := by
  have h := sets_apt _ _ (chosen_mem s.text.readers s.text.marks)
  exact ⟨fun x hx => h.2.subset hx, h.1⟩
def crd (s : Si43.St) : Si43.St := { s with text := Si42.carried s.text }
/-- the text then -/
def newQ (s : Si43.St) (P : Tx) (own : Nat) (l : List (Nat × Ask)) : Tx := wpre P (once l) s.text.next own (P.length + 1)
theorem done_text {s : Si43.St} {P : Tx} {own : Nat} (h : Sok s P own) (l : List (Nat × Ask)) : (newQ s P own l).map (·.1) = done s.text.text s.text.next l := by
  unfold newQ
  rw [done_eq, h.text]
theorem step_carry {s : Si43.St} {P : Tx} {own : Nat} (h : Sok s P own) : Si43.step s (.proof .carry) = if 100 < (newQ s P own (chosen s.text.readers s.text.marks)).length then (s, ⟨-5, []⟩)
    else (crd s, ⟨(weightOf s.text.readers s.text.marks (chosen s.text.readers s.text.marks) : Int), Si42.ints ((chosen s.text.readers s.text.marks).length :: (chosen s.text.readers s.text.marks).map fun x => x.1)⟩) := by
  have e : (Si42.carried s.text).text.length = (newQ s P own (chosen s.text.readers s.text.marks)).length := by
    have := congrArg List.length (done_text h (chosen s.text.readers s.text.marks))
    rw [List.length_map] at this
    exact this.symm
  have hs : Si42.step s.text .carry = if WORDS < (Si42.carried s.text).text.length then (s.text, ok (-5)) else (Si42.carried s.text, ⟨(weightOf s.text.readers s.text.marks (chosen s.text.readers s.text.marks) : Int), Si42.ints ((chosen s.text.readers s.text.marks).length :: (chosen s.text.readers s.text.marks).map fun x => x.1)⟩) := rfl
  rw [e] at hs
  by_cases c : 100 < (newQ s P own (chosen s.text.readers s.text.marks)).length
  · rw [if_pos c]
    rw [if_pos (show WORDS < _ from c)] at hs
    exact proof_no hs (by decide)
  · rw [if_neg c]
    rw [if_neg (show ¬ WORDS < _ from c)] at hs
    exact proof_yes (by simp) hs (by omega)
/-- what becomes of a mark -/
def anewS (P Q : Tx) (gs : Nat → Nat) (pr : Nat) (q : Ask) : Stand := match askQ P Q gs q with
  | some b => .open_ b
  | none => .lost pr
def setS (P Q : Tx) (gs : Nat → Nat) (pr : Nat) (l : List (Nat × Ask)) (x : Mark × Nat) : Mark := match askOf x.1 with
  | some q => if (l.any fun y => y.1 == x.2) = true then ⟨x.1.reader, .done pr⟩ else ⟨x.1.reader, anewS P Q gs pr q⟩
  | none => x.1
theorem setS_reader (P Q : Tx) (gs : Nat → Nat) (pr : Nat) (l : List (Nat × Ask)) (x : Mark × Nat) : (setS P Q gs pr l x).reader = x.1.reader := by
  unfold setS
  split
  · split <;> rfl
  · rfl
theorem setS_open {P Q : Tx} {gs : Nat → Nat} {pr : Nat} {l : List (Nat × Ask)} {x : Mark × Nat} {q : Ask} (h : askOf (setS P Q gs pr l x) = some q) : ∃ q0, askOf x.1 = some q0 ∧ askQ P Q gs q0 = some q := by
  unfold setS at h
  cases ha : askOf x.1 with
  | none =>
    rw [ha] at h
    dsimp only at h
    rw [ha] at h
    cases h
  | some q0 =>
    rw [ha] at h
    dsimp only at h
    split at h
    · cases h
    · refine ⟨q0, rfl, ?_⟩
      unfold askOf anewS at h
      dsimp only at h
      cases hq : askQ P Q gs q0 with
      | none => rw [hq] at h; cases h
      | some b => rw [hq] at h; cases h; rfl
section
variable {s : Si43.St} {P : Tx} {own : Nat} {l : List (Nat × Ask)}
theorem crd_marks (h : Sok s P own) : (Si42.carried s.text).marks = s.text.marks.zipIdx.map (setS P (newQ s P own (chosen s.text.readers s.text.marks)) (gapQ P (once (chosen s.text.readers s.text.marks)) s.text.next own) s.text.proof (chosen s.text.readers s.text.marks)) := by
  show s.text.marks.zipIdx.map _ = _
  apply List.map_congr_left
  intro x hx
  have hx' : s.text.marks[x.2]? = some x.1 := by
    obtain ⟨i, hi⟩ := List.mem_iff_getElem?.mp hx
    rw [List.getElem?_zipIdx] at hi
    cases hm : s.text.marks[i]? with
    | none => rw [hm] at hi; cases hi
    | some m =>
      rw [hm] at hi
      have e := Option.some.inj hi
      rw [← e]
      simpa using hm
  unfold setS
  cases hst : x.1.stand with
  | open_ a =>
    have ha : askOf x.1 = some a := by unfold askOf; rw [hst]
    rw [ha]
    dsimp only
    have hop : (x.2, a) ∈ opens s.text.marks := opens_mem.mpr ⟨x.1, hx', ha⟩
    have hA := (chosen_ok s).once.apt
    have hwf := h.wf _ hop
    have e := ask_eq (P := P) (Q := newQ s P own (chosen s.text.readers s.text.marks)) (l := chosen s.text.readers s.text.marks) (n0 := s.text.next) (o0 := own) (wpre_pw h.tx hA _) (same2_wpre h.tx) hwf
    rw [done_text h, h.text] at e
    split
    · rfl
    · unfold anewS
      rw [← e]
      cases askThen s.text.text (done s.text.text s.text.next (chosen s.text.readers s.text.marks)) (chosen s.text.readers s.text.marks) a <;> rfl
  | done p =>
    have ha : askOf x.1 = none := by unfold askOf; rw [hst]
    rw [ha]
  | lost p =>
    have ha : askOf x.1 = none := by unfold askOf; rw [hst]
    rw [ha]
  | withdrawn =>
    have ha : askOf x.1 = none := by unfold askOf; rw [hst]
    rw [ha]
theorem opens_map {f : Mark × Nat → Mark} {ms : List Mark} {x : Nat × Ask} (h : x ∈ opens (ms.zipIdx.map f)) : ∃ m, ms[x.1]? = some m ∧ askOf (f (m, x.1)) = some x.2 := by
  obtain ⟨m, h1, h2⟩ := opens_mem.mp h
  rw [List.getElem?_map, List.getElem?_zipIdx] at h1
  cases hm : ms[x.1]? with
  | none => rw [hm] at h1; cases h1
  | some m' =>
    rw [hm] at h1
    have e := Option.some.inj h1
    refine ⟨m', rfl, ?_⟩
    simp only [Nat.zero_add] at e
    rw [e]
    exact h2
theorem opens_map_len {f : Mark × Nat → Mark} {ms : List Mark} (hf : ∀ m j, askOf m = none → askOf (f (m, j)) = none) : (opens (ms.zipIdx.map f)).length ≤ (opens ms).length := by
  have h1 := congrArg List.length (opens_range (ms.zipIdx.map f))
  have h2 := congrArg List.length (opens_range ms)
  rw [List.length_map] at h1 h2
  rw [h1, h2, List.length_map, List.length_zipIdx]
  rw [← List.countP_eq_length_filter, ← List.countP_eq_length_filter]
  apply List.countP_mono_left
  intro i hi ho
  unfold isO at ho ⊢
  rw [List.getElem?_map, List.getElem?_zipIdx] at ho
  cases hm : ms[i]? with
  | none => rw [hm] at ho; cases ho
  | some m =>
    rw [hm] at ho
    show (askOf m).isSome = true
    cases ha : askOf m with
    | some q => rfl
    | none =>
      have := hf m i ha
      have ho' : (askOf (f (m, 0 + i))).isSome = true := ho
      rw [Nat.zero_add, this] at ho'
      cases ho'
/-- the words that are taken by changes -/
def goneQ (P : Tx) (l : List (Nat × Ask)) : List (Tw × Nat) := tkL P (once l) P.length
theorem crd_gone (h : Sok s P own) : (Si42.carried s.text).gone = s.text.gone ++ (goneQ P (chosen s.text.readers s.text.marks)).map fun y => (y.1.1.id, y.2) := by
  have e := gone_eq (P := P) (chosen_ok s).once.apt (once_pw _)
  rw [h.text] at e
  show s.text.gone ++ _ = _
  congr 1
/-- a word taken by a change -/
theorem goneQ_mem {y : Tw × Nat} (hy : y ∈ goneQ P l) : ∃ p i j w, P[p]? = some y.1 ∧ (y.2, Ask.change i j w) ∈ once l ∧ i ≤ p ∧ p < j := by
  unfold goneQ tkL at hy
  obtain ⟨p, _, hp⟩ := List.mem_flatMap.mp hy
  unfold tkRow at hp
  cases hx : P[p]? with
  | none => rw [hx] at hp; simp at hp
  | some x =>
    rw [hx] at hp
    cases ht : tkF (once l) p with
    | none => rw [ht] at hp; simp [chg] at hp
    | some z =>
      rw [ht] at hp
      obtain ⟨m, a⟩ := z
      cases a with
      | keep i j => simp [chg] at hp
      | move i j k => simp [chg] at hp
      | change i j w =>
        have e : y = (x, m) := by simpa [chg] using hp
        subst e
        have hm := tkF_mem _ _ ht
        have h2 := hm.2
        simp [takes, taken] at h2
        exact ⟨p, i, j, w, hx, hm.1, of_decide_eq_true h2.1, of_decide_eq_true h2.2⟩
theorem goneQ_nodup (hP : P.Pairwise Apart2) : ((goneQ P l).map fun y => y.1.1.id).Nodup := by
  unfold goneQ tkL
  rw [List.map_flatMap]
  unfold List.Nodup
  rw [List.pairwise_flatMap]
  constructor
  · intro g _
    unfold tkRow
    cases P[g]? with
    | none => simp
    | some x => cases chg (tkF (once l) g) <;> simp
  · refine List.Pairwise.imp_of_mem ?_ (List.nodup_range)
    intro g g' hg hg' hne
    intro a ha b hb
    have hx : ∀ {g a}, a ∈ (tkRow P (once l) g).map (fun y => y.1.1.id) → ∃ x, P[g]? = some x ∧ a = x.1.id := by
      intro g a ha
      unfold tkRow at ha
      cases hx : P[g]? with
      | none => rw [hx] at ha; simp at ha
      | some x =>
        rw [hx] at ha
        cases hc : chg (tkF (once l) g) with
        | none => rw [hc] at ha; simp at ha
        | some m =>
          rw [hc] at ha
          refine ⟨x, rfl, ?_⟩
          simpa using ha
    obtain ⟨x, hx1, rfl⟩ := hx ha
    obtain ⟨y, hy1, rfl⟩ := hx hb
    exact (pw_at hP hx1 hy1 hne).1
theorem crd_next (s : Si43.St) : (Si42.carried s.text).next = s.text.next + ((once (chosen s.text.readers s.text.marks)).map fun x => fresh (some x)).sum := rfl
theorem sok_carry (h : Sok s P own) (hl : (newQ s P own (chosen s.text.readers s.text.marks)).length ≤ 100) :
    Sok (crd s) (newQ s P own (chosen s.text.readers s.text.marks)) (own + (newQ s P own (chosen s.text.readers s.text.marks)).length + P.length) := by
  have ch := (chosen_ok s).once
  have hnx := crd_next s
  have hmk := crd_marks h
  have hgn := crd_gone h
  have hdt := done_text h (chosen s.text.readers s.text.marks)
  generalize hL : chosen s.text.readers s.text.marks = l at *
  have mem : ∀ x ∈ newQ s P own l, (∃ p, P[p]? = some x ∧ ∃ g, Src (once l) g p) ∨ (s.text.next ≤ x.1.id ∧ x.1.id < (Si42.carried s.text).next ∧ own ≤ x.2 ∧ x.2 < own + (newQ s P own l).length ∧ ∃ m, x.1.by_ = some m ∧ m < s.text.marks.length) := by
    intro x hx
    rcases wpre_mem hx with h1 | ⟨h1, h2, h3, h4, m, h5, a, h6⟩
    · exact Or.inl h1
    · refine Or.inr ⟨h1, ?_, h3, ?_, m, h5, opens_lt (ch.sub _ h6)⟩
      · rw [hnx]
        have := nAt_bound (once l) (P.length + 1)
        rw [nAt_add] at h2
        omega
      · have := oAt_bound P (once l) s.text.next own (P.length + 1)
        exact Nat.lt_of_lt_of_le h4 this
  have nx : s.text.next ≤ (Si42.carried s.text).next := by rw [hnx]; omega
  have op : ∀ x ∈ opens (Si42.carried s.text).marks, ∃ q0, (x.1, q0) ∈ opens s.text.marks ∧ askQ P (newQ s P own l) (gapQ P (once l) s.text.next own) q0 = some x.2 := by
    intro x hx
    rw [hmk] at hx
    obtain ⟨m, h1, h2⟩ := opens_map hx
    obtain ⟨q0, h3, h4⟩ := setS_open h2
    exact ⟨q0, opens_mem.mpr ⟨m, h1, h3⟩, h4⟩
  refine ⟨?_, ⟨wpre_pw h.tx ch.apt _, fun x hx => ?_⟩, hl, h.fl, Nat.le_trans h.fnext nx, fun x hx hb => ?_, fun x hx m hb => ?_, fun m hm => ?_, h.rl, ?_, ?_, fun x hx => ?_, fun x hx => ?_, h.setl, ?_, fun x hx => ?_, fun x hx => ?_⟩
  · show (newQ s P own l).map (·.1) = done s.text.text s.text.next (chosen s.text.readers s.text.marks)
    rw [hL]
    exact hdt
  · show x.1.id < (Si42.carried s.text).next ∧ x.2 < _
    rcases mem x hx with ⟨p, hp, _⟩ | ⟨_, h2, _, h4, _⟩
    · have := h.tx.at hp
      omega
    · omega
  · rcases mem x hx with ⟨p, hp, _⟩ | ⟨_, _, _, _, m, h5, _⟩
    · exact h.bynone x (List.mem_of_getElem? hp) hb
    · rw [hb] at h5; cases h5
  · have hml : (Si42.carried s.text).marks.length = s.text.marks.length := by rw [hmk, List.length_map, List.length_zipIdx]
    show s.text.first.length ≤ _ ∧ m < (Si42.carried s.text).marks.length
    rw [hml]
    rcases mem x hx with ⟨p, hp, _⟩ | ⟨h1, _, _, _, m', h5, h6⟩
    · exact h.bysome x (List.mem_of_getElem? hp) m hb
    · rw [hb] at h5
      cases h5
      exact ⟨Nat.le_trans h.fnext h1, h6⟩
  · have hm' : m ∈ (Si42.carried s.text).marks := hm
    rw [hmk] at hm'
    obtain ⟨y, hy, rfl⟩ := List.mem_map.mp hm'
    rw [setS_reader]
    obtain ⟨i, hi⟩ := List.mem_iff_getElem?.mp hy
    rw [List.getElem?_zipIdx] at hi
    cases hm2 : s.text.marks[i]? with
    | none => rw [hm2] at hi; cases hi
    | some m2 =>
      rw [hm2] at hi
      rw [← Option.some.inj hi]
      exact h.rd m2 (List.mem_of_getElem? hm2)
  · show (Si42.carried s.text).marks.length ≤ 60
    rw [hmk, List.length_map, List.length_zipIdx]
    exact h.ml
  · show (opens (Si42.carried s.text).marks).length ≤ 10
    rw [hmk]
    refine Nat.le_trans (opens_map_len fun m j ha => ?_) h.ol
    unfold setS
    dsimp only
    rw [ha]
    exact ha
  · obtain ⟨q0, h1, h2⟩ := op x hx
    exact askQ_wf (h.wf _ h1) (fun g hg => gapQ_le P (once l) s.text.next own g hg) h2
  · obtain ⟨q0, h1, h2⟩ := op x hx
    rw [(askQ_words h2).1]
    exact h.wd _ h1
  · show ((Si42.carried s.text).gone.map (·.1)).Nodup
    rw [hgn, List.map_append, List.nodup_append, List.map_map]
    refine ⟨h.gnd, goneQ_nodup h.tx.pw, fun a ha b hb => ?_⟩
    obtain ⟨x, hx, rfl⟩ := List.mem_map.mp ha
    obtain ⟨y, hy, rfl⟩ := List.mem_map.mp hb
    obtain ⟨p, i, j, w, hp, _⟩ := goneQ_mem hy
    exact fun e => (h.gdis x hx).2 _ (List.mem_of_getElem? hp) e.symm
  · have hx' : x ∈ (Si42.carried s.text).gone := hx
    rw [hgn] at hx'
    show x.1 < (Si42.carried s.text).next ∧ _
    rcases List.mem_append.mp hx' with hx' | hx'
    · have h1 := h.gdis x hx'
      refine ⟨by omega, fun y hy => ?_⟩
      rcases mem y hy with ⟨p, hp, _⟩ | ⟨h3, _⟩
      · exact h1.2 y (List.mem_of_getElem? hp)
      · omega
    · obtain ⟨z, hz, rfl⟩ := List.mem_map.mp hx'
      obtain ⟨p, i, j, w, hp, hc, hip, hpj⟩ := goneQ_mem hz
      have hlt := (h.tx.at hp).1
      refine ⟨by dsimp only; omega, fun y hy => ?_⟩
      dsimp only
      rcases mem y hy with ⟨p', hp', g, hsrc⟩ | ⟨h3, _⟩
      · intro e
        have : p' = p := by
          by_cases c : p' = p
          · exact c
          · exact absurd e (pw_at h.tx.pw hp' hp c).1
        subst this
        have htk : takes (z.2, Ask.change i j w) p' = true := by simp [takes, taken, hip, hpj]
        rcases hsrc with ⟨rfl, hn⟩ | ⟨m, i2, j2, hm, h1, h2⟩
        · have : isTaken (once l) p' = true := by
            unfold isTaken
            rw [List.any_eq_true]
            exact ⟨_, hc, htk⟩
          rw [hn] at this
          cases this
        · have := takes_one (x := (m, Ask.move i2 j2 g)) (y := (z.2, Ask.change i j w)) (p := p') (ch.apt _ hm _ hc) (by simp [takes, taken, h1, h2]) htk
          cases this
      · omega
  · have hml : (Si42.carried s.text).marks.length = s.text.marks.length := by rw [hmk, List.length_map, List.length_zipIdx]
    have hx' : x ∈ (Si42.carried s.text).gone := hx
    rw [hgn] at hx'
    show x.2 < (Si42.carried s.text).marks.length
    rw [hml]
    rcases List.mem_append.mp hx' with hx' | hx'
    · exact h.gmk x hx'
    · obtain ⟨z, hz, rfl⟩ := List.mem_map.mp hx'
      obtain ⟨p, i, j, w, hp, hc, _⟩ := goneQ_mem hz
      exact opens_lt (ch.sub _ hc)
end
end Pf

end
section
set_option Elab.async false
set_option linter.all false
set_option maxRecDepth 100000
set_option maxHeartbeats 4000000
/-! Carried out. -/
namespace Pf
open PySem PySem.Spec PyProof.Rows L2 Evl
theorem set1_eq (P Q : Tx) (gs : Nat → Nat) (pr : Nat) (l : List (Nat × Si42.Ask)) : set1 P Q gs pr l = setS P Q gs pr l := rfl
theorem off_sub {A F : List Addr} {H H' : Hp} (e : Ex (Off A H) (Off A H')) (h : ∀ a ∈ A, a ∈ F) : Ex (Off F H) (Off F H') := fun b o hb => by
  obtain ⟨c, hb⟩ := off_some hb
  have c2 : b ∉ A := fun z => c (h b z)
  rw [off_out c]
  exact (off_some (e b o (by rw [off_out c2]; exact hb))).2
theorem off_le2 {A F : List Addr} (H : Hp) (h : ∀ a ∈ A, a ∈ F) : Ex (Off F H) (Off A H) := fun b o hb => by
  obtain ⟨c, hb⟩ := off_some hb
  rw [off_out (fun z => c (h b z))]
  exact hb
def isF (x : Tw × Nat) : Bool := x.1.1.by_.isNone
theorem firstOf_isF (x : Tw × Nat) : decide ((0 : Int) ≤ firstOf x.1.1) = isF x := by
  unfold firstOf isF
  cases x.1.1.by_ with
  | none => simp
  | some m => simp
/-- the pairs kept -/
theorem al_filter {α β : Type} {R : α → β → Prop} {l : List α} {m : List β} (h : Al2 R l m) (p : β → Bool) : Al2 R (((l.zip m).filter fun z => p z.2).map (·.1)) (m.filter p) := by
  have e : m.filter p = ((l.zip m).filter fun z => p z.2).map (·.2) := by
    have h2 : m = (l.zip m).map (·.2) := by
      rw [List.map_snd_zip (by rw [h.1]; exact Nat.le_refl _)]
    conv => lhs; rw [h2]
    rw [List.filter_map]
    rfl
  rw [e]
  refine ⟨by rw [List.length_map, List.length_map], fun i a b h1 h2 => ?_⟩
  rw [List.getElem?_map] at h1 h2
  cases hz : ((l.zip m).filter fun z => p z.2)[i]? with
  | none => rw [hz] at h1; cases h1
  | some z =>
    rw [hz] at h1 h2
    cases h1
    cases h2
    have hm := (List.mem_filter.mp (List.mem_of_getElem? hz)).1
    obtain ⟨j, hj⟩ := List.mem_iff_getElem?.mp hm
    rw [List.getElem?_zip_eq_some] at hj
    exact h.2 j _ _ hj.1 hj.2
section
variable {P : Program} {w : World} {K : PySem.W.Frag} {mg : Str → Option Value} {base : Heap}
def cCarry : List Nat → List Nat → Option Si43.Call
  | [], _ => some (.proof .carry)
  | _, _ => none
def sp_carry (T : Tp K mg) : Sp := spD T cCarry
theorem wdO {s : Si43.St} {P : Tx} {own : Nat} (h : Sok s P own) : WdO s.text.marks := fun x hx => by
  have := h.wd x hx
  omega
theorem sok_goneF {s : Si43.St} {P : Tx} {own : Nat} (h : Sok s P own) : goneF (crd s) = goneF s ++ ((goneQ P (Si42.chosen s.text.readers s.text.marks)).filter isF).map fun x => (x.1.1.id, x.2) := by
  unfold goneF
  show List.filter _ (Si42.carried s.text).gone = _
  rw [crd_gone h, List.filter_append]
  congr 1
  rw [List.filter_map]
  congr 1
  apply List.filter_congr
  intro y hy
  obtain ⟨p, i, j, w, hp, _⟩ := goneQ_mem hy
  have hm := List.mem_of_getElem? hp
  show decide (y.1.1.id < s.text.first.length) = isF y
  unfold isF
  cases hb : y.1.1.by_ with
  | none =>
    have := h.bynone _ hm hb
    simp [this]
  | some m =>
    have := (h.bysome _ hm m hb).1
    simp
    omega
theorem goneQ_tk (P : Tx) (l : List (Nat × Si42.Ask)) : tkL P (Si42.once l) (P.length + 1) = goneQ P l := by
  unfold goneQ
  rw [tkL_succ]
  unfold tkRow
  have : P[P.length]? = none := by simp
  rw [this]
  simp
-- slots: holder 0, numbers 1, row 2, choice 3, found 4, one 5
theorem ok_carry (T : Tp K mg) : FnOk P w K mg base (L2.CX P w) 5 T.carry.f T.carry.fd P_carry (sp_carry T) := by
  refine T.carry.F.okX sc_carry (fun vs H Q E h => ?_) (fun cdv A outer s H vs Q E hr h => ⟨_, (pss_cons (ps_set (i := 3) sc_carry.nd rfl (.inl rfl) (pe_call (ok_heaviest T) (hr.mono (by decide)) rfl T.heaviest.g T.heaviest.F.kp T.heaviest.b .nil pass0 (pa_cons (pe_fld (pv 0) rfl) (pa_cons (pe_fld (pv 0) rfl) pa_nil))))
    (pss_cons (ps_set (i := 4) sc_carry.nd rfl (.inl rfl) (pe_call (ok_carried T) (hr.mono (by decide)) rfl T.carried.g T.carried.F.kp T.carried.b .nil pass0 (pa_cons (pe_fld (pv 0) rfl) (pa_cons (pe_fld (pv 0) rfl) (pa_cons (pe_fld (pv 3) rfl) (pa_cons (pe_fld (pv 0) rfl) pa_nil))))))
    (pss_cons (ps_expr (pe_call (ok_ask T) (hr.mono (by decide)) rfl T.ask.g T.ask.F.kp T.ask.b .nil (passes_call (takes_of rfl rfl rfl rfl) (fun _ _ _ _ h => h)) (pa_cons (pe_cmpR op_le (pe_callB call_len_seq rfl T.nlen PySem.boot_len (pa_cons (pe_fld (pv 4) rfl) pa_nil)) (pe_glob (v := .int 100) rfl T.kMOST_TEXT ⟨_, rfl⟩) (nomark _)) (pa_cons (pe_un un_neg pe_int) pa_nil))))
    (pss_cons (ps_expr (pe_call (ok_settle_marks T) (hr.mono (by decide)) rfl T.settle_marks.g T.settle_marks.F.kp T.settle_marks.b .nil pass0 (pa_cons (pe_fld (pv 0) rfl) (pa_cons (pe_fld (pv 3) rfl) (pa_cons (pe_fld (pv 0) rfl) (pa_cons (pv 4) (pa_cons (pe_fld (pv 0) rfl) pa_nil)))))))
    (pss_cons (ps_fld (pv 0) (pe_op op_add (pe_op op_add (pe_fld (pv 0) rfl) (pe_callB call_len_seq rfl T.nlen PySem.boot_len (pa_cons (pe_fld (pv 4) rfl) pa_nil))) (pe_callB call_len_seq rfl T.nlen PySem.boot_len (pa_cons (pe_fld (pv 0) rfl) pa_nil))) rfl)
    (pss_cons (ps_fld (pv 0) (pe_op op_cat (pe_fld (pv 0) rfl) (pe_lc (own := [("one", 5)]) (g := (gName 5)) (tt := (tTest (tOp (rI0 fun i j => .bl (decide (j ≤ i))) (tFld K (tOp (rIxT K) (tVar 5) (tC (.int 0))) "first") (tC (.int 0))))) (te := (tVar 5)) rfl sc_carry.nd (pi_list (pe_fld (pv 4) rfl)) (blkOk_by (own := [("one", 5)]) (N := N_carry) (sc := defScope s_carry) (by decide +kernel)) (fun _ _ _ _ _ => (pg_name (i := 5) sc_carry.nd rfl (.inl rfl))) (fun _ _ _ _ _ => (pts_one (pt_cmpR op_ge (pe_fld (pe_ix ix_tup (pv 5) pe_int (fun _ _ => rfl)) rfl) pe_int (nomark _)))) (fun _ _ _ _ _ => (pv 5)))) rfl)
    (pss_cons (ps_fld (pv 0) (pe_fld (pv 4) rfl) rfl)
    (pss_cons (ps_fld (pv 0) (pe_op op_add (pe_fld (pv 0) rfl) pe_int) rfl)
    (pss_one (ps_ret (pe_op op_cat (pe_lst (pa_cons (pe_fld (pv 3) rfl) (pa_cons (pe_callB call_len_seq rfl T.nlen PySem.boot_len (pa_cons (pe_fld (pv 3) rfl) pa_nil)) pa_nil))) (pe_fld (pv 3) rfl)))))))))))), ?_⟩)
  · obtain ⟨h, na, ra, ns, row, s, X, c, rfl, _⟩ := h
    rfl
  · obtain ⟨hh, na, ra, ns, row, st, X, c, rfl, hA, hS, hN, hR, hrl, hc, g⟩ := h
    match ns, hc with
    | [], hc =>
    cases hc
    rw [step_carry hS] at g
    have hch := chosen_ok st
    have hmk := crd_marks hS
    have hgF := sok_goneF hS
    have hok := sok_carry hS
    have hchl : (Si42.chosen st.text.readers st.text.marks).length ≤ 10 := by
      have := (sets_apt _ _ (chosen_mem st.text.readers st.text.marks)).2.length_le
      exact Nat.le_trans this hS.ol
    refine q_asgP (evp_callP (ea_cons (ev_fl T.Holder 4 hA.hol (ev_var rfl)) (ea_cons (ev_fl T.Holder 3 hA.hol (ev_var rfl)) ea_nil)) fun H1 e1 => ⟨X.ma, X.as, st.text.marks, X.wa, st.text.readers, X.P.length, rfl, hA.mksH.ex e1 e1, e1 _ _ hA.wts, hS.ml, hS.ol, hS.wf, hS.rd, rfl⟩) fun v H1 e1 hv => ?_
    obtain ⟨cc, rfl, ⟨an, hc1, hc2⟩, _⟩ := hv
    generalize hL : Si42.chosen st.text.readers st.text.marks = l at *
    have hlen : l.length ≤ 10 := hchl
    have hA1 := hA.ex e1
    refine q_asgR (er_callR (ea_cons (ev_fl T.Holder 1 hA1.hol (ev_var rfl)) (ea_cons (ev_fl T.Holder 4 hA1.hol (ev_var rfl)) (ea_cons (ev_fl T.Choice 0 hc1 (ev_var rfl)) (ea_cons (ev_fl T.Holder 8 hA1.hol (ev_var rfl)) ea_nil)))) fun H2 e2 =>
      ⟨X.F hh, X.ta, X.ats, X.P, X.ma, X.as, st.text.marks, an, l, st.text.next, X.own, rfl, (hA1.ex e2).sm, e2 _ _ hA1.textH, (hA1.ex e2).words, hS.len, hA1.mksH.ex e2 e2, e2 _ _ hc2, hch.sub, by omega, hS.ml, hS.wf, wdO hS, hch.apt, rfl⟩) fun fa H2 n2 e2 hC => ?_
    have hA2 := hA1.ex e2
    have e02 := e1.trans e2
    obtain ⟨wa, ga, ka, bs, ts, c1, c2, c3, c4, c5, c6⟩ := id hC
    have bsl : bs.length = (newQ st X.P X.own l).length := c3.1
    have w0 := off_le _ _ _ _ c2
    refine q_asks (b := decide ((newQ st X.P X.own l).length ≤ 100)) (ea_ask (ev_le (ev_is (ev_len (ev_fl T.Carried 0 (c1.ex (off_le _ _)) (ev_var rfl)) (sq_of w0)) (by rw [List.length_map, bsl])) (ev_c : Ev (tC (.int ((100 : Nat) : Int))) _ _ _)) ev_neg) (fun hb H3 e3 => ?_) (fun hb => ?_)
    · have hb := of_decide_eq_true hb
      rw [if_neg (by omega)] at g
      have hok := hok hb
      have e03 := e02.trans e3
      have hA3 := hA2.ex e3
      obtain ⟨d1, d2, d3, d4, d5, d6, d7⟩ := hA.hN
      have sub : ∀ a ∈ X.as, a ∈ X.F hh := fun a ha => X.aF hh ha
      have c13 := (hc1.ex e2).ex e3
      have c23 := (e2.trans e3) _ _ hc2
      -- settle
      refine q_callD (ea_cons (ev_fl T.Holder 4 hA3.hol (ev_var rfl)) (ea_cons (ev_fl T.Choice 0 c13 (ev_var rfl)) (ea_cons (ev_fl T.Holder 1 hA3.hol (ev_var rfl)) (ea_cons (ev_var rfl) (ea_cons (ev_fl T.Holder 2 hA3.hol (ev_var rfl)) ea_nil))))) fun H4 e4 => ?_
      have hA4 := hA3.ex e4
      have e04 := e03.trans e4
      have e24 := e3.trans e4
      refine ⟨X.ma, an, X.ta, fa, st.text.proof, X.as, st.text.marks, l, Si42.once l, st.text.next, X.own, X.P, X.ats, Off (X.F hh) H4, off_le _ _, rfl, hA4.mks, d7, hS.ml, e4 _ _ c23, hS.wf, hA4.textH, hA4.words.mono fun _ _ k => k.ex (off_le2 H4 sub), (hC.ex (off_ex e24)).ex (off_le2 H4 sub), hS.len, fun H5 o5 m5 => ?_⟩
      rw [set1_eq] at m5
      have m5' : Al2 (MarkAt T H5 (Off (X.F hh) H4)) X.as (Si42.carried st.text).marks := by rw [hmk]; exact m5
      have oF5 := off_sub o5 sub
      -- what stands
      have kp : ∀ {b : Addr} {o : HO}, b ∉ X.as → H4 b = some o → H5 b = some o := fun {b o} hb h => (off_some (o5 b o (by rw [off_out hb]; exact h))).2
      have lstN : ∀ {b : Addr} {xs : List V}, H4 b = some (.lst xs) → b ∉ X.as := fun {b xs} h => not_mark hA4.mks.2 h
      have insN : ∀ {b C : Addr} {nm : List Str} {vs : List V}, InsAt H4 b C nm vs → nm.length ≠ 8 → b ∉ X.as := fun {b C nm vs} h hl z => by
        obtain ⟨vs', hi⟩ := mark_ins hA4.mks.2 z
        exact h.ne hi hl rfl
      have insK : ∀ {b C : Addr} {nm : List Str} {vs : List V}, InsAt H4 b C nm vs → nm.length ≠ 8 → InsAt H5 b C nm vs := fun {b C nm vs} h hl => by
        obtain ⟨h1, dx, h2⟩ := id h
        exact ⟨h1, dx, kp (insN h hl) h2⟩
      have hol5 := insK hA4.hol (by decide)
      have c15 := insK (c13.ex e4) (by decide)
      have c25 := kp (lstN (e4 _ _ c23)) (e4 _ _ c23)
      have f15 : InsAt H5 fa T.Carried.C flCarried [.ref wa, .ref ga, .ref ka] := insK ((c1.ex (off_le _ _)).ex e24) (by decide)
      have wa5 : H5 wa = some (.lst (bs.map V.ref)) := kp (lstN (e24 _ _ w0)) (e24 _ _ w0)
      have ta5 : H5 X.ta = some (.lst (X.ats.map V.ref)) := kp (lstN hA4.textH) hA4.textH
      have ga5 : H5 X.ga = some (.lst (X.gs.map V.ref)) := kp (lstN hA4.gonH) hA4.gonH
      have ka5 : H5 ka = some (.lst (ts.map V.ref)) := kp (lstN (e24 _ _ (off_le _ _ _ _ c5))) (e24 _ _ (off_le _ _ _ _ c5))
      have tk5 : Al2 (TkAt T (Off (X.F hh) H5)) ts (goneQ X.P l) := by
        rw [goneQ_tk] at c6
        exact c6.mono fun _ _ k => (k.ex (off_ex e24)).ex oF5
      -- own
      refine q_flK T.Holder 8 hol5 (fun H6 e => ev_var rfl) (ev_p (ev_add (ev_add (ev_fl T.Holder 8 hol5 (ev_var rfl)) (ev_is (ev_len (ev_fl T.Carried 0 f15 (ev_var rfl)) (sq_of wa5)) (by rw [List.length_map, bsl]))) (ev_is (ev_len (ev_fl T.Holder 1 hol5 (ev_var rfl)) (sq_of ta5)) (by rw [List.length_map, hA.words.1])))) fun y H6 G6 e6 hy k6 hi6 => ?_
      subst hy
      have k56 := Keep.ex1 e6 k6
      have neH : ∀ {b : Addr} {xs : List V}, H5 b = some (.lst xs) → b ≠ hh := fun {b xs} h z => by
        obtain ⟨_, dx, hi⟩ := hol5
        rw [z, hi] at h
        cases h
      have neI : ∀ {b C : Addr} {nm : List Str} {vs : List V}, InsAt H5 b C nm vs → nm.length ≠ 9 → b ≠ hh := fun {b C nm vs} h hl => h.ne hol5 hl
      have f16 := f15.keep k56 (neI f15 (by decide))
      have ka6 := k56 _ _ ka5 (neH ka5)
      have ga6 := k56 _ _ ga5 (neH ga5)
      have oF6 : Ex (Off (X.F hh) H5) (Off (X.F hh) G6) := k56.off (X.hF hh)
      have tk6 : Al2 (TkAt T (Off (X.F hh) G6)) ts (goneQ X.P l) := tk5.mono fun _ _ k => k.ex oF6
      have hgl := hA.gons.1
      have hGl : X.gs.length ≤ 100 := by
        rw [hgl, ← List.length_map (fun x : Tw × Nat => (x.1.1.id, x.2)), hA.eqG]
        exact hS.gl
      have tsl : ts.length ≤ 100 := by
        rw [tk6.1, ← List.length_map (fun y : Tw × Nat => y.1.1.id)]
        have h1 := goneQ_nodup (l := l) hS.tx.pw
        have h2 : ∀ (N : Nat), (tkL X.P (Si42.once l) N).length ≤ N := fun N => by
          induction N with
          | zero => simp [tkL]
          | succ N ih =>
            rw [tkL_succ, List.length_append]
            have : (tkRow X.P (Si42.once l) N).length ≤ 1 := by
              unfold tkRow
              split <;> simp
            omega
        rw [List.length_map]
        have := h2 X.P.length
        have h3 := hS.len
        unfold goneQ
        omega
      have al := al_filter tk6 isF
      generalize hgs : ((ts.zip (goneQ X.P l)).filter fun z => isF z.2).map (·.1) = gs2 at al
      have gs2l : gs2.length ≤ 100 := by
        rw [← hgs, List.length_map]
        refine Nat.le_trans (List.length_filter_le _ _) ?_
        rw [List.length_zip]
        omega
      have lcT := el_lcG (K := K) (σ := [some (.ref hh), some (.ref na), some (.ref ra), some (.ref cc), some (.ref fa), none]) (H := G6) (tl := tFld K (tVar 4) (Str.ofString "taken")) (te := tVar 5) (t := tTest (tOp (rI0 fun i j => V.bl (decide (j ≤ i))) (tFld K (tOp (rIxT K) (tVar 5) (tC (.int 0))) (Str.ofString "first")) (tC (.int 0)))) (j := 5) (vs := [5])
        (R := fun v (x : Addr × (Tw × Nat)) => v = V.ref x.1 ∧ TkAt T G6 x.1 x.2) (xs := ts.zip (goneQ X.P l)) (vs0 := ts.map V.ref) (a := ka) (fun x => isF x.2) (fun x => V.ref x.1) (ev_fl T.Carried 2 f16 (ev_var rfl)) ka6 ⟨by rw [List.length_map, List.length_zip, tk6.1, Nat.min_self], fun i v z h1 h2 => by
          rw [List.getElem?_zip_eq_some] at h2
          rw [List.getElem?_map, h2.1] at h1
          cases h1
          exact ⟨rfl, (tk6.2 i _ _ h2.1 h2.2).ex (off_le _ _)⟩⟩ (by rw [List.length_zip]; omega) (fun _ => rfl) (fun v z H7 e7 hv => by
          obtain ⟨rfl, wd, h1, h2⟩ := hv
          refine et_is' (et_test (ev_op (ev_fl T.Word 2 (h2.ex e7) (ev_ixT (ev_var rfl) (e7 _ _ h1) rfl)) ev_c rv_I0)) ?_
          exact firstOf_isF z.2) (fun v z H7 e7 hv _ => by
          obtain ⟨rfl, _⟩ := hv
          exact ev_var rfl)
      have emap : (((ts.zip (goneQ X.P l)).filter fun x => isF x.2).map fun x => V.ref x.1) = gs2.map V.ref := by
        rw [← hgs, List.map_map]
        rfl
      rw [emap] at lcT
      refine q_flK T.Holder 5 hi6 (fun H7 e => ev_var rfl) (EvR.toP (evl_r (el_cat (els_v (ev_fl T.Holder 5 hi6 (ev_var rfl)) ga6) (els_l lcT) (by rw [List.length_map, List.length_map]; omega)))) fun y H7 G7 e7 hy k7 hi7 => ?_
      obtain ⟨ga2, rfl, n7, h7⟩ := hy
      have k67 := Keep.ex1 e7 k7
      have g2H : ga2 ≠ hh := by
        obtain ⟨_, dx, hi⟩ := hi6
        exact ne_some n7 hi
      have v7 : G7 ga2 = some (.lst ((X.gs ++ gs2).map V.ref)) := by
        rw [List.map_append]
        exact k7 _ _ h7 g2H
      have f17 := f16.keep k67 (neI f15 (by decide))
      refine q_flK T.Holder 1 hi7 (fun H8 e => ev_var rfl) (ev_p (ev_fl T.Carried 0 f17 (ev_var rfl))) fun y H8 G8 e8 hy k8 hi8 => ?_
      subst hy
      have k78 := Keep.ex1 e8 k8
      refine q_flK T.Holder 2 hi8 (fun H9 e => ev_var rfl) (ev_p (ev_op (ev_fl T.Holder 2 hi8 (ev_var rfl)) ev_c rv_I0)) fun y H9 G9 e9 hy k9 hi9 => ?_
      subst hy
      have k89 := Keep.ex1 e9 k9
      have k79 := k78.trans k89
      have k69 := k67.trans k79
      have k59 := k56.trans k69
      have c19 := c15.keep k59 (neI c15 (by decide))
      have c29 := k59 _ _ c25 (neH c25)
      refine s_retL (el_cat (els_l (el_lst (ea_cons (ev_fl T.Choice 1 c19 (ev_var rfl)) (ea_cons (ev_is (ev_lenN' (ev_fl T.Choice 0 c19 (ev_var rfl)) c29) (by rw [List.length_map])) ea_nil)) (by show 2 ≤ 100000; decide))) (els_v (ev_fl T.Choice 0 c19 (ev_var rfl)) c29) (by rw [nl_len, List.length_map]; simp only [List.length_cons, List.length_nil]; omega)) fun p HA nA eA hA' => ?_
      have k5A : Keep hh H5 HA := k59.ex2 eA
      have k7A : Keep hh G7 HA := k79.ex2 eA
      have oF5A := k5A.off (X.hF hh)
      have oF7A := k7A.off (X.hF hh)
      have oF2A : Ex (Off (X.F hh) H2) (Off (X.F hh) HA) := ((off_ex e24).trans oF5).trans oF5A
      have oF4A := oF5.trans oF5A
      have oF0A := (off_ex e04).trans oF4A
      have hAll : Ex (Off (X.F hh) H) (Off (X.F hh) HA) := oF0A
      have waF : Off (X.F hh) HA wa = some (.lst (bs.map V.ref)) := oF2A _ _ c2
      have wtsA : HA X.wa = some (.lst (nl st.text.readers)) := k5A _ _ (kp d5 hA4.wts) d1.symm
      have maA : HA X.ma = some (.lst (X.as.map V.ref)) := k5A _ _ (kp d6 hA4.mks.1) d2.symm
      have ga2F : ga2 ∉ X.F hh := fun z => by
        rcases List.mem_cons.mp z with z | z
        · exact g2H z
        · rcases List.mem_cons.mp z with z | z
          · have := k56 _ _ (kp d5 hA4.wts) d1.symm
            rw [← z, n7] at this
            cases this
          · rcases List.mem_cons.mp z with z | z
            · have := k56 _ _ (kp d6 hA4.mks.1) d2.symm
              rw [← z, n7] at this
              cases this
            · rcases List.mem_append.mp z with z | z
              · obtain ⟨vs, hi⟩ := mark_ins m5' z
                obtain ⟨_, dx, hi⟩ := hi.keep k56 (fun q => d3 (q ▸ z))
                rw [n7] at hi
                cases hi
              · obtain ⟨lz, hlz⟩ := hA4.zsm _ z
                have := k56 _ _ (kp (fun q => hA.hZ.2.2.2.1 _ q z) hlz) (fun q => hA.hZ.1 (q ▸ z))
                rw [n7] at this
                cases this
      have tkA : Al2 (TkAt T (Off (X.F hh) HA)) gs2 ((goneQ X.P l).filter isF) := al.mono fun _ _ k => k.ex ((k69.ex2 eA).off (X.hF hh))
      have zk : Zk X H HA := (Zk.of e04).trans (Zk.trans (X := X) (fun b hb o ho => kp (fun z => hA.hZ.2.2.2.1 b z hb) ho) (Zk.keep hA.hZ.1 k5A))
      refine (g.of (s' := crd st) rfl (by omega)) HA p ⟨X.fa, wa, X.wa, X.ma, ga2, X.ca, X.sa, X.as, bs, X.gs ++ gs2, X.zs, newQ st X.P X.own l, X.own + (newQ st X.P X.own l).length + X.P.length, X.G ++ (goneQ X.P l).filter isF⟩ hAll (fun a ha => Or.inl ha) rfl zk ?_ hok (Zk.nz (X := X) (H := H) (Hn := G9) ((Zk.of e04).trans (Zk.trans (X := X) (fun b hb o ho => kp (fun z => hA.hZ.2.2.2.1 b z hb) ho) (Zk.keep hA.hZ.1 k59))) hA.zsm nA) ?_
      · refine ⟨hA.nd, hi9.ex eA, oF0A _ _ hA.first, waF, c3.mono fun _ _ k => k.ex oF2A, wtsA, ⟨maA, ?_⟩, ?_, (hA.gons.mono fun _ _ k => k.ex oF0A).append tkA, hA.set.ex oF0A, hA.cost.ex oF0A, ?_, fun x hx => ?_, zk.sm hA.zsm⟩
        · refine ⟨m5'.1, fun i a m h1 h2 => ?_⟩
          have hne : a ≠ hh := fun z => d3 (z ▸ List.mem_of_getElem? h1)
          exact ((m5'.2 i a m h1 h2).keep k5A hne).ex (Ex.refl _) oF4A
        · show Off (X.F hh) HA ga2 = _
          rw [off_out ga2F]
          exact k7A _ _ v7 g2H
        · show (X.G ++ (goneQ X.P l).filter isF).map _ = _
          rw [List.map_append, hA.eqG, hgF]
        · rcases List.mem_append.mp (show x ∈ X.G ++ _ from hx) with hx | hx
          · exact hA.byG x hx
          · have := (List.mem_filter.mp hx).2
            unfold isF at this
            simpa using this
      · rw [hA']
        show some (HO.lst ([V.int _, V.int _] ++ nl (l.map (·.1)))) = _
        unfold nl Si42.ints
        simp
    · have hb := of_decide_eq_false hb
      rw [if_pos (by omega)] at g
      exact (g.no rfl (by decide)).mono e02
end
end Pf

end
section
/-! Marks tested: the plain law. -/
set_option Elab.async false
set_option linter.all false
namespace Pf
open Si42
def fnd (ms : List Mark) (m : Nat) : Option (Nat × Ask) := (opens ms).find? fun x => x.1 == m
theorem fnd_some {ms : List Mark} {m : Nat} {x : Nat × Ask} (h : fnd ms m = some x) : x ∈ opens ms ∧ x.1 = m := by
  unfold fnd at h
  exact ⟨List.mem_of_find?_eq_some h, by have := List.find?_some h; simpa using this⟩
theorem fnd_isO (ms : List Mark) (m : Nat) : (fnd ms m).isSome = isO ms m := by
  unfold fnd isO
  rw [Bool.eq_iff_iff, List.find?_isSome]
  constructor
  · rintro ⟨x, hx, he⟩
    have he' : x.1 = m := by simpa using he
    subst he'
    obtain ⟨k, h1, h2⟩ := opens_mem.mp hx
    rw [h1]
    show (askOf k).isSome = true
    rw [h2]
    rfl
  · intro h
    cases hm : ms[m]? with
    | none => rw [hm] at h; cases h
    | some k =>
      rw [hm] at h
      have h' : (askOf k).isSome = true := h
      obtain ⟨q, hq⟩ := Option.isSome_iff_exists.mp h'
      exact ⟨(m, q), opens_mem.mpr ⟨k, hm, hq⟩, by simp⟩
theorem map_some {ms : List Mark} : ∀ {l : List Nat}, (∀ m ∈ l, isO ms m = true) → ∃ o, l.mapM (fnd ms) = some o ∧ o.map (·.1) = l ∧ ∀ x ∈ o, x ∈ opens ms
  | [], _ => ⟨[], rfl, rfl, by simp⟩
  | m :: l, h => by
    obtain ⟨o, h1, h2, h3⟩ := map_some (l := l) fun x hx => h x (List.mem_cons_of_mem _ hx)
    have hm := h m List.mem_cons_self
    rw [← fnd_isO] at hm
    obtain ⟨x, hx⟩ := Option.isSome_iff_exists.mp hm
    have := fnd_some hx
    refine ⟨x :: o, by rw [List.mapM_cons, hx, h1]; rfl, by rw [List.map_cons, h2, this.2], fun y hy => ?_⟩
    rcases List.mem_cons.mp hy with rfl | hy
    · exact this.1
    · exact h3 y hy
theorem map_none {ms : List Mark} : ∀ {l : List Nat} {m : Nat}, m ∈ l → isO ms m = false → l.mapM (fnd ms) = none
  | a :: l, m, h, hm => by
    rw [List.mapM_cons]
    rcases List.mem_cons.mp h with rfl | h
    · rw [← fnd_isO] at hm
      cases hx : fnd ms m with
      | none => rfl
      | some x => rw [hx] at hm; cases hm
    · cases hx : fnd ms a with
      | none => rfl
      | some x =>
        have := map_none h hm
        show (do let y ← l.mapM (fnd ms); pure (x :: y)) = none
        rw [this]
        rfl
theorem apart_all (o : List (Nat × Ask)) : (o.all fun x => apart x.2 o) = true ↔ Apt o := by
  rw [List.all_eq_true]
  unfold apart Apt
  constructor
  · intro h x hx y hy
    have := List.all_eq_true.mp (h x hx) y hy
    simpa using this
  · intro h x hx
    rw [List.all_eq_true]
    intro y hy
    simp [h x hx y hy]
theorem clash_self (a : Ask) : clash a a = false := by
  unfold clash
  rw [if_pos rfl]
theorem step_test (s : Si43.St) (l : List Nat) : Si43.step s (.proof (.test l)) = match l.mapM (fnd s.text.marks) with
    | none => (s, ⟨-2, []⟩)
    | some o => if (o.all fun x => apart x.2 o) = false then (s, ⟨-4, []⟩) else (s, ⟨((done s.text.text s.text.next o).length : Int), Si42.ints ((done s.text.text s.text.next o).map fun x => x.word)⟩) := by
  have e : Si42.step s.text (.test l) = (s.text, match l.mapM (fnd s.text.marks) with
    | none => ok (-2)
    | some o => if (o.all fun x => apart x.2 o) = false then ok (-4) else ⟨((done s.text.text s.text.next o).length : Int), Si42.ints ((done s.text.text s.text.next o).map fun x => x.word)⟩) := rfl
  cases hm : l.mapM (fnd s.text.marks) with
  | none =>
    rw [hm] at e
    exact proof_no e (by decide)
  | some o =>
    rw [hm] at e
    dsimp only at e ⊢
    by_cases c : (o.all fun x => apart x.2 o) = false
    · rw [if_pos c] at e ⊢
      exact proof_no e (by decide)
    · rw [if_neg c] at e ⊢
      exact proof_yes (t := s.text) (by simp) e (by omega)
end Pf

end
section
set_option Elab.async false
set_option linter.all false
set_option maxRecDepth 100000
set_option maxHeartbeats 4000000
/-! Marks tested. -/
namespace Pf
open PySem PySem.Spec PyProof.Rows L2 Evl
section
variable {P : Program} {w : World} {K : PySem.W.Frag} {mg : Str → Option Value} {base : Heap}
def cTest : List Nat → List Nat → Option Si43.Call
  | [], row => if row.length ≤ 40 then some (.proof (.test row)) else none
  | _, _ => none
def sp_test (T : Tp K mg) : Sp := spD T cTest
theorem evp_flR {σ : L2.St} {H : Hp} {te : TE} {Pr : Addr → Hp → Prop} {Pv : V → Hp → Prop} {q xq : Str} {st : Stmt} {ps fl : List Str} {f : Str} (c : ClAt K mg xq q st ps fl) (i : Nat) (h : EvR te σ H Pr) (hp : ∀ p H1, Ex H H1 → Pr p H1 → ∃ vs v, InsAt H1 p c.C fl vs ∧ vs[i]? = some v ∧ Pv v H1)
    (hf : fl[i]? = some f := by rfl) (nd : fl.Nodup := by decide +kernel) : EvP (tFld K te f) σ H Pv := fun H1 e Q k => h H1 e _ fun p H2 hn e2 hP => by
  obtain ⟨vs, v, ⟨hl, dx, hi⟩, hv, pv⟩ := hp p H2 (e.trans e2) hP
  exact ⟨p, c.C, dx, _, v, rfl, hi, c.cl, c.no f (List.mem_of_getElem? hf), zip_lookup nd hf hv, k v H2 e2 pv⟩
-- slots: holder 0, numbers 1, row 2, number 3, at 4, one 5, other 6, words 7
theorem ok_test (T : Tp K mg) : FnOk P w K mg base (L2.CX P w) 5 T.test.f T.test.fd P_test (sp_test T) := by
  refine T.test.F.okX sc_test (fun vs H Q E h => ?_) (fun cdv A outer s H vs Q E hr h => ⟨_, (pss_cons (ps_for (passes_of rfl) rfl (pi_list (pv 2)) (pg_name (i := 3) sc_test.nd rfl (.inl rfl)) (pss_one (ps_expr (pe_call (ok_ask T) (hr.mono (by decide)) rfl T.ask.g T.ask.F.kp T.ask.b .nil (passes_call (takes_of rfl rfl rfl rfl) (fun _ _ _ _ h => h)) (pa_cons (pe_and (pe_cmpR op_lt (pv 3) (pe_callB call_len_seq rfl T.nlen PySem.boot_len (pa_cons (pe_fld (pv 0) rfl) pa_nil)) (nomark _)) (pe_one (pe_cmpR op_eq (pe_fld (pe_ix ix_list (pe_fld (pv 0) rfl) (pv 3) (fun _ _ => rfl)) rfl) (pe_glob (v := .int 0) rfl T.kOPEN ⟨_, rfl⟩) (nomark _)))) (pa_cons (pe_un un_neg pe_int) pa_nil))))))
    (pss_cons (ps_for (passes_of rfl) rfl (pi_enum rfl T.nenumerate (pa_cons (pv 2) pa_nil)) (pg_tup rfl (pgs_cons (pg_name (i := 4) sc_test.nd rfl (.inl rfl)) (pgs_cons (pg_name (i := 5) sc_test.nd rfl (.inl rfl)) pgs_nil))) (pss_one (ps_for (passes_of rfl) rfl (pi_list (pe_slice sl_list (pv 2) (po_some (pe_op op_add (pv 4) pe_int)) po_none)) (pg_name (i := 6) sc_test.nd rfl (.inl rfl)) (pss_one (ps_expr (pe_call (ok_ask T) (hr.mono (by decide)) rfl T.ask.g T.ask.F.kp T.ask.b .nil (passes_call (takes_of rfl rfl rfl rfl) (fun _ _ _ _ h => h)) (pa_cons (pe_not (pe_call (ok_gainsay T) (hr.mono (by decide)) rfl T.gainsay.g T.gainsay.F.kp T.gainsay.b .nil pass0 (pa_cons (pe_ix ix_list (pe_fld (pv 0) rfl) (pv 5) (fun _ _ => rfl)) (pa_cons (pe_ix ix_list (pe_fld (pv 0) rfl) (pv 6) (fun _ _ => rfl)) pa_nil)))) (pa_cons (pe_un un_neg pe_int) pa_nil))))))))
    (pss_cons (ps_set (i := 7) sc_test.nd rfl (.inl rfl) (pe_fld (pe_call (ok_carried T) (hr.mono (by decide)) rfl T.carried.g T.carried.F.kp T.carried.b .nil pass0 (pa_cons (pe_fld (pv 0) rfl) (pa_cons (pe_fld (pv 0) rfl) (pa_cons (pv 2) (pa_cons (pe_fld (pv 0) rfl) pa_nil))))) rfl))
    (pss_one (ps_ret (pe_op op_cat (pe_lst (pa_cons (pe_callB call_len_seq rfl T.nlen PySem.boot_len (pa_cons (pv 7) pa_nil)) pa_nil)) (pe_call (ok_told T) (hr.mono (by decide)) rfl T.told.g T.told.F.kp T.told.b .nil pass0 (pa_cons (pv 7) pa_nil)))))))), ?_⟩)
  · obtain ⟨h, na, ra, ns, row, s, X, c, rfl, _⟩ := h
    rfl
  · obtain ⟨hh, na, ra, ns, row, st, X, c, rfl, hA, hS, hN, hR, hrl, hc, g⟩ := h
    match ns, hc with
    | [], hc =>
    have hc2 : (if row.length ≤ 40 then some (Si43.Call.proof (.test row)) else none) = some c := hc
    have hrow : row.length ≤ 40 := by
      by_cases q : row.length ≤ 40
      · exact q
      · rw [if_neg q] at hc2; cases hc2
    rw [if_pos hrow] at hc2
    cases hc2
    rw [step_test] at g
    have hRH := off_le _ _ _ _ hR
    have hml : X.as.length = st.text.marks.length := hA.mks.2.1
    refine q_forLn (ev_var rfl) (sq_of hRH) (fun i σ' H' => Ex H H' ∧ (∃ a b c d e, σ' = [some (.ref hh), some (.ref na), some (.ref ra), a, b, c, d, e]) ∧ ∀ m ∈ row.take i, isO st.text.marks m = true) ?h0 ?hl ?hs ?hd
    case h0 => exact fun H1 e1 => ⟨e1, ⟨_, _, _, _, _, rfl⟩, by simp⟩
    case hl => exact fun i σ' H' _ h => sq_of (h.1 _ _ hRH)
    case hs =>
      rintro i v σ' H' hv ⟨p1, ⟨a, b, c, d, e, rfl⟩, p2⟩
      unfold nl at hv
      rw [List.getElem?_map] at hv
      cases hm : row[i]? with
      | none => rw [hm] at hv; cases hv
      | some m =>
        rw [hm] at hv
        cases hv
        have hA1 := hA.ex p1
        have hl1 : ∀ {H2 : Hp} {σ : L2.St}, Ex H H2 → Ev (tVar 0) σ H2 (.ref hh) → Ev (tCB (rLenS K) (tCons (tFld K (tVar 0) (Str.ofString "marks")) tNil)) σ H2 (.int (st.text.marks.length : Int)) := fun e h => ev_is (ev_len (ev_fl T.Holder 4 (hA.ex e).hol h) (sq_of (e _ _ hA.mks.1))) (by rw [List.length_map, hml])
        have iso : isO st.text.marks m = true → m < st.text.marks.length := fun h => by
          by_cases c : m < st.text.marks.length
          · exact c
          · have : st.text.marks[m]? = none := by simp; omega
            unfold isO at h
            rw [this] at h
            cases h
        refine s_asks (b := isO st.text.marks m) (ea_ask (ev_is (ev_andV (b := isO st.text.marks m) (ev_lt (ev_var rfl) (hl1 p1 (ev_var rfl))) (fun hb => ?_)) ?_) ev_neg) (fun hb H1 e1 => ?_) (fun hb => ?_)
        · have hb := of_decide_eq_true hb
          have hx : st.text.marks[m]? = some (st.text.marks[m]'hb) := by simp [hb]
          generalize st.text.marks[m]'hb = x at hx
          obtain ⟨a', ha, hma⟩ := hA.mksH.2.get hx
          obtain ⟨vs, o, s6, _⟩ := mark_st hma
          refine ev_is (ev_op (ev_fl T.Mark 6 (o.ex p1) (ev_at (ev_fl T.Holder 4 hA1.hol (ev_var rfl)) (ev_var rfl) (sq_of (p1 _ _ hA.mks.1)) (by rw [List.getElem?_map, ha]; rfl)) s6) ev_c (rv_eq rfl)) ?_
          show V.bl _ = V.bl _
          congr 1
          rw [dI', Bool.eq_iff_iff, decide_eq_true_eq]
          unfold isO
          rw [hx]
          show ((stN x : Int) = 0) ↔ (askOf x).isSome = true
          rw [← stN_open]
          omega
        · show V.bl _ = V.bl _
          congr 1
          cases hq : isO st.text.marks m with
          | false => simp
          | true => simp [iso hq]
        · refine ⟨p1.trans e1, ⟨_, _, _, _, _, rfl⟩, fun m' hm' => ?_⟩
          rw [take_next hm] at hm'
          rcases List.mem_append.mp hm' with hm' | hm'
          · exact p2 m' hm'
          · have : m' = m := by simpa using hm'
            rw [this]
            exact hb
        · rw [map_none (List.mem_of_getElem? hm) hb] at g
          exact (g.no rfl (by decide)).mono p1
    case hd =>
      rintro σ' H' ⟨p1, ⟨a, b, c, d, e, rfl⟩, p2⟩
      rw [nl_len, List.take_length] at p2
      obtain ⟨o, o1, o2, o3⟩ := map_some p2
      rw [o1] at g
      dsimp only at g
      subst o2
      have hol : o.length ≤ 40 := by rw [List.length_map] at hrow; exact hrow
      have row' : ∀ {H' : Hp}, Ex H H' → H' ra = some (.lst (nl (o.map (·.1)))) := fun e => e _ _ hRH
      have noAp : ∀ {i j : Nat} {x y : Nat × Si42.Ask}, o[i]? = some x → o[j]? = some y → Si42.clash x.2 y.2 = true → (o.all fun x => Si42.apart x.2 o) = false := fun {i j x y} hx hy hc => by
        cases hq : (o.all fun x => Si42.apart x.2 o) with
        | false => rfl
        | true =>
          have := (apart_all o).mp hq x (List.mem_of_getElem? hx) y (List.mem_of_getElem? hy)
          rw [hc] at this
          cases this
      refine q_forE (ea_cons (ev_var rfl) ea_nil) (sq_of (row' p1)) (fun i σ' H' => Ex H H' ∧ (∃ a b c d e, σ' = [some (.ref hh), some (.ref na), some (.ref ra), a, b, c, d, e]) ∧ ∀ (i' j : Nat) x y, i' < i → i' < j → o[i']? = some x → o[j]? = some y → Si42.clash x.2 y.2 = false) ?g0 ?gl ?gs ?gd
      case g0 => exact fun H1 e1 => ⟨p1.trans e1, ⟨_, _, _, _, _, rfl⟩, fun i' j x y h => by omega⟩
      case gl => exact fun i σ' H' _ h => sq_of (row' h.1)
      case gs =>
        rintro i v σ' H2 hv ⟨q1, ⟨a, b, c, d, e, rfl⟩, q2⟩ H3 e3
        unfold nl at hv
        rw [List.getElem?_map, List.getElem?_map] at hv
        cases hx : o[i]? with
        | none => rw [hx] at hv; cases hv
        | some x =>
          rw [hx] at hv
          have hv' : V.int (x.1 : Int) = v := Option.some.inj hv
          subst hv'
          have q13 := q1.trans e3
          refine s_forNLn (el_sl (ev_var rfl) (eo_some (ev_plus1 (ev_var rfl))) eo_none (sq_of (row' q13))) (fun p d σ' H' => Ex H H' ∧ H' p = some (.lst (nl ((o.drop (i + 1)).map (·.1)))) ∧ (∃ a b c, σ' = [some (.ref hh), some (.ref na), some (.ref ra), a, some (.int (i : Int)), some (.int (x.1 : Int)), b, c]) ∧ ∀ (j : Nat) y, j < i + 1 + d → i < j → o[j]? = some y → Si42.clash x.2 y.2 = false) ?i0 ?il ?is ?id
          case i0 =>
            intro p H4 _ e4 h4
            refine ⟨q13.trans e4, ?_, ⟨_, _, _, rfl⟩, fun j y h1 h2 => by omega⟩
            rw [h4, cutV_from]
            unfold nl
            rw [List.map_drop, List.map_drop]
          case il =>
            intro p d σ' H' _ h
            have := h.2.1
            rw [cutV_from]
            unfold nl at this ⊢
            rw [← List.map_drop, ← List.map_drop]
            exact sq_of this
          case id =>
            rintro p σ' H' ⟨r1, r2, ⟨a, b, c, rfl⟩, r3⟩
            have hlen : (cutV (nl (o.map (·.1))) (some ((i + 1 : Nat) : Int)) none).length = o.length - (i + 1) := by
              rw [cutV_from, List.length_drop, nl_len, List.length_map]
            rw [hlen] at r3
            refine ⟨r1, ⟨_, _, _, _, _, rfl⟩, fun i' j x' y h1 h2 hx' hy => ?_⟩
            by_cases c : i' = i
            · subst c
              rw [hx] at hx'
              cases hx'
              have := (List.getElem?_eq_some_iff.mp hy).1
              exact r3 j y (by omega) h2 hy
            · exact q2 i' j x' y (by omega) h2 hx' hy
          case is =>
            rintro p d v σ' H' hv ⟨r1, r2, ⟨a, b, c, rfl⟩, r3⟩
            rw [cutV_from] at hv
            unfold nl at hv
            rw [← List.map_drop, ← List.map_drop, List.getElem?_map, List.getElem?_map, List.getElem?_drop] at hv
            cases hy : o[i + 1 + d]? with
            | none => rw [hy] at hv; cases hv
            | some y =>
              rw [hy] at hv
              have hv' : V.int (y.1 : Int) = v := Option.some.inj hv
              subst hv'
              obtain ⟨ax, rx, hax, ox⟩ := marks_get (hA.mksH.ex r1 r1) (o3 x (List.mem_of_getElem? hx))
              obtain ⟨ay, ry, hay, oy⟩ := marks_get (hA.mksH.ex r1 r1) (o3 y (List.mem_of_getElem? hy))
              have hAr := hA.ex r1
              refine s_asks (b := !Si42.clash x.2 y.2) (ea_ask (ev_notV (ev_callV (ea_cons (ev_at (ev_fl T.Holder 4 hAr.hol (ev_var rfl)) (ev_var rfl) (sq_of hAr.mks.1) hax) (ea_cons (ev_at (ev_fl T.Holder 4 hAr.hol (ev_var rfl)) (ev_var rfl) (sq_of hAr.mks.1) hay) ea_nil)) fun H5 e5 => ⟨ax, ay, rx, ry, x.2, y.2, X.P.length, rfl, ox.ex e5 e5, oy.ex e5 e5, hS.wf _ (o3 x (List.mem_of_getElem? hx)), hS.wf _ (o3 y (List.mem_of_getElem? hy)), rfl⟩)) ev_neg) (fun hb H5 e5 => ?_) (fun hb => ?_)
              · refine ⟨r1.trans e5, r2 |> fun z => e5 _ _ z, ⟨_, _, _, rfl⟩, fun j z h1 h2 hz => ?_⟩
                by_cases c : j = i + 1 + d
                · subst c
                  rw [hy] at hz
                  cases hz
                  simpa using hb
                · exact r3 j z (by omega) h2 hz
              · have hb' : Si42.clash x.2 y.2 = true := by simpa using hb
                rw [if_pos (noAp hx hy hb')] at g
                exact (g.no rfl (by decide)).mono r1
      case gd =>
        rintro σ' H2 ⟨q1, ⟨a, b, c, d, e, rfl⟩, q2⟩
        rw [nl_len, List.length_map] at q2
        have hapt : Apt o := fun x hx y hy => by
          obtain ⟨i, hi⟩ := List.mem_iff_getElem?.mp hx
          obtain ⟨j, hj⟩ := List.mem_iff_getElem?.mp hy
          have li := (List.getElem?_eq_some_iff.mp hi).1
          have lj := (List.getElem?_eq_some_iff.mp hj).1
          rcases Nat.lt_trichotomy i j with h | h | h
          · exact q2 i j x y li h hi hj
          · subst h
            rw [hi] at hj
            cases hj
            exact clash_self _
          · rw [clash_comm]
            exact q2 j i y x lj h hj hi
        rw [if_neg (by rw [(apart_all o).mpr hapt]; decide)] at g
        have hg := g.same hA hS rfl (by omega)
        have hA2 := hA.ex q1
        have hnl : (newQ st X.P X.own o).length ≤ 40000 := by
          have := wpre_le (P := X.P) (l := Si42.once o) (n0 := st.text.next) (o0 := X.own) hS.len (fun x hx => wdO hS x (o3 x (once_sub o x hx))) (X.P.length + 1)
          have h2 := hS.len
          unfold newQ
          omega
        have hdt := done_text hS o
        refine q_asgP (evp_flR T.Carried 0 (Pv := fun v H3 => ∃ wa bs, v = V.ref wa ∧ H3 wa = some (.lst (bs.map V.ref)) ∧ Al2 (WordAt T H3) bs (newQ st X.P X.own o)) (er_callR (ea_cons (ev_fl T.Holder 1 hA2.hol (ev_var rfl)) (ea_cons (ev_fl T.Holder 4 hA2.hol (ev_var rfl)) (ea_cons (ev_var rfl) (ea_cons (ev_fl T.Holder 8 hA2.hol (ev_var rfl)) ea_nil)))) fun H3 e3 =>
          ⟨X.F hh, X.ta, X.ats, X.P, X.ma, X.as, st.text.marks, ra, o, st.text.next, X.own, rfl, (hA2.ex e3).sm, e3 _ _ hA2.textH, (hA2.ex e3).words, hS.len, hA2.mksH.ex e3 e3, row' (q1.trans e3), o3, by omega, hS.ml, hS.wf, wdO hS, hapt, rfl⟩) (fun p H3 e3 hC => ?_)) fun v H3 e3 hv => ?_
        · obtain ⟨wa, ga, ka, bs, ts, c1, c2, c3, _⟩ := hC
          exact ⟨_, _, c1.ex (off_le _ _), rfl, wa, bs, rfl, off_le _ _ _ _ c2, c3.mono fun _ _ k => k.ex (off_le _ _)⟩
        · obtain ⟨wa, bs, rfl, w1, w2⟩ := hv
          refine s_retL (el_cat (els_l (el_lst (ea_cons (ev_is (ev_len (ev_var rfl) (sq_of w1)) (by rw [List.length_map, w2.1])) ea_nil) (by show 1 ≤ 100000; decide))) (els_l (evr_l (er_callR (ea_cons (ev_var rfl) ea_nil) fun H4 e4 => ⟨wa, bs, newQ st X.P X.own o, rfl, e4 _ _ w1, w2.mono fun _ _ k => k.ex e4, hnl, rfl⟩))) ?_) fun p H4 n4 e4 h4 => hg H4 p (ex_none (q1.trans e3) n4) ((q1.trans e3).trans e4) ?_
          · rw [nl_len, List.length_map]
            simp only [List.length_cons, List.length_nil]
            omega
          · rw [h4, ← hdt, nl_ints, List.length_map, List.map_map]
            rfl
end
end Pf

end
section
/-! Places explained: the plain law. -/
set_option Elab.async false
set_option linter.all false
namespace Pf
open Si42
theorem strict_one : ∀ {l m : List Int}, l.Pairwise (· < ·) → m.Pairwise (· < ·) → (∀ k, k ∈ l ↔ k ∈ m) → l = m
  | [], [], _, _, _ => rfl
  | [], b :: m, _, _, h => by have := (h b).mpr (by simp); simp at this
  | a :: l, [], _, _, h => by have := (h a).mp (by simp); simp at this
  | a :: l, b :: m, h1, h2, h => by
    rw [List.pairwise_cons] at h1 h2
    have e : a = b := by
      have ha := (h a).mp (by simp)
      have hb := (h b).mpr (by simp)
      rcases List.mem_cons.mp ha with e | ha
      · exact e
      · rcases List.mem_cons.mp hb with e | hb
        · exact e.symm
        · have x1 := h1.1 b hb
          have x2 := h2.1 a ha
          omega
    subst e
    have := strict_one (l := l) (m := m) h1.2 h2.2 fun k => by
      constructor
      · intro hk
        rcases List.mem_cons.mp ((h k).mp (List.mem_cons_of_mem _ hk)) with e | hk2
        · have := h1.1 k hk
          omega
        · exact hk2
      · intro hk
        rcases List.mem_cons.mp ((h k).mpr (List.mem_cons_of_mem _ hk)) with e | hk2
        · have := h2.1 k hk
          omega
        · exact hk2
    rw [this]
theorem dups_strict : ∀ (n : Nat) (l : List Nat), l.length ≤ n → l.Pairwise (· ≤ ·) → l.eraseDups.Pairwise (· < ·)
  | _, [], _, _ => by simp
  | n + 1, a :: l, hn, h => by
    rw [List.pairwise_cons] at h
    rw [List.eraseDups_cons, List.pairwise_cons]
    have hl : (l.filter fun b => !b == a).length ≤ n := by
      have := List.length_filter_le (fun b => !b == a) l
      simp at hn
      omega
    refine ⟨fun x hx => ?_, dups_strict n _ hl (h.2.filter _)⟩
    rw [List.mem_eraseDups, List.mem_filter] at hx
    have h1 := h.1 x hx.1
    have h2 : x ≠ a := by simpa using hx.2
    omega
def inP (p : Si43.Place) (x : Nat × Nat) : Bool := decide (p.at_ ≤ x.1) && decide (x.1 < p.at_ + p.words)
def cutP (P : Tx) (p : Si43.Place) : Tx := (P.drop p.at2).take p.words2
def by1 (x : Tw) : Option Nat := x.1.by_
/-- the marks there, in no order -/
def rawMarks (s : Si43.St) (P : Tx) (p : Si43.Place) : List Nat := (cutP P p).filterMap by1 ++ ((goneF s).filter (inP p)).map (·.2)
section
variable {s : Si43.St} {P : Tx} {own : Nat} {p : Si43.Place}
theorem gone_in (h : p.at_ + p.words ≤ s.text.first.length) : s.text.gone.filter (inP p) = (goneF s).filter (inP p) := by
  unfold goneF
  rw [List.filter_filter]
  apply List.filter_congr
  intro x _
  unfold inP
  rw [Bool.eq_iff_iff]
  simp
  omega
theorem marksAt_eq (hS : Sok s P own) (h : p.at_ + p.words ≤ s.text.first.length) : Si43.marksAt s.text p = ((rawMarks s P p).mergeSort fun a b => decide (a ≤ b)).eraseDups := by
  unfold Si43.marksAt rawMarks
  have e1 : ((s.text.text.drop p.at2).take p.words2).filterMap (fun x => x.by_) = (cutP P p).filterMap by1 := by
    unfold cutP
    rw [← hS.text, ← List.map_drop, ← List.map_take, List.filterMap_map]
    rfl
  rw [e1, ← gone_in h]
  rfl
theorem marksAt_mem (hS : Sok s P own) (h : p.at_ + p.words ≤ s.text.first.length) (m : Nat) : m ∈ Si43.marksAt s.text p ↔ m ∈ rawMarks s P p := by
  rw [marksAt_eq hS h, List.mem_eraseDups, List.mem_mergeSort]
theorem marksAt_strict (hS : Sok s P own) (h : p.at_ + p.words ≤ s.text.first.length) : (Si43.marksAt s.text p).Pairwise (· < ·) := by
  rw [marksAt_eq hS h]
  refine dups_strict _ _ (Nat.le_refl _) ?_
  have := List.pairwise_mergeSort (le := fun (a b : Nat) => decide (a ≤ b)) (fun a b c h1 h2 => by simp at *; omega) (fun a b => by simp; omega) (rawMarks s P p)
  exact this.imp fun h => by simpa using h
theorem rawMarks_lt (hS : Sok s P own) {m : Nat} (h : m ∈ rawMarks s P p) : m < s.text.marks.length := by
  unfold rawMarks at h
  rcases List.mem_append.mp h with h | h
  · obtain ⟨x, hx, hb⟩ := List.mem_filterMap.mp h
    exact (hS.bysome x (List.mem_of_mem_drop (List.mem_of_mem_take hx)) m hb).2
  · obtain ⟨x, hx, rfl⟩ := List.mem_map.mp h
    have h1 := (List.mem_filter.mp hx).1
    unfold goneF at h1
    exact hS.gmk x (List.mem_filter.mp h1).1
theorem olds_eq (hS : Sok s P own) : Si43.olds s.text.text p.at2 p.words2 = ((cutP P p).filter fun x => x.1.by_.isNone).map fun x => x.1.id := by
  unfold Si43.olds cutP
  rw [← hS.text, ← List.map_drop, ← List.map_take, List.filterMap_map]
  generalize (P.drop p.at2).take p.words2 = l
  induction l with
  | nil => rfl
  | cons a l ih =>
    rw [List.filterMap_cons, List.filter_cons]
    cases hb : a.1.by_ with
    | none =>
      have e : ((fun (x : Token) => if x.by_.isNone = true then some x.id else none) ∘ fun (x : Tw) => x.1) a = some a.1.id := by simp [hb]
      rw [e, if_pos (by rfl), List.map_cons, ih]
    | some m =>
      have e : ((fun (x : Token) => if x.by_.isNone = true then some x.id else none) ∘ fun (x : Tw) => x.1) a = none := by simp [hb]
      rw [e, if_neg (by simp), ih]
/-- the words of the first text due there -/
def dueP (s : Si43.St) (p : Si43.Place) : List Nat := ((List.range p.words).map fun i => p.at_ + i).filter fun i => !(((goneF s).filter (inP p)).any fun x => x.1 == i)
theorem moved_eq (hS : Sok s P own) (h : p.at_ + p.words ≤ s.text.first.length) : Si43.movedAt s.text p = (((cutP P p).filter fun x => x.1.by_.isNone).map (fun x => x.1.id) != dueP s p) := by
  unfold Si43.movedAt
  rw [olds_eq hS]
  congr 1
  unfold dueP
  apply List.filter_congr
  intro i hi
  obtain ⟨d, hd, rfl⟩ := List.mem_map.mp hi
  rw [List.mem_range] at hd
  congr 1
  rw [← gone_in h, List.any_filter]
  rw [Bool.eq_iff_iff, List.any_eq_true, List.any_eq_true]
  constructor
  · rintro ⟨x, hx, e⟩
    have e' : x.1 = p.at_ + d := by simpa using e
    refine ⟨x, hx, ?_⟩
    unfold inP
    simp
    omega
  · rintro ⟨x, hx, e⟩
    refine ⟨x, hx, ?_⟩
    have := (Bool.and_eq_true _ _ ▸ e : inP p x = true ∧ (x.1 == p.at_ + d) = true).2
    exact this
end
/-- what is answered of a place -/
def exOut (s : Si43.St) (p : Si43.Place) : List Nat := let m := Si43.marksAt s.text p
  [p.at_, p.words, p.words2] ++ (Si43.cutOut (Si43.wanted s) p.at2 p.words2 ++ (m.length :: (m ++ [if Si43.movedAt s.text p = true then 1 else 0])))
theorem step_explained (s : Si43.St) : Si43.step s .explained = (s, ⟨((Si43.places s.costs s.text.first (Si43.wanted s)).length : Int), (Si43.places s.costs s.text.first (Si43.wanted s)).flatMap fun p => Si43.ints (exOut s p)⟩) := rfl
end Pf

end
section
set_option Elab.async false
set_option linter.all false
set_option maxRecDepth 100000
set_option maxHeartbeats 4000000
/-! Rules that the library lacks: set(xs) of a list of numbers, list(d.values()). -/
namespace Pf
open PySem PySem.Spec PyProof.Rows L2 Evl
/-- a set as it's made -/
abbrev bareSet (w : World) : Obj := { cls := .type "set", dict := none, data := .set #[] 0 (.fresh 0 0 (!w.params.followText "set-order")) }
section
variable {P : Program} {w : World} {A : Around} {E : Value → Shared → Prop} {s : Shared}
theorem int_item {items : Array Value} {ns : List Int} (hi : IntsAre items.toList ns) (hn : items.size = ns.length) (i : Nat) (v : Value) (hv : items[i]? = some v) : ∃ k t, ns[i]? = some k ∧ v = .int k t := by
  have hl : i < ns.length := by rw [← hn]; exact (Array.getElem?_eq_some_iff.mp hv).1
  obtain ⟨t, e⟩ := IntsAre.int_at hi i v (by rw [Array.getElem?_toList]; exact hv)
  refine ⟨ns[i], t, List.getElem?_eq_getElem hl, ?_⟩
  rw [e, List.getD_eq_getElem?_getD, List.getElem?_eq_getElem hl]
  rfl
/-- what __init__ leaves -/
def Filled (w : World) (s : Shared) (ns : List Int) (v : Value) (s2 : Shared) : Prop := v = .none ∧ ∃ h' tk c, s2 = { s with heap := h', toks := tk } ∧ SetR w h' s.heap.objs.size (fun j => decide (j ∈ ns)) c ∧ c ≤ ns.length ∧ ∀ b o, s.heap.get? b = some o → h'.get? b = some o
theorem init_setL {l : Addr} {items : Array Value} {ns : List Int} (hh : A.handled = none) (hl : s.heap.IsList l items) (hi : IntsAre items.toList ns) (hb : ns.length + 1 < scanBound) :
    wpAny (model P w) A.in1.in1 (Builtin.«set.__init__» ⟨[.ref s.heap.objs.size, .ref l], []⟩)
      (fun fin s' => match fin with | .done f => wants (Filled w s ns) E (.ok f) s' | .again c' => c'.quiet = true ∧ codeAny (model P w) A.in1 c' (wants (Filled w s ns) E) s') (fun e s' => wants (Filled w s ns) E (.error e) s') { s with heap := s.heap.push (bareSet w) } := by
  have hn : items.size = ns.length := by
    have q := IntsAre.length hi
    rw [Array.length_toList] at q
    exact q
  obtain ⟨⟨ocl, odi, oda, osl⟩, hol, hcl, nl, hdl⟩ := id hl
  simp only at hcl hdl
  subst hcl hdl
  have lt := Heap.lt_size hol
  have own : (s.heap.push (bareSet w)).get? s.heap.objs.size = some (bareSet w) := Heap.get?_push_size _ rfl
  have hl1 : (s.heap.push (bareSet w)).IsList l items := ⟨_, Heap.get?_push_of_some _ hol, rfl, nl, rfl⟩
  have s1 := F.sub_list_set
  have s2 := F.sub_list_frozenset
  have s3 : (Value.type "list" == Value.type "dict") = false := by decide
  have g1 := Heap.get?_push_of_some (bareSet w) hol
  unfold Builtin.«set.__init__» noKeywords Builtin.Frozenset.updateFrom
  generalize hPI : pyIter = PI
  wp_walk
  subst hPI
  refine wpAny_pyIter_list hl1 (wpAny_bind (wpAny_runValue ?_))
  have hz : (s.heap.push (bareSet w)).objs.size = s.heap.objs.size + 1 := Heap.size_push ..
  have d1 : l ≠ (s.heap.push (bareSet w)).objs.size := by rw [hz]; exact Nat.ne_of_lt (Nat.lt_succ_of_lt lt)
  have d2 : s.heap.objs.size ∉ [(s.heap.push (bareSet w)).objs.size, l] := by
    rw [hz]
    simp only [List.mem_cons, List.not_mem_nil, or_false, not_or]
    exact ⟨Nat.ne_of_lt (Nat.lt_succ_self _), Nat.ne_of_gt lt⟩
  refine set_update_ints ((Walks.list (by simp [hh]) _ l d1 items).toS) s.heap.objs.size d2 ns hn hb (int_item hi hn) (items.size - 0) 0 _ (by omega) (Nat.zero_le _) ⟨⟨_, Heap.get?_push_size _ rfl, rfl, rfl⟩, (hl1.push _)⟩ ⟨0, Nat.le_refl 0, setR_new_at (Heap.get?_push_of_some _ own)⟩ fun s' c hm hc hS => ?_
  obtain ⟨h', g2, d', tk', os'⟩ := s'
  have eg : g2 = s.gens := hm.gens
  have ed : d' = s.drawn := hm.drawn
  have eo : os' = s.os := hm.os
  subst eg ed eo
  show wpAny _ _ _ _ _ _
  refine wpAny_pure ?_
  show wpAny _ _ (ret Value.none) _ _ _
  refine wpAny_pure ⟨rfl, h', tk', c, rfl, hS, by omega, fun b o e => ?_⟩
  have hb0 : b < s.heap.objs.size := Heap.lt_size e
  refine hm.heap b o ?_ (Heap.get?_push_of_some _ (Heap.get?_push_of_some _ e))
  simp only [List.mem_cons, List.not_mem_nil, or_false, not_or]
  rw [hz]
  exact ⟨Nat.ne_of_lt hb0, Nat.ne_of_lt (Nat.lt_succ_of_lt hb0)⟩
theorem call_setL {l : Addr} {items : Array Value} {ns : List Int} {Q : Value → Shared → Prop} (hh : A.handled = none) (hl : s.heap.IsList l items) (hi : IntsAre items.toList ns) (hb : ns.length + 1 < scanBound)
    (h : ∀ (h' : Heap) (tk c : Nat), SetR w h' s.heap.objs.size (fun j => decide (j ∈ ns)) c → c ≤ ns.length → (∀ b o, s.heap.get? b = some o → h'.get? b = some o) → Q (.ref s.heap.objs.size) { s with heap := h', toks := tk }) :
    wpAny (model P w) A (call (.type "set") [.ref l]) Q E s := by
  obtain ⟨c, tl, hmro⟩ := F.called_set.mro
  have t1 := F.called_set.made
  have t2 := F.called_set.sub
  have t3 := F.called_set.notType
  have t4 := F.called_set.canCreate
  have t5 := F.typeCall_set_1 (.ref l)
  refine wpAny_call (codeAny_of_tree ?_)
  show wpAny _ _ (callAny (.type "set") _) _ _ _
  refine wpAny_pure ⟨Code.quiet_builtin _ (by decide +kernel), codeAny_builtin F.entry_type_call ?_⟩
  rw [Around.under_plain (weight_type_call_type "set" [.ref l] []) rfl]
  repeat (any_goals (first | assumption | wp_step))
  refine codeAny_mono (code_set_led1 (.ref l) (E := E) (Q₁ := fun v s₁ => v = .ref s.heap.objs.size ∧ s₁ = { s with heap := s.heap.push (bareSet w) }) ⟨rfl, rfl⟩) fun r s₁ hr => ?_
  match r, hr with
  | .error e, hr => exact hr
  | .ok (.ret v), hr =>
    obtain ⟨rfl, rfl⟩ := hr
    have own : (s.heap.push (bareSet w)).get? s.heap.objs.size = some (bareSet w) := Heap.get?_push_size _ rfl
    have hT : Shared.TypeIs { s with heap := s.heap.push (bareSet w) } (.ref s.heap.objs.size) "set" := ⟨_, own, rfl⟩
    have t6 := F.called_set.init.lookup
    have t7 := F.called_set.init.bind (.ref s.heap.objs.size)
    repeat (any_goals (first | assumption | wp_step))
    refine codeAny_mono (codeAny_call_builtin (R := wants (Filled w s ns) E) F.called_set.init.plain F.entry_set_init (check_set_init_1 hT (init_setL hh hl hi hb))) fun r₂ s₂ hr₂ => ?_
    match r₂, hr₂ with
    | .error e, hr₂ => exact hr₂
    | .ok (.ret r), hr₂ =>
      obtain ⟨rfl, h', tk, c', rfl, hS, hc, hk⟩ := hr₂
      repeat (any_goals (first | assumption | wp_step))
      exact h _ _ _ hS hc hk
end
/-- few members: few entries -/
theorem setR_few {w : World} {h : Heap} {a : Addr} {S : Int → Bool} {n B : Nat} (R : SetR w h a S n) (hB : ∀ k, S k = true → 0 ≤ k ∧ k < (B : Int)) : n ≤ B := by
  obtain ⟨o, es, ep, t, _, _, _, _, hnd, hm, _, _, hn, _⟩ := R
  have h1 : ((es.toList.map keyOf).map Int.toNat).Nodup := by
    unfold List.Nodup at hnd ⊢
    rw [List.pairwise_map]
    refine List.Pairwise.imp_of_mem ?_ hnd
    intro x y hx hy hne
    have q1 := hB x ((hm x).mpr hx)
    have q2 := hB y ((hm y).mpr hy)
    omega
  have h2 := nodup_lt B _ h1 (fun x hx => by
    obtain ⟨y, hy, rfl⟩ := List.mem_map.mp hx
    have := hB y ((hm y).mpr hy)
    omega)
  rw [List.length_map, List.length_map, Array.length_toList, hn] at h2
  exact h2
/-- set(xs) of a list of numbers -/
def rSetIL (K : PySem.W.Frag) (w : World) : List V → Hp → VK → Prop := fun vs H Q => ∃ (l : Addr) (ns : List Int), vs = [V.ref l] ∧ SqL K H l (ns.map V.int) ∧ ns.length ≤ 1000 ∧ ∀ (p : Addr) (c : Nat), H p = none → c ≤ ns.length → (∀ B : Nat, (∀ k ∈ ns, 0 ≤ k ∧ k < (B : Int)) → c ≤ B) → Q (.ref p) (upd H p (SetO w p (fun j => decide (j ∈ ns)) c))
theorem cr_setI {X : Cx} (hc : X.calm = true) : CallR X (.type "set") (rSetIL X.K X.w) := by
  intro pins s σ H vs us Q I r h
  obtain ⟨l, ns, rfl, hs, hz, q⟩ := h
  obtain ⟨its, rv, hl, _⟩ := I.list hs
  rw [Vals.ref1 r]
  refine call_setL (I.ok.hd hc) hl.isList (by simpa using rv.ints) (by unfold scanBound; omega) fun h' tk c R hcn k => ?_
  exact ⟨.ref _, upd H s.heap.objs.size (SetO X.w s.heap.objs.size (fun j => decide (j ∈ ns)) c), I.laid (t' := tk) k (Nat.le_refl _) (setO_new R), rfl, q _ c (I.hok.fresh (Nat.le_refl _)) hcn fun B hB => setR_few R fun k hk => hB k (of_decide_eq_true hk)⟩
end Pf

end
section
set_option Elab.async false
set_option linter.all false
set_option maxRecDepth 100000
set_option maxHeartbeats 4000000
namespace Pf
open PySem PySem.Spec PyProof.Rows L2 Evl
/-- list(d.values()), a dict by numbers or texts -/
def tLV (td : TE) : TE := fun σ H Q => td σ H fun x H1 => ∃ (a : Addr) (kvs : List (Key × V)), x = V.ref a ∧ H1 a = some (.dK kvs) ∧ ∀ p, H1 p = none → Q (.ref p) (upd H1 p (.lst (kvs.map (·.2))))
section
variable {X : Cx} {o : Expr} {p pos apos mpos : Pos} {td : TE}
theorem kv_vals {κ : Type} : ∀ {kvs : List (κ × V)} {vs : List (κ × Value)}, KV kvs vs → Vals (kvs.map (·.2)) (vs.map (·.2)) := by
  intro kvs vs r
  unfold KV at r
  induction r with
  | nil => exact .nil
  | cons r t ih => exact .cons r.2 ih
theorem pe_listVals (hc : X.calm = true) (hg : Gl X "list") (hm : X.mg "list" = none) (hd : PE X o td) (hbase : attributeBase o "values" X.env (eval o X.env) = eval o X.env := by rfl) (hline : (apos.endLine == mpos.line) = true := by rfl)
    (hse : starEach [Expr.Call (.Attribute o "values" apos) [] [] mpos] X.env = (false, eval (Expr.Call (.Attribute o "values" apos) [] [] mpos) X.env) :: starEach [] X.env := by rfl) :
    PE X (.Call (.Name "list" p) [.Call (.Attribute o "values" apos) [] [] mpos] [] pos) (tLV td) := by
  refine ⟨fun pins s σ H Q I h => ?_⟩
  refine Call_ (ld_blt I hg hm (by decide +kernel : bootBuiltins (Str.ofString "list") = some (.type "list")) (PyProof.Rows.callWith_type1 (PyProof.Rows.args_cons (wpAny_Call_method0_late hbase hline (thn (hd.run pins s σ H _ I h) fun v s1 ⟨x, H1, I1, r1, a, kvs, ex, ha, q⟩ => ?_)) hse) hse rfl))
  subst ex
  obtain rfl : v = Value.ref a := r1
  obtain ⟨hz, hsys, vs, rel, dof⟩ := dk_of I1.hok ha
  obtain ⟨es, ep, raw, hsz, hval⟩ := dof.raw
  obtain ⟨ob, ho, hex, hdat⟩ := id raw
  refine ⟨"dict", "dict.values", F.plainAttrs_dict, F.slot_dict_values, F.type_dict_values, ⟨ob, ho, hex.1⟩, fun b e => ?_, Calls.callWith_builtin rfl (PySem.evalArgs_none ?_)⟩
  · cases e
    exact ⟨ob, ho, hex.2.1⟩
  refine call_meetsIn F.slot_dict_values ⟨ob, ho, hex.1⟩ F.entry_dict_values (F.args_dict_values_1 _) (meets_dict_values (mixKind X.prog X.w) a hsys) ⟨⟨vs, dof⟩, PyProof.Rows.args_nil ?_⟩
  have lt : a < s1.heap.objs.size := Heap.lt_size ho
  have hvl : vs.length = kvs.length := (KV.length rel).symm
  have view : (s1.heap.push { cls := .type "dict_values", data := .fields #[.ref a] }).IsValuesView s1.heap.objs.size a := ⟨_, Heap.get?_push_size _ rfl, rfl, rfl⟩
  refine PySem.W.kdl_call (PySem.KdlSrc.rawValues (d := a) (es := es) (ep := ep)) (I1.ok.hd hc) ⟨view, raw.at fun o e => Heap.get?_push_of_some _ e⟩ (by rw [hsz, hvl]; exact hz) fun h' tk acc' c' hk hD hacc => ?_
  have n1 : (s1.heap.push { cls := .type "dict_values", data := .fields #[.ref a] }).objs.size = s1.heap.objs.size + 1 := Heap.size_push _ _
  have hacc2 : acc'.toList = vs.map (·.2) := by
    apply List.ext_getElem?
    intro i
    rw [List.getElem?_map, Array.getElem?_toList]
    cases hv : vs[i]? with
    | none =>
      have : vs.length ≤ i := by simpa using hv
      have h1 := hacc.1
      simp
      omega
    | some kv =>
      have hlt : i < vs.length := (List.getElem?_eq_some_iff.mp hv).1
      have hia : i < acc'.size := by rw [hacc.1, hsz]; exact hlt
      have hx : acc'[i]? = some acc'[i] := by simp [hia]
      obtain ⟨hi, e⟩ := hacc.2 i _ hx
      rw [hx, e, (hval i hi kv.1 kv.2 hv).2]
      rfl
  have keep : ∀ b u, s1.heap.get? b = some u → h'.get? b = some u := fun b u e => hk b u (Heap.get?_push_of_some _ e)
  rw [n1] at hD
  rw [n1]
  refine ⟨.ref _, upd H1 (s1.heap.objs.size + 1) (.lst (kvs.map (·.2))), I1.laid (t' := tk) keep (Nat.le_succ _) ⟨by rw [List.length_map]; exact hz, acc'.toList, c', by rw [hacc2]; exact kv_vals rel, by rw [Array.toArray_toList]; exact hD⟩, rfl, q _ (I1.hok.fresh (Nat.le_succ _))⟩
end
end Pf

end
section
set_option Elab.async false
set_option linter.all false
set_option maxRecDepth 100000
set_option maxHeartbeats 4000000
/-! Places explained. -/
namespace Pf
open PySem PySem.Spec PyProof.Rows L2 Evl
def kvO (l : List (Nat × Nat)) : List (Key × V) := l.map fun x => (Sum.inl (x.1 : Int), V.int (x.2 : Int))
theorem kvO_vals (l : List (Nat × Nat)) : (kvO l).map (·.2) = nl (l.map (·.2)) := by
  unfold kvO nl
  rw [List.map_map, List.map_map]
  rfl
theorem kvO_put {l : List (Nat × Nat)} {x : Nat × Nat} (h : ∀ y ∈ l, y.1 ≠ x.1) : putK (kvO l) (.inl (x.1 : Int)) (.int (x.2 : Int)) = kvO (l ++ [x]) := by
  have : ((kvO l).any fun kv => decide (kv.1 = (Sum.inl (x.1 : Int) : Key))) = false := by
    rw [List.any_eq_false]
    intro kv hkv
    unfold kvO at hkv
    obtain ⟨y, hy, rfl⟩ := List.mem_map.mp hkv
    have := h y hy
    simp
    omega
  unfold putK
  rw [if_neg (by rw [this]; decide)]
  unfold kvO
  rw [List.map_append]
  rfl
theorem kvO_has (l : List (Nat × Nat)) (i : Nat) : (valV (kvO l) (.inl (i : Int))).isSome = l.any fun x => x.1 == i := by
  induction l with
  | nil => rfl
  | cons x l ih =>
    by_cases c : x.1 = i
    · have : valV (kvO (x :: l)) (.inl (i : Int)) = some (V.int (x.2 : Int)) := valV_pos (by show (Sum.inl (x.1 : Int) : Key) = Sum.inl (i : Int); rw [c])
      rw [this]
      simp [c]
    · have : valV (kvO (x :: l)) (.inl (i : Int)) = valV (kvO l) (.inl (i : Int)) := valV_neg (by
        intro e
        have e' : ((x.1 : Nat) : Int) = (i : Int) := by injection e
        exact c (by omega))
      rw [this, ih]
      simp [c]
section
variable {K : PySem.W.Frag} {σ : L2.St} {H : Hp} {te ta tb : TE} {t : TT} {w : World}
theorem el_LV {d : Addr} {l : List (Nat × Nat)} (h : Ev te σ H (.ref d)) (hd : H d = some (.dK (kvO l))) : EvL (tLV te) σ H (nl (l.map (·.2))) := fun H1 e Q q =>
  h H1 e _ fun H2 e2 => ⟨d, kvO l, rfl, (e.trans e2) _ _ hd, fun p hp => q p _ (ex_none e2 hp) (e2.trans (Ex.new hp)) (by rw [upd_same, kvO_vals])⟩
/-- sorted(set(..)) of marks -/
theorem el_sortedSet {l m : List Nat} (h : EvL te σ H (nl l)) (hz : l.length ≤ 1000) (hB : ∀ x ∈ l, x < 60) (hs : m.Pairwise (· < ·)) (hm : ∀ k, k ∈ m ↔ k ∈ l) : EvL (tCB (rSortedSet w) (tCons (tCB (rSetIL K w) (tCons te tNil)) tNil)) σ H (nl m) := fun H1 e Q q =>
  h H1 e _ fun p H2 hp e2 h2 => ⟨p, l.map fun (n : Nat) => (n : Int), rfl, sq_of (by rw [← nl_int]; exact h2), by rw [List.length_map]; exact hz, fun a c ha hc hcB => ⟨a, _, c, rfl, upd_same, Nat.lt_of_le_of_lt (hcB 60 fun k hk => by
    obtain ⟨x, hx, rfl⟩ := List.mem_map.mp hk
    have := hB x hx
    omega) (by decide), fun ns r h1 h3 h4 h5 => by
    have en : ns = m.map fun (n : Nat) => (n : Int) := by
      refine strict_one h1 ?_ fun k => ?_
      · rw [List.pairwise_map]
        exact hs.imp fun h => by omega
      · rw [h3 k, decide_eq_true_eq]
        constructor
        · intro hk
          obtain ⟨x, hx, rfl⟩ := List.mem_map.mp hk
          exact List.mem_map.mpr ⟨x, (hm x).mpr hx, rfl⟩
        · intro hk
          obtain ⟨x, hx, rfl⟩ := List.mem_map.mp hk
          exact List.mem_map.mpr ⟨x, (hm x).mp hx, rfl⟩
    rw [en, ← nl_int]
    have hr2 : H2 r = none := by
      by_cases c : r = a
      · rw [c, upd_same] at h5; cases h5
      · rw [upd_ne c] at h5; exact h5
    exact q r _ (ex_none e2 hr2) ((e2.trans (Ex.new ha)).trans (Ex.new h5)) upd_same⟩⟩
theorem el_lcR2 {tn : TA} {j : Nat} {vs : List Nat} {lo n : Nat} (f : Nat → Bool) (v : Nat → V) (h : EvA tn σ H [.int (lo : Int), .int (n : Int)]) (hn : lo ≤ n ∧ n ≤ 40000) (hw : ∀ x, wipe ((wipe σ vs).set j (some x)) vs = wipe σ vs)
    (ht : ∀ (i : Nat) H1, Ex H H1 → i < n - lo → EvT t ((wipe σ vs).set j (some (.int ((lo + i : Nat) : Int)))) H1 (f i)) (he : ∀ (i : Nat) H1, Ex H H1 → i < n - lo → f i = true → Ev te ((wipe σ vs).set j (some (.int ((lo + i : Nat) : Int)))) H1 (v i)) :
    EvL (tLc (iRng2 tn) (gName j) t te vs) σ H (given (n - lo) f v) := fun H0 e Q q => h H0 e _ fun H1 e1 => ⟨(lo : Int), (n : Int), rfl, ⟨by omega, by omega, by omega, by omega⟩, fun Dl hD => by
  have e0 : ((n : Int) - (lo : Int)).toNat = n - lo := by omega
  rw [e0]
  refine lc_range (lo := (lo : Int)) (n := n - lo) (Cw H1 f v Dl) ⟨hD, Ex.new hD, upd_same⟩ (fun i H' hi p => ?_) (fun H' p => q Dl H' (fresh_back e1 p.1) (e1.trans p.2.1) p.2.2)
  have e2 : (lo : Int) + (i : Int) = ((lo + i : Nat) : Int) := by omega
  show wipe ((wipe σ vs).set j (some (.int ((lo : Int) + (i : Int))))) vs = wipe σ vs ∧ t ((wipe σ vs).set j (some (.int ((lo : Int) + (i : Int))))) H' fun b H3 => if b = true then te ((wipe σ vs).set j (some (.int ((lo : Int) + (i : Int))))) H3 fun y H4 => ∃ acc, H4 Dl = some (.lst acc) ∧ acc.length < sizeLine ∧ Cw H1 f v Dl (i + 1) (upd H4 Dl (.lst (acc ++ [y]))) else Cw H1 f v Dl (i + 1) H3
  rw [e2]
  exact ⟨hw _, cw_turn p (by omega) (ht i H1 (e.trans e1) hi) (fun hf => he i H1 (e.trans e1) hi hf)⟩⟩
end
section
variable {P : Program} {w : World} {K : PySem.W.Frag} {mg : Str → Option Value} {base : Heap}
def sp_explained_place (T : Tp K mg) : Sp := spR fun vs H Pr => ∃ h pa s X pl, vs = [.ref h, .ref pa] ∧ HolderAt T H h s X ∧ Sok s X.P X.own ∧ PlaceAt T H pa pl ∧ pl.at_ + pl.words ≤ s.text.first.length ∧ pl.at2 + pl.words2 ≤ X.P.length ∧ Pr = fun p H2 => H2 p = some (.lst (nl (exOut s pl)))
theorem by1_marks (l : Tx) : ((l.filter fun x => decide (firstOf x.1 < 0)).map fun x => V.int (markOf x.1)) = nl (l.filterMap by1) := by
  induction l with
  | nil => rfl
  | cons a l ih =>
    rw [List.filter_cons, List.filterMap_cons]
    unfold firstOf markOf by1
    cases hb : a.1.by_ with
    | none =>
      rw [if_neg (by simp)]
      exact ih
    | some m =>
      rw [if_pos (by simp), List.map_cons, hb]
      show _ :: _ = V.int (m : Int) :: nl (l.filterMap by1)
      rw [← ih]
      rfl
theorem by1_first (l : Tx) : ((l.filter fun x => decide (0 ≤ firstOf x.1)).map fun x => V.int (firstOf x.1)) = nl ((l.filter fun x => x.1.by_.isNone).map fun x => x.1.id) := by
  induction l with
  | nil => rfl
  | cons a l ih =>
    rw [List.filter_cons, List.filter_cons]
    cases hb : a.1.by_ with
    | none =>
      have hf : firstOf a.1 = (a.1.id : Int) := by unfold firstOf; rw [hb]
      rw [if_pos (by rw [hf]; simp), if_pos (by rfl), List.map_cons, List.map_cons, hf]
      show _ = V.int (a.1.id : Int) :: nl _
      rw [← ih]
    | some m =>
      have hf : firstOf a.1 = -1 := by unfold firstOf; rw [hb]
      rw [if_neg (by rw [hf]; decide), if_neg (by simp)]
      exact ih
-- slots: holder 0, place 1, words 2, took 3, word 4, mark 5, marks 6, stand 7, due 8, found 9, first 10
theorem ok_explained_place (T : Tp K mg) : FnOk P w K mg base CX0 2 T.explained_place.f T.explained_place.fd P_explained_place (sp_explained_place T) := by
  refine T.explained_place.F.ok sc_explained_place (fun vs H Q E h => ?_) (fun cdv A outer s H vs Q E hr h => ⟨_, (pss_cons (ps_set (i := 2) sc_explained_place.nd rfl (.inl rfl) (pe_slice sl_list (pe_fld (pv 0) rfl) (po_some (pe_fld (pv 1) rfl)) (po_some (pe_fld (pv 1) rfl))))
    (pss_cons (ps_set (i := 3) sc_explained_place.nd rfl (.inr rfl) pe_dnewK)
    (pss_cons (ps_for PassesOwn.never rfl (pi_list (pe_fld (pv 0) rfl)) (pg_tup rfl (pgs_cons (pg_name (i := 4) sc_explained_place.nd rfl (.inl rfl)) (pgs_cons (pg_name (i := 5) sc_explained_place.nd rfl (.inl rfl)) pgs_nil))) (pss_one (ps_if (pt_chain op_le op_lt (pe_fld (pv 1) rfl) (pe_fld (pv 4) rfl) (pe_fld (pv 1) rfl)) (pss_one (ps_dput (hu_of hr) (pv 3) (pe_fld (pv 4) rfl) (pv 5) rfl)) pss_nil)))
    (pss_cons (ps_set (i := 6) sc_explained_place.nd rfl (.inl rfl) (pe_callB (cr_sortedSet rfl) rfl T.nsorted (by decide +kernel) (pa_cons (pe_callTy (cr_setI rfl) rfl T.nset (by decide +kernel) (pa_cons (pe_op op_cat (pe_lc (own := [("word", 4)]) (g := (gName 4)) (tt := (tTest (tOp (rI0 fun i j => .bl (decide (i < j))) (tFld K (tVar 4) "first") (tC (.int 0))))) (te := (tFld K (tVar 4) "mark")) rfl sc_explained_place.nd (pi_list (pv 2)) (blkOk_by (own := [("word", 4)]) (N := N_explained_place) (sc := defScope s_explained_place) (by decide +kernel)) (fun _ _ _ _ _ => (pg_name (i := 4) sc_explained_place.nd rfl (.inl rfl))) (fun _ _ _ _ _ => (pts_one (pt_cmpR op_lt (pe_fld (pv 4) rfl) pe_int (nomark _)))) (fun _ _ _ _ _ => (pe_fld (pv 4) rfl))) (pe_listVals rfl rfl T.nlist (pv 3))) pa_nil)) pa_nil)))
    (pss_cons (ps_setLc (i := 7) (own := [("word", 4)]) (g := (gName 4)) (tt := (tTest (tOp (rI0 fun i j => .bl (decide (j ≤ i))) (tFld K (tVar 4) "first") (tC (.int 0))))) (te := (tFld K (tVar 4) "first")) rfl sc_explained_place.nd rfl rfl (sw_true rfl rfl rfl (by decide +kernel)) (pi_list (pv 2)) (blkOk_by (own := [("word", 4)]) (N := N_explained_place) (sc := defScope s_explained_place) (by decide +kernel)) (fun _ _ _ _ _ => (pg_name (i := 4) sc_explained_place.nd rfl (.inl rfl))) (fun _ _ _ _ _ => (pts_one (pt_cmpR op_ge (pe_fld (pv 4) rfl) pe_int (nomark _)))) (fun _ _ _ _ _ => (pe_fld (pv 4) rfl)))
    (pss_cons (ps_setLc (i := 8) (own := [("first", 10)]) (g := (gName 10)) (tt := (tB (tDNotIn (tVar 10) (tVar 3)))) (te := (tVar 10)) rfl sc_explained_place.nd rfl rfl (sw_true rfl rfl rfl (by decide +kernel)) (pi_range2 rfl T.nrange (pa_cons (pe_fld (pv 1) rfl) (pa_cons (pe_fld (pv 1) rfl) pa_nil))) (blkOk_by (own := [("first", 10)]) (N := N_explained_place) (sc := defScope s_explained_place) (by decide +kernel)) (fun _ _ _ _ _ => (pg_name (i := 10) sc_explained_place.nd rfl (.inl rfl))) (fun _ _ _ _ _ => (pts_one (pt_cmp (pc_dnotin (hu_of hr) (pv 10) (pv 3))))) (fun _ _ _ _ _ => (pv 10)))
    (pss_cons (ps_set (i := 9) sc_explained_place.nd rfl (.inl rfl) (pe_op op_cat (pe_lst (pa_cons (pe_fld (pv 1) rfl) (pa_cons (pe_op op_sub (pe_fld (pv 1) rfl) (pe_fld (pv 1) rfl)) (pa_cons (pe_callB call_len_seq rfl T.nlen PySem.boot_len (pa_cons (pv 2) pa_nil)) pa_nil)))) (pe_call (ok_told T) (hr.mono (by decide)) rfl T.told.g T.told.F.kp T.told.b .nil pass0 (pa_cons (pv 2) pa_nil))))
    (pss_one (ps_ret (pe_op op_cat (pe_op op_cat (pe_op op_cat (pv 9) (pe_lst (pa_cons (pe_callB call_len_seq rfl T.nlen PySem.boot_len (pa_cons (pv 6) pa_nil)) pa_nil))) (pv 6)) (pe_lst (pa_cons (pe_callTy call_int1 rfl T.nint (by decide +kernel) (pa_cons (pe_cmpR (op_neD hr.units) (pv 7) (pv 8) (nomark _)) pa_nil)) pa_nil)))))))))))), ?_⟩)
  · obtain ⟨v, ⟨h, pa, s, X, pl, rfl, _⟩, _⟩ := h
    rfl
  · obtain ⟨P', ⟨hh, pa, st, X, pl, rfl, hA, hS, hP, hf1, hf2, rfl⟩, k⟩ := h
    have hPl := hS.len
    have hmm := marksAt_mem (p := pl) hS hf1
    have hms := marksAt_strict (p := pl) hS hf1
    have hmv := moved_eq (p := pl) hS hf1
    have hrl := fun m (h : m ∈ rawMarks st X.P pl) => rawMarks_lt hS h
    have hcl : (cutP X.P pl).length = pl.words2 := by
      unfold cutP
      rw [List.length_take, List.length_drop]
      omega
    have hcut : cutV (X.ats.map V.ref) (some ((pl.at2 : Nat) : Int)) (some ((pl.at2 + pl.words2 : Nat) : Int)) = ((X.ats.drop pl.at2).take pl.words2).map V.ref := by
      rw [cutV_mid _ _ _ (by omega) (by rw [List.length_map, hA.words.1]; omega), List.map_take, List.map_drop, show pl.at2 + pl.words2 - pl.at2 = pl.words2 by omega]
    refine q_asgL (el_sl (ev_fl T.Holder 1 hA.hol (ev_var rfl)) (eo_some (ev_fl T.Place 2 hP (ev_var rfl))) (eo_some (ev_fl T.Place 3 hP (ev_var rfl))) (sq_of hA.textH)) fun wa H1 n1 e1 h1 => ?_
    rw [hcut] at h1
    have hW : ∀ {H' : Hp}, Ex H H' → Al2 (WordAt T H') ((X.ats.drop pl.at2).take pl.words2) (cutP X.P pl) := fun e => ((hA.wordsH.drop _).take _).mono fun _ _ k => k.ex e
    generalize (X.ats.drop pl.at2).take pl.words2 = aw at h1 hW
    refine q_asgR er_dnew fun td H2 n2 e2 h2 => ?_
    have e02 := e1.trans e2
    have hgl : (X.gs.map V.ref).length = (goneF st).length := by rw [List.length_map, hA.gons.1, ← hA.eqG, List.length_map]
    have hg100 := hS.gl
    have hgnd : ((goneF st).map (·.1)).Nodup := by
      unfold goneF
      exact (List.Sublist.map _ (List.filter_sublist)).nodup hS.gnd
    refine q_forT2 (ev_fl T.Holder 5 (hA.ex e02).hol (ev_var rfl)) (sq_of (e02 _ _ hA.gonH)) (fun i σ' H' => Ex H1 (Off [td] H') ∧ (∃ u v, σ' = [some (.ref hh), some (.ref pa), some (.ref wa), some (.ref td), u, v, none, none, none, none, none]) ∧ H' td = some (.dK (kvO (((goneF st).take i).filter (inP pl))))) ?h0 ?hl ?hs ?hd
    case h0 => exact fun H3 e3 => ⟨off_of (e2.trans e3) (by simp [n2]), ⟨_, _, rfl⟩, by rw [e3 _ _ h2]; rfl⟩
    case hl => exact fun i σ' H' _ h => sq_of ((e1.trans (h.1.trans (off_le _ _))) _ _ hA.gonH)
    case hs =>
      rintro i v σ' H' hv ⟨p1, ⟨u, u2, rfl⟩, p2⟩
      rw [List.getElem?_map] at hv
      cases ht' : X.gs[i]? with
      | none => rw [ht'] at hv; cases hv
      | some t =>
        rw [ht'] at hv
        cases hv
        obtain ⟨x, hx, hpx⟩ := hA.gonsH.getL ht'
        obtain ⟨wd, ht, hw⟩ := hpx
        have hxg : (goneF st)[i]? = some (x.1.1.id, x.2) := by rw [← hA.eqG, List.getElem?_map, hx]; rfl
        have hf : firstOf x.1.1 = (x.1.1.id : Int) := by unfold firstOf; rw [hA.byG x (List.mem_of_getElem? hx)]
        have eH : Ex H H' := e1.trans (p1.trans (off_le _ _))
        have hwf : InsAt H' wd T.Word.C flWord [.int (x.1.1.word : Int), .int (x.1.2 : Int), .int (x.1.1.id : Int), .int (markOf x.1.1)] := by
          have := hw.ex eH
          unfold WordAt at this
          rw [hf] at this
          exact this
        refine ⟨t, _, _, rfl, st_of (eH _ _ ht), ?_⟩
        have hnext : ((goneF st).take (i + 1)).filter (inP pl) = ((goneF st).take i).filter (inP pl) ++ (if inP pl (x.1.1.id, x.2) = true then [(x.1.1.id, x.2)] else []) := by
          rw [take_next hxg, List.filter_append]
          simp only [List.filter_cons, List.filter_nil]
        refine s_when (b := inP pl (x.1.1.id, x.2)) (et_is' (et_test (ev_chain (a := decide (pl.at_ ≤ x.1.1.id)) (b := decide (x.1.1.id < pl.at_ + pl.words)) (ev_fl T.Place 0 (hP.ex eH) (ev_var rfl)) (ev_fl T.Word 2 hwf (ev_var rfl)) rv_le (fun _ => ev_fl T.Place 1 (hP.ex eH) (ev_var rfl)) (fun _ => rv_lt))) rfl) (fun hb H3 e3 => ?_) (fun hb H3 e3 => ?_)
        · refine s_dput (ev_var rfl) (ev_var rfl) (ev_fl T.Word 2 (hwf.ex e3) (ev_var rfl)) (e3 _ _ p2) ?_ fun H4 e4 => ?_
          · unfold kvO
            rw [List.length_map]
            have := List.length_filter_le (inP pl) ((goneF st).take i)
            rw [List.length_take] at this
            omega
          · refine ⟨?_, ⟨_, _, rfl⟩, ?_⟩
            · rw [off_upd (by simp)]
              exact p1.trans (off_ex (e3.trans e4))
            · rw [upd_same, kvO_put (x := (x.1.1.id, x.2)) (fun y hy => ?_), hnext, if_pos hb]
              have hy' := (List.mem_filter.mp hy).1
              obtain ⟨j, hj⟩ := List.mem_iff_getElem?.mp hy'
              rw [List.getElem?_take] at hj
              split at hj
              · rename_i hlt
                intro e
                have n1 : ((goneF st).map (·.1))[j]? = some y.1 := by rw [List.getElem?_map, hj]; rfl
                have n2 : ((goneF st).map (·.1))[i]? = some y.1 := by rw [List.getElem?_map, hxg, e]; rfl
                have := nd_ix hgnd n1 n2
                omega
              · cases hj
        · refine ⟨p1.trans (off_ex e3), ⟨_, _, rfl⟩, ?_⟩
          rw [e3 _ _ p2, hnext, if_neg (by rw [hb]; decide), List.append_nil]
    case hd =>
      rintro σ' H3 ⟨p1, ⟨u, u2, rfl⟩, p2⟩
      rw [hgl, List.take_length] at p2
      have e13 : Ex H1 H3 := p1.trans (off_le _ _)
      have e03 := e1.trans e13
      have w3 := e13 _ _ h1
      have hP3 := hP.ex e03
      have hcl' : (cutP X.P pl).length ≤ 40000 := by omega
      have lenRaw : (rawMarks st X.P pl).length ≤ 1000 := by
        unfold rawMarks
        rw [List.length_append, List.length_map]
        have h1 := List.length_filterMap_le by1 (cutP X.P pl)
        have h2 := List.length_filter_le (inP pl) (goneF st)
        omega
      -- marks
      have lc1 := el_lcG (K := K) (σ := [some (.ref hh), some (.ref pa), some (.ref wa), some (.ref td), u, u2, none, none, none, none, none]) (H := H3) (tl := tVar 2) (te := tFld K (tVar 4) (Str.ofString "mark")) (t := tTest (tOp (rI0 fun i j => V.bl (decide (i < j))) (tFld K (tVar 4) (Str.ofString "first")) (tC (.int 0)))) (j := 4) (vs := [4])
        (fun x : Tw => decide (firstOf x.1 < 0)) (fun x : Tw => V.int (markOf x.1)) (ev_var rfl) w3 (al_ref (hW e03)) hcl' (fun _ => rfl) (fun v x H4 e4 hv => by
          obtain ⟨a, rfl, ha⟩ := hv
          exact et_test (ev_op (ev_fl T.Word 2 (ha.ex e4) (ev_var rfl)) ev_c rv_I0)) (fun v x H4 e4 hv _ => by
          obtain ⟨a, rfl, ha⟩ := hv
          exact ev_fl T.Word 3 (ha.ex e4) (ev_var rfl))
      rw [by1_marks] at lc1
      have cat := el_cat (els_l lc1) (els_l (el_LV (ev_var (i := 3) rfl) p2)) (by
        have h1 := List.length_filterMap_le by1 (cutP X.P pl)
        have h2 := List.length_filter_le (inP pl) (goneF st)
        rw [nl_len, nl_len, List.length_map]
        omega)
      rw [← nl_app] at cat
      refine q_asgL (el_sortedSet (m := Si43.marksAt st.text pl) (l := rawMarks st X.P pl) cat lenRaw (fun x hx => Nat.lt_of_lt_of_le (hrl x hx) hS.ml) hms hmm) fun ka H4 n4 e4 h4 => ?_
      have e04 := e03.trans e4
      -- stand
      refine q_asgL (el_lcG (fun x : Tw => decide (0 ≤ firstOf x.1)) (fun x : Tw => V.int (firstOf x.1)) (ev_var rfl) (e4 _ _ w3) (al_ref (hW e04)) hcl' (fun _ => rfl) (fun v x H5 e5 hv => ?_) (fun v x H5 e5 hv _ => ?_)) fun sa H5 n5 e5 h5 => ?_
      · obtain ⟨a, rfl, ha⟩ := hv
        exact et_test (ev_op (ev_fl T.Word 2 (ha.ex e5) (ev_var rfl)) ev_c rv_I0)
      · obtain ⟨a, rfl, ha⟩ := hv
        exact ev_fl T.Word 2 (ha.ex e5) (ev_var rfl)
      rw [by1_first] at h5
      have e05 := e04.trans e5
      have d5 := (e4.trans e5) _ _ p2
      have hP5 := hP.ex e05
      -- due
      refine q_asgL (el_lcR2 (lo := pl.at_) (n := pl.at_ + pl.words) (fun i => !(((goneF st).filter (inP pl)).any fun x => x.1 == pl.at_ + i)) (fun i => V.int ((pl.at_ + i : Nat) : Int)) (ea_cons (ev_fl T.Place 0 hP5 (ev_var rfl)) (ea_cons (ev_fl T.Place 1 hP5 (ev_var rfl)) ea_nil)) ⟨by omega, by have := hS.fl; omega⟩ (fun _ => rfl) (fun i H6 e6 hi => ?_) (fun i H6 e6 hi _ => ev_var rfl)) fun da H6 n6 e6 h6 => ?_
      · refine et_is' (et_dni (ev_var rfl) (ev_var rfl) (e6 _ _ d5)) ?_
        rw [kvO_has]
      have hdue : given (pl.at_ + pl.words - pl.at_) (fun i => !(((goneF st).filter (inP pl)).any fun x => x.1 == pl.at_ + i)) (fun i => V.int ((pl.at_ + i : Nat) : Int)) = nl (dueP st pl) := by
        unfold given dueP nl
        rw [show pl.at_ + pl.words - pl.at_ = pl.words by omega, List.filter_map, List.map_map]
        rfl
      rw [hdue] at h6
      have e06 := e05.trans e6
      have w6 := ((e4.trans e5).trans e6) _ _ w3
      have hP6 := hP.ex e06
      have wordsE : ((cutP X.P pl).map fun x => x.1.word) = Si43.cutOut (Si43.wanted st) pl.at2 pl.words2 := by
        unfold cutP Si43.cutOut Si43.wanted
        rw [← wordsQ hS, List.map_take, List.map_drop]
      have hal : aw.length = pl.words2 := by rw [(hW e06).1, hcl]
      -- found
      refine q_asgL (el_cat (els_l (el_lst (ea_cons (ev_fl T.Place 0 hP6 (ev_var rfl)) (ea_cons (ev_op (ev_fl T.Place 1 hP6 (ev_var rfl)) (ev_fl T.Place 0 hP6 (ev_var rfl)) rv_I0) (ea_cons (ev_is (ev_len (ev_var rfl) (sq_of w6)) (by rw [List.length_map, hal])) ea_nil))) (by show 3 ≤ 100000; decide)))
        (els_l (evr_l (er_callR (ea_cons (ev_var rfl) ea_nil) fun H7 e7 => ⟨wa, aw, cutP X.P pl, rfl, e7 _ _ w6, (hW e06).mono fun _ _ k => k.ex e7, hcl', rfl⟩))) ?_) fun fd H7 n7 e7 h7 => ?_
      · rw [nl_len, List.length_map]
        simp only [List.length_cons, List.length_nil]
        omega
      rw [wordsE] at h7
      have hcutl : (Si43.cutOut (Si43.wanted st) pl.at2 pl.words2).length = pl.words2 := by rw [← wordsE, List.length_map, hcl]
      have hml : (Si43.marksAt st.text pl).length ≤ 100 := by
        have h1 := nodup_lt 60 (Si43.marksAt st.text pl) (hms.imp fun h => Nat.ne_of_lt h) (fun x hx => Nat.lt_of_lt_of_le (hrl x ((hmm x).mp hx)) hS.ml)
        omega
      have m7 := ((e5.trans e6).trans e7) _ _ h4
      have s7 := (e6.trans e7) _ _ h5
      have d7 := e7 _ _ h6
      refine s_retL (el_cat (els_l (el_cat (els_l (el_cat (els_v (ev_var rfl) h7) (els_l (el_lst (ea_cons (ev_lenN' (ev_var rfl) m7) ea_nil) (by show 1 ≤ 100000; decide))) ?_)) (els_v (ev_var rfl) m7) ?_)) (els_l (el_lst (ea_cons (ev_int1 (ev_op (ev_var rfl) (ev_var rfl) (rv_neN (sq_of s7) (sq_of d7)))) ea_nil) (by show 1 ≤ 100000; decide))) ?_) fun p H8 n8 e8 h8 => k p H8 (ex_none (e06.trans e7) n8) ((e06.trans e7).trans e8) ?_
      · simp only [List.length_append, nl_len, List.length_cons, List.length_nil]
        omega
      · simp only [List.length_append, nl_len, List.length_cons, List.length_nil]
        omega
      · simp only [List.length_append, nl_len, List.length_cons, List.length_nil]
        omega
      · show H8 p = _
        rw [h8]
        have hb : (!decide ((((cutP X.P pl).filter fun x => x.1.by_.isNone).map fun x => x.1.id) = dueP st pl)) = Si43.movedAt st.text pl := by
          rw [hmv, Bool.eq_iff_iff]
          simp
        rw [hb]
        have e1 : ((pl.at_ + pl.words : Nat) : Int) - (pl.at_ : Int) = (pl.words : Int) := by omega
        rw [e1]
        unfold exOut nl
        cases Si43.movedAt st.text pl <;> simp
end
end Pf

end
section
set_option Elab.async false
set_option linter.all false
set_option maxRecDepth 100000
set_option maxHeartbeats 4000000
/-! All places explained. -/
namespace Pf
open PySem PySem.Spec PyProof.Rows L2 Evl
section
variable {P : Program} {w : World} {K : PySem.W.Frag} {mg : Str → Option Value} {base : Heap}
def cExpl : List Nat → List Nat → Option Si43.Call
  | [], _ => some .explained
  | _, _ => none
def sp_explained (T : Tp K mg) : Sp := spD T cExpl
theorem nl_ints3 (v : Nat) (l : List Nat) : ((v : Int) :: Si43.ints l).map V.int = nl (v :: l) := by
  unfold nl Si43.ints
  simp
-- slots: holder 0, numbers 1, row 2, places 3, found 4, place 5
theorem ok_explained (T : Tp K mg) : FnOk P w K mg base (L2.CX P w) 6 T.explained.f T.explained.fd P_explained (sp_explained T) := by
  refine T.explained.F.okX sc_explained (fun vs H Q E h => ?_) (fun cdv A outer s H vs Q E hr h => ⟨_, (pss_cons (ps_set (i := 3) sc_explained.nd rfl (.inl rfl) (pe_call (ok_places_of T) (hr.mono (by decide)) rfl T.places_of.g T.places_of.F.kp T.places_of.b .nil pass0 (pa_cons (pe_fld (pv 0) rfl) (pa_cons (pe_call (ok_told T) (hr.mono (by decide)) rfl T.told.g T.told.F.kp T.told.b .nil pass0 (pa_cons (pe_fld (pv 0) rfl) pa_nil)) (pa_cons (pe_fld (pv 0) rfl) pa_nil)))))
    (pss_cons (ps_set (i := 4) sc_explained.nd rfl (.inl rfl) (pe_lst (pa_cons (pe_callB call_len_seq rfl T.nlen PySem.boot_len (pa_cons (pv 3) pa_nil)) pa_nil)))
    (pss_cons (ps_for (passes_of rfl) rfl (pi_list (pv 3)) (pg_name (i := 5) sc_explained.nd rfl (.inl rfl)) (pss_one (ps_set (i := 4) sc_explained.nd rfl (.inl rfl) (pe_op op_cat (pv 4) (pe_call (ok_explained_place T) (hr.mono (by decide)) rfl T.explained_place.g T.explained_place.F.kp T.explained_place.b .nil pass0 (pa_cons (pv 0) (pa_cons (pv 5) pa_nil)))))))
    (pss_one (ps_ret (pv 4)))))), ?_⟩)
  · obtain ⟨h, na, ra, ns, row, s, X, c, rfl, _⟩ := h
    rfl
  · obtain ⟨hh, na, ra, ns, row, st, X, c, rfl, hA, hS, hN, hR, hrl, hc, g⟩ := h
    match ns, hc with
    | [], hc =>
    cases hc
    rw [step_explained] at g
    have hg := g.same hA hS rfl (by omega)
    have hwl := wanted_len hS
    have hfl := hS.fl
    have hin : ∀ p ∈ Si43.places st.costs st.text.first (Si43.wanted st), p.at_ + p.words ≤ st.text.first.length ∧ p.at2 + p.words2 ≤ X.P.length := fun p hp => by
      have := place_in hp
      have e : (Si43.wanted st).length = X.P.length := by
        unfold Si43.wanted
        rw [List.length_map, ← hS.text, List.length_map]
      omega
    have hfew : (Si43.places st.costs st.text.first (Si43.wanted st)).length ≤ 201 := by
      have := places_few st.costs st.text.first (Si43.wanted st)
      omega
    have hex : ∀ p ∈ Si43.places st.costs st.text.first (Si43.wanted st), (exOut st p).length ≤ 300 := fun p hp => by
      have h1 := hin p hp
      have h2 := hS.len
      have h3 := nodup_lt 60 (Si43.marksAt st.text p) ((marksAt_strict hS h1.1).imp fun h => Nat.ne_of_lt h) (fun x hx => Nat.lt_of_lt_of_le (rawMarks_lt hS ((marksAt_mem hS h1.1 x).mp hx)) hS.ml)
      unfold exOut Si43.cutOut
      simp only [List.length_append, List.length_cons, List.length_nil, List.length_take, List.length_drop]
      omega
    refine q_asgR (er_callRP (eap_v (ev_fl T.Holder 0 hA.hol (ev_var rfl)) (eap_cons (EvR.toP (er_told hA hS (ev_var rfl))) fun v H2 e2 hv => EvA.toP (ea_cons (ev_fl T.Holder 7 (hA.ex e2).hol (ev_var rfl)) ea_nil))) (P := fun p H2 => PlsAt T H2 p (Si43.places st.costs st.text.first (Si43.wanted st))) fun vs H2 e2 hv => ?_) fun pa H1 n1 e1 hp => ?_
    · obtain ⟨l, rfl, v, r, H3, rfl, e3, ⟨ta, rfl, _, ht⟩, e32, rfl⟩ := hv
      exact ⟨X.fa, ta, X.ca, st.costs, st.text.first, Si43.wanted st, rfl, e2 _ _ hA.firstH, e32 _ _ ht, hA.costH.ex e2, by omega, by omega, rfl⟩
    obtain ⟨ps, hp1, hp2⟩ := hp
    generalize Si43.places st.costs st.text.first (Si43.wanted st) = l at hp2 hg hin hfew hex
    refine q_asgL (el_lst (ea_cons (ev_is (ev_len (ev_var rfl) (sq_of hp1)) (by rw [List.length_map, hp2.1])) ea_nil) (by show 1 ≤ 100000; decide)) fun fd H2 n2 e2 h2 => ?_
    refine q_forLn (ev_var rfl) (sq_of (e2 _ _ hp1)) (fun i σ' H' => Ex H1 H' ∧ ∃ (f : Addr) (u : Option V), H f = none ∧ σ' = [some (.ref hh), some (.ref na), some (.ref ra), some (.ref pa), some (.ref f), u] ∧
      H' f = some (.lst (((l.length : Int) :: (l.take i).flatMap fun p => Si43.ints (exOut st p)).map V.int)) ∧ ((l.take i).flatMap fun p => Si43.ints (exOut st p)).length ≤ 300 * i) ?h0 ?hl ?hs ?hd
    case h0 => exact fun H3 e3 => ⟨e2.trans e3, fd, _, ex_none e1 n2, rfl, by rw [e3 _ _ h2]; rfl, Nat.zero_le _⟩
    case hl => exact fun i σ' H' _ h => sq_of (h.1 _ _ hp1)
    case hd =>
      rintro σ' H' ⟨p1, f, u, fN, rfl, p2, _⟩
      rw [List.length_map, hp2.1, List.take_length] at p2
      exact s_ret (ev_var rfl) fun H3 e3 => hg H3 f fN ((e1.trans p1).trans e3) (e3 _ _ p2)
    case hs =>
      rintro i v σ' H' hv ⟨p1, f, u, fN, rfl, p2, p3⟩
      rw [List.getElem?_map] at hv
      cases ht' : ps[i]? with
      | none => rw [ht'] at hv; cases hv
      | some t =>
        rw [ht'] at hv
        cases hv
        obtain ⟨x, hx, hpx⟩ := hp2.getL ht'
        have hxm := List.mem_of_getElem? hx
        have hil := (List.getElem?_eq_some_iff.mp hx).1
        have e01 := e1.trans p1
        have hxe := hex x hxm
        have hxi := hin x hxm
        refine s_asgL (el_cat (els_v (ev_var rfl) p2) (els_l (evr_l (er_callR (ea_cons (ev_var rfl) (ea_cons (ev_var rfl) ea_nil)) fun H3 e3 => ⟨hh, t, st, X, x, rfl, hA.ex (e01.trans e3), hS, (hpx.ex p1).ex e3, hxi.1, hxi.2, rfl⟩))) ?_) fun f2 H4 n4 e4 h4 => ?_
        · rw [List.length_map, List.length_cons, nl_len]
          omega
        · refine ⟨p1.trans e4, f2, _, ex_none e01 n4, rfl, ?_, ?_⟩
          · rw [h4, take_next hx, List.flatMap_append]
            simp [Si43.ints, nl]
          · rw [take_next hx, List.flatMap_append, List.length_append]
            simp only [List.flatMap_cons, List.flatMap_nil, List.append_nil]
            have : (Si43.ints (exOut st x)).length = (exOut st x).length := by
              unfold Si43.ints
              rw [List.length_map]
            omega
end
end Pf

end
section
/-! A refusal changes nothing and tells nothing more. -/
set_option Elab.async false
set_option linter.all false
namespace Pf
open Si42
theorem ok_l (v : Int) : (ok v).l = [] := rfl
theorem neg42 (s : St) (c : Si42.Call) (h : (step s c).2.v < 0) : (step s c).2.l = [] := by
  cases c with
  | begins w => simp only [step] at h ⊢; split <;> rfl
  | reader n => simp only [step] at h ⊢; repeat' split
                all_goals rfl
  | change r i j w => simp only [step, marked] at h ⊢; repeat' split
                      all_goals rfl
  | keep r i j => simp only [step, marked] at h ⊢; repeat' split
                  all_goals rfl
  | move r i j k => simp only [step, marked] at h ⊢; repeat' split
                    all_goals rfl
  | withdraw m => simp only [step] at h ⊢; repeat' split
                  all_goals rfl
  | clashes => simp only [step] at h; omega
  | carry =>
    have e : step s .carry = if WORDS < (carried s).text.length then (s, ok (-5)) else (carried s, ⟨(weightOf s.readers s.marks (chosen s.readers s.marks) : Int), Si42.ints ((chosen s.readers s.marks).length :: (chosen s.readers s.marks).map fun x => x.1)⟩) := rfl
    rw [e] at h ⊢
    split
    · rfl
    · rename_i hn
      rw [if_neg hn] at h
      dsimp only at h
      omega
  | shown => simp only [step] at h; omega
  | who i =>
    simp only [step] at h ⊢
    cases hx : s.text[i]? with
    | none => rfl
    | some x =>
      rw [hx] at h
      dsimp only at h ⊢
      cases hb : x.by_ with
      | none => rw [hb] at h; simp at h
      | some m => rw [hb] at h; simp at h
  | mark m =>
    simp only [step] at h ⊢
    cases hx : s.marks[m]? with
    | none => rfl
    | some x =>
      rw [hx] at h
      dsimp only at h ⊢
      cases hb : x.stand <;> (rw [hb] at h; simp at h)
  | gone => simp only [step] at h; omega
  | test l =>
    simp only [step] at h ⊢
    split
    · rfl
    · rename_i o ho
      rw [ho] at h
      dsimp only at h
      split
      · rfl
      · rename_i hn
        rw [if_neg hn] at h
        dsimp only at h
        omega
theorem neg43 (s : Si43.St) (c : Si43.Call) (h : (Si43.step s c).2.v < 0) : Si43.step s c = (s, ⟨(Si43.step s c).2.v, []⟩) := by
  cases c with
  | proof c =>
    have e : (Si43.step s (.proof c)).2.v = (Si42.step s.text c).2.v := rfl
    rw [e] at h
    have hl := neg42 s.text c h
    have := proof_no (s := s) (c := c) (t := (Si42.step s.text c).1) (v := (Si42.step s.text c).2.v) (l := (Si42.step s.text c).2.l) rfl h
    rw [this, hl]
  | costs a b c =>
    by_cases q : a < 1 ∨ 100 < a ∨ b < 1 ∨ 100 < b ∨ c < 1 ∨ 100 < c
    · have e : Si43.step s (.costs a b c) = (s, Si43.ok (-1)) := if_pos q
      rw [e]
      rfl
    · have e : Si43.step s (.costs a b c) = ({ s with costs := ⟨a, b, c⟩ }, Si43.ok 0) := if_neg q
      rw [e] at h
      exact absurd (show (0 : Int) < 0 from h) (by decide)
  | set w =>
    by_cases q : wordsOk w = false ∨ Si43.SET < w.length
    · have e : Si43.step s (.set w) = (s, Si43.ok (-1)) := if_pos q
      rw [e]
      rfl
    · have e : Si43.step s (.set w) = ({ s with setting := some w }, ⟨((Si43.faults s w).length : Int), [(Si38.least s.costs (Si43.wanted s) w : Int)]⟩) := if_neg q
      rw [e] at h
      dsimp only at h
      omega
  | places =>
    have e : Si43.step s .places = (s, Si43.back s fun w => let l := Si43.faults s w
      ⟨(l.length : Int), l.flatMap fun p => Si43.ints (Si43.faultOut w p)⟩) := rfl
    rw [e] at h ⊢
    unfold Si43.back at h ⊢
    cases hs : s.setting with
    | none => rfl
    | some w =>
      rw [hs] at h
      dsimp only at h
      omega
  | adopt r k =>
    cases hs : s.setting with
    | none =>
      have e : Si43.step s (.adopt r k) = (s, ⟨-4, []⟩) := by
        show (match s.setting with | none => _ | some w => _) = _
        rw [hs]
        rfl
      rw [e]
    | some w =>
      cases hf : (Si43.faults s w)[k]? with
      | none =>
        have e : Si43.step s (.adopt r k) = (s, ⟨-6, []⟩) := by
          show (match s.setting with | none => _ | some w => _) = _
          rw [hs]
          dsimp only
          rw [hf]
          rfl
        rw [e]
      | some p =>
        have e : Si43.step s (.adopt r k) = Si43.step s (.proof (.change r p.at_ (p.at_ + p.words) (Si43.cutOut w p.at2 p.words2))) := by
          rw [step_change, ← pass_marked]
          show (match s.setting with | none => _ | some w => _) = _
          rw [hs]
          dsimp only
          rw [hf]
          rfl
        rw [e] at h ⊢
        have e2 : (Si43.step s (.proof (.change r p.at_ (p.at_ + p.words) (Si43.cutOut w p.at2 p.words2)))).2.v = (Si42.step s.text (.change r p.at_ (p.at_ + p.words) (Si43.cutOut w p.at2 p.words2))).2.v := rfl
        rw [e2] at h
        have hl := neg42 s.text _ h
        have := proof_no (s := s) (c := .change r p.at_ (p.at_ + p.words) (Si43.cutOut w p.at2 p.words2)) (t := (Si42.step s.text (.change r p.at_ (p.at_ + p.words) (Si43.cutOut w p.at2 p.words2))).1) (v := (Si42.step s.text (.change r p.at_ (p.at_ + p.words) (Si43.cutOut w p.at2 p.words2))).2.v) (l := (Si42.step s.text (.change r p.at_ (p.at_ + p.words) (Si43.cutOut w p.at2 p.words2))).2.l) rfl h
        rw [this, hl]
  | clean =>
    have e : Si43.step s .clean = (s, Si43.back s fun w => Si43.ok (if w = Si43.wanted s then 1 else 0)) := rfl
    rw [e] at h ⊢
    unfold Si43.back at h ⊢
    cases hs : s.setting with
    | none => rfl
    | some w => rfl
  | explained =>
    rw [step_explained] at h
    dsimp only at h
    omega
end Pf

end
section
set_option Elab.async false
set_option linter.all false
set_option maxRecDepth 100000
set_option maxHeartbeats 4000000
/-! A call answered. -/
namespace Pf
open PySem PySem.Spec PyProof.Rows L2 Evl
/-! ### a call of a local name that holds a def, which may raise -/
def tCallSA (i : Nat) (Ok : Addr → Sp → Prop) (E : L2.St → XK) (t : TA) : TE := fun σ H Q => ∃ f sp, σ[i]? = some (some (.ref f)) ∧ Ok f sp ∧ t σ H fun vs H1 => sp vs H1 Q (E σ)
section
variable {X : Cx} {k i : Nat} {x : Str} {p pos : Pos} {e : Expr} {es : List Expr} {t : TA} {E : L2.St → XK}
theorem pe_callSA {Ok : Addr → Sp → Prop} (A : ∀ f sp, Ok f sp → ∃ (k' : Nat) (fd : FuncData) (ps : List Str), k' ≤ k ∧ FnOk X.prog X.w X.K X.mg X.base (L2.CX X.prog X.w) k' f fd ps sp ∧ PySem.W.keepIn X.K (.ref f) = true ∧ Binds X.K fd ps []) (hr : Room k X.A)
    (hN : X.N[i]? = some x) (hv : Vis X.env.scope x) (hx : ∀ σ, PassesAt (L2.CX X.prog X.w) X σ (E σ)) (ha : PA X (e :: es) t) (hdb : (x == ("__debug__" : Str)) = false := by decide) (hcd : (x == ("__classdict__" : Str)) = false := by decide)
    (he : starEach (e :: es) X.env = (false, eval e X.env) :: starEach es X.env := by rfl) (hpl : (backTo pos (starEach es X.env)).any (·.1) = false := by rfl) : PE X (.Call (.Name x p) (e :: es) [] pos) (tCallSA i Ok E t) := by
  refine ⟨fun pins s σ H Q I h => ?_⟩
  obtain ⟨f, sp, hs, hok, ht⟩ := h
  obtain ⟨k', fd, ps, hk', F, hk, hb⟩ := A f sp hok
  have look := (pe_var (pos := p) hN hv hdb hcd).run pins s σ H (fun v H1 => v = .ref f ∧ H1 = H) I ⟨.ref f, hs, rfl, rfl⟩
  refine wpAny_Call_Name_kw (thn look fun u s1 ⟨v, H1, I1, r1, e1, e2⟩ => ?_)
  subst e1 e2
  cases r1
  exact PySem.W.callWith_K (h₀ := X.base) I.ok.mod.kin hk (thn (ha.run pos pins s1 σ _ _ I1 ht) fun us s2 ⟨vs, H2, I2, r, q⟩ => ⟨I2.kIn, run_fnS F (hr.mono hk') hb (hx σ) I2 r q⟩) he hpl
end
section
variable {P : Program} {w : World} {K : PySem.W.Frag} {mg : Str → Option Value} {base : Heap}
def cL : List (List Nat → List Nat → Option Si43.Call) := [cBegins, cReader, cChange, cKeep, cMove, cWithdraw, cClashes, cCarry, cShown, cWho, cMark, cGone, cTest, cCosts, cSet, cPlaces, cAdopt, cClean, cExpl]
def fL (T : Tp K mg) : List Addr := [T.begins.f, T.reader.f, T.change.f, T.keep.f, T.move.f, T.withdraw.f, T.clashes.f, T.carry.f, T.shown.f, T.who.f, T.mark_told.f, T.gone.f, T.test.f, T.set_costs.f, T.set_setting.f, T.faults.f, T.adopt.f, T.clean.f, T.explained.f]
def OkD (T : Tp K mg) (f : Addr) (sp : Sp) : Prop := ∃ (n : Nat) (c : List Nat → List Nat → Option Si43.Call), (fL T)[n]? = some f ∧ cL[n]? = some c ∧ sp = spD T c
theorem okD_all (T : Tp K mg) : ∀ f sp, OkD T f sp → ∃ (k' : Nat) (fd : FuncData) (ps : List Str), k' ≤ 7 ∧ FnOk P w K mg base (L2.CX P w) k' f fd ps sp ∧ PySem.W.keepIn K (.ref f) = true ∧ Binds K fd ps [] := by
  rintro f sp ⟨n, c, h1, h2, rfl⟩
  match n, h1, h2 with
  | 0, h1, h2 => cases h1; cases h2; exact ⟨4, _, _, by decide, ok_begins T, T.begins.F.kp, T.begins.b⟩
  | 1, h1, h2 => cases h1; cases h2; exact ⟨4, _, _, by decide, ok_reader T, T.reader.F.kp, T.reader.b⟩
  | 2, h1, h2 => cases h1; cases h2; exact ⟨5, _, _, by decide, ok_change T, T.change.F.kp, T.change.b⟩
  | 3, h1, h2 => cases h1; cases h2; exact ⟨5, _, _, by decide, ok_keep T, T.keep.F.kp, T.keep.b⟩
  | 4, h1, h2 => cases h1; cases h2; exact ⟨5, _, _, by decide, ok_move T, T.move.F.kp, T.move.b⟩
  | 5, h1, h2 => cases h1; cases h2; exact ⟨4, _, _, by decide, ok_withdraw T, T.withdraw.F.kp, T.withdraw.b⟩
  | 6, h1, h2 => cases h1; cases h2; exact ⟨4, _, _, by decide, ok_clashes T, T.clashes.F.kp, T.clashes.b⟩
  | 7, h1, h2 => cases h1; cases h2; exact ⟨5, _, _, by decide, ok_carry T, T.carry.F.kp, T.carry.b⟩
  | 8, h1, h2 => cases h1; cases h2; exact ⟨2, _, _, by decide, ok_shown T, T.shown.F.kp, T.shown.b⟩
  | 9, h1, h2 => cases h1; cases h2; exact ⟨4, _, _, by decide, ok_who T, T.who.F.kp, T.who.b⟩
  | 10, h1, h2 => cases h1; cases h2; exact ⟨4, _, _, by decide, ok_mark_told T, T.mark_told.F.kp, T.mark_told.b⟩
  | 11, h1, h2 => cases h1; cases h2; exact ⟨1, _, _, by decide, ok_gone T, T.gone.F.kp, T.gone.b⟩
  | 12, h1, h2 => cases h1; cases h2; exact ⟨5, _, _, by decide, ok_test T, T.test.F.kp, T.test.b⟩
  | 13, h1, h2 => cases h1; cases h2; exact ⟨4, _, _, by decide, ok_set_costs T, T.set_costs.F.kp, T.set_costs.b⟩
  | 14, h1, h2 => cases h1; cases h2; exact ⟨7, _, _, by decide, ok_set_setting T, T.set_setting.F.kp, T.set_setting.b⟩
  | 15, h1, h2 => cases h1; cases h2; exact ⟨7, _, _, by decide, ok_faults T, T.faults.F.kp, T.faults.b⟩
  | 16, h1, h2 => cases h1; cases h2; exact ⟨7, _, _, by decide, ok_adopt T, T.adopt.F.kp, T.adopt.b⟩
  | 17, h1, h2 => cases h1; cases h2; exact ⟨4, _, _, by decide, ok_clean T, T.clean.F.kp, T.clean.b⟩
  | 18, h1, h2 => cases h1; cases h2; exact ⟨6, _, _, by decide, ok_explained T, T.explained.F.kp, T.explained.b⟩
  | n + 19, h1, h2 => cases h1
theorem ev_xf {σ : L2.St} {H : Hp} {te : TE} {a C d : Addr} {n : Int} (h : Ev te σ H (.ref a)) (hx : H d = some (.xd (numF n))) : Ev (tXf a (.ref C) (some d) C (Str.ofString "number") te) σ H (.int n) := fun H1 e Q q =>
  h H1 e _ fun H2 e2 => ⟨rfl, rfl, d, numF n, .int n, rfl, (e.trans e2) _ _ hx, rfl, q H2 e2⟩
def sp_answer (T : Tp K mg) : Sp := fun vs H Q _ => ∃ h n na ra ns row s X cf c, vs = [.ref h, .int ((n : Nat) : Int), .ref na, .ref ra] ∧ HolderAt T H h s X ∧ Sok s X.P X.own ∧ Off (X.F h) H na = some (.lst (nl ns)) ∧ Off (X.F h) H ra = some (.lst (nl row)) ∧ row.length ≤ 200 ∧
  cL[n]? = some cf ∧ cf ns row = some c ∧ ∀ H' p X', Ex (Off (X.F h) H) (Off (X.F h) H') → (∀ a ∈ X'.F h, a ∈ X.F h ∨ H a = none) → X'.zs = X.zs → Zk X H H' → HolderAt T H' h (Si43.step s c).1 X' → Sok (Si43.step s c).1 X'.P X'.own → p ∉ X.zs →
  H' p = some (.lst (((Si43.step s c).2.v :: (Si43.step s c).2.l).map V.int)) → Q (.ref p) H'
theorem ok_answer (T : Tp K mg) : FnOk P w K mg base CX0 8 T.answer.f T.answer.fd P_answer (sp_answer T) := by
  refine T.answer.F.ok sc_answer (fun vs H Q E h => ?_) (fun cdv A outer s H vs Q E hr h => ⟨_, (pss_cons (ps_set (i := 4) sc_answer.nd rfl (.inl rfl) (pe_ix ix_tup (pe_glob (v := .ref T.aDEEDS) rfl T.gDEEDS rfl) (pv 1) (fun _ _ => rfl)))
    (pss_cons (ps_try_as (i := 6) (tb := fun W => tAsg (tCallSA 4 (OkD T) (WE W) (tCons (tVar 0) (tCons (tVar 2) (tCons (tVar 3) tNil)))) (gName 5)) (ts := fun a cls d => tRet (tLst (tCons (tXf a cls d T.Refused.C (Str.ofString "number") (tVar 6)) tNil))) (Wout := fun _ _ _ _ => False) rfl rfl sc_answer.nd rfl rfl ⟨rfl, by decide, Or.inl T.Refused.g⟩ takes0
      (fun W pn xe tk _ => pss_one (ps_set (i := 5) sc_answer.nd rfl (Or.inl rfl) (by exact (pe_callSA (okD_all T) (hr.mono (by decide)) rfl (.inl rfl) (fun σ => passAt tk σ) (by exact (pa_cons (pv 0) (pa_cons (pv 2) (pa_cons (pv 3) pa_nil))))))))
      (fun a oe cls d pn hz hf => pss_one (ps_ret (by exact (pe_lst (pa_cons (pe_xf T.Refused.xf T.Refused.no hz hf (pv 6)) pa_nil))))))
    (pss_one (ps_ret (pv 5))))), ?_⟩)
  · obtain ⟨h, n, na, ra, ns, row, s, X, cf, c, rfl, _⟩ := h
    rfl
  · obtain ⟨hh, n, na, ra, ns, row, st, X, cf, c, rfl, hA, hS, hN, hR, hrl, hcf, hc, k⟩ := h
    have hn : n < 19 := (List.getElem?_eq_some_iff.mp hcf).1
    have hf : (fL T)[n]? = some ((fL T)[n]'hn) := List.getElem?_eq_getElem (show n < (fL T).length from hn)
    generalize (fL T)[n]'hn = f at hf
    have hD : atI ((fL T).map V.ref) (n : Int) = some (.ref f) := at_nat (by rw [List.getElem?_map, hf]; rfl)
    refine q_asg (v := .ref f) (fun H1 e1 Q' q' => ?_) fun H1 e1 => ?_
    · exact (ev_op (ev_c : Ev (tC (.ref T.aDEEDS)) [some (.ref hh), some (.int (n : Int)), some (.ref na), some (.ref ra), none, none, none] H1 (.ref T.aDEEDS)) (ev_var rfl : Ev (tVar 1) [some (.ref hh), some (.int (n : Int)), some (.ref na), some (.ref ra), none, none, none] H1 (.int (n : Int))) (rv_ixT (T.hDEEDS H1) hD)) H1 (Ex.refl H1) Q' q'
    · have hA1 := hA.ex e1
      refine ⟨f, spD T cf, rfl, ⟨n, cf, hf, hcf, rfl⟩, ?_⟩
      have args : EvA (tCons (tVar 0) (tCons (tVar 2) (tCons (tVar 3) tNil))) [some (.ref hh), some (.int (n : Int)), some (.ref na), some (.ref ra), some (.ref f), none, none] H1 [.ref hh, .ref na, .ref ra] := ea_cons (ev_var rfl) (ea_cons (ev_var rfl) (ea_cons (ev_var rfl) ea_nil))
      refine args H1 (Ex.refl H1) _ fun H2 e2 => ?_
      have e02 := e1.trans e2
      refine ⟨hh, na, ra, ns, row, st, X, c, rfl, hA.ex e02, hS, off_ex e02 _ _ hN, off_ex e02 _ _ hR, hrl, hc, fun hv H' p X' o hf hz zk hH hs hpz hp => ?_, fun hv H' d e hd hx => ?_⟩
      · refine s_ret (ev_var rfl) fun H3 e3 => k H3 p X' ((off_ex e02).trans (o.trans (off_ex e3))) (fun a ha => (hf a ha).imp id (ex_none e02)) hz ((Zk.of e02).trans (zk.trans (Zk.of e3))) (hH.ex e3) hs hpz (e3 _ _ hp)
      · refine ⟨true, T.Refused.ex, fun _ a ha => ?_, fun q => Bool.noConfusion q⟩
        have hng := neg43 st c hv
        have h1 : (Si43.step st c).1 = st := by rw [hng]
        have h2 : (Si43.step st c).2.l = [] := by rw [hng]
        refine s_retL (el_lst (ea_cons (ev_xf (n := (Si43.step st c).2.v) (ev_var rfl) hx) ea_nil) (by show 1 ≤ 100000; decide)) fun p H3 n3 e3 h3 => k H3 p X (off_ex (e02.trans (e.trans e3))) (fun a ha => Or.inl ha) rfl (Zk.of (e02.trans (e.trans e3))) ?_ ?_ ((Zk.of (e02.trans e)).nz hA.zsm n3) ?_
        · rw [h1]
          exact hA.ex (e02.trans (e.trans e3))
        · rw [h1]
          exact hS
        · rw [h3, h2]
          rfl
end
end Pf

end
section
/-! The calls as the program reads them: the plain law. -/
set_option Elab.async false
set_option linter.all false
set_option maxRecDepth 100000
namespace Pf
def nN : List Nat := [0, 1, 3, 3, 4, 1, 0, 0, 0, 1, 1, 0, 0, 3, 0, 0, 2, 0, 0]
def wR (n : Nat) : Bool := [0, 2, 12, 14].any fun x => x == n
def cst' (l : List Nat) : List Int := l.map fun (n : Nat) => (n : Int)
theorem shape_inv {p : Int} {x : Nat × Nat} (h : PySi43.shape p = some x) : ∃ n : Nat, n < 19 ∧ p = (n : Int) ∧ nN[n]? = some x.1 ∧ x.2 = if wR n = true then 1 else 0 := by
  unfold PySi43.shape at h
  by_cases h0 : p = 0
  · rw [if_pos h0] at h
    cases h
    exact ⟨0, by decide, h0, by decide, by decide⟩
  rw [if_neg h0] at h
  by_cases h1 : p = 1
  · rw [if_pos h1] at h
    cases h
    exact ⟨1, by decide, h1, by decide, by decide⟩
  rw [if_neg h1] at h
  by_cases h2 : p = 2
  · rw [if_pos h2] at h
    cases h
    exact ⟨2, by decide, h2, by decide, by decide⟩
  rw [if_neg h2] at h
  by_cases h3 : p = 3
  · rw [if_pos h3] at h
    cases h
    exact ⟨3, by decide, h3, by decide, by decide⟩
  rw [if_neg h3] at h
  by_cases h4 : p = 4
  · rw [if_pos h4] at h
    cases h
    exact ⟨4, by decide, h4, by decide, by decide⟩
  rw [if_neg h4] at h
  by_cases h5 : p = 5
  · rw [if_pos h5] at h
    cases h
    exact ⟨5, by decide, h5, by decide, by decide⟩
  rw [if_neg h5] at h
  by_cases h6 : p = 6
  · rw [if_pos h6] at h
    cases h
    exact ⟨6, by decide, h6, by decide, by decide⟩
  rw [if_neg h6] at h
  by_cases h7 : p = 7
  · rw [if_pos h7] at h
    cases h
    exact ⟨7, by decide, h7, by decide, by decide⟩
  rw [if_neg h7] at h
  by_cases h8 : p = 8
  · rw [if_pos h8] at h
    cases h
    exact ⟨8, by decide, h8, by decide, by decide⟩
  rw [if_neg h8] at h
  by_cases h9 : p = 9
  · rw [if_pos h9] at h
    cases h
    exact ⟨9, by decide, h9, by decide, by decide⟩
  rw [if_neg h9] at h
  by_cases h10 : p = 10
  · rw [if_pos h10] at h
    cases h
    exact ⟨10, by decide, h10, by decide, by decide⟩
  rw [if_neg h10] at h
  by_cases h11 : p = 11
  · rw [if_pos h11] at h
    cases h
    exact ⟨11, by decide, h11, by decide, by decide⟩
  rw [if_neg h11] at h
  by_cases h12 : p = 12
  · rw [if_pos h12] at h
    cases h
    exact ⟨12, by decide, h12, by decide, by decide⟩
  rw [if_neg h12] at h
  by_cases h13 : p = 13
  · rw [if_pos h13] at h
    cases h
    exact ⟨13, by decide, h13, by decide, by decide⟩
  rw [if_neg h13] at h
  by_cases h14 : p = 14
  · rw [if_pos h14] at h
    cases h
    exact ⟨14, by decide, h14, by decide, by decide⟩
  rw [if_neg h14] at h
  by_cases h15 : p = 15
  · rw [if_pos h15] at h
    cases h
    exact ⟨15, by decide, h15, by decide, by decide⟩
  rw [if_neg h15] at h
  by_cases h16 : p = 16
  · rw [if_pos h16] at h
    cases h
    exact ⟨16, by decide, h16, by decide, by decide⟩
  rw [if_neg h16] at h
  by_cases h17 : p = 17
  · rw [if_pos h17] at h
    cases h
    exact ⟨17, by decide, h17, by decide, by decide⟩
  rw [if_neg h17] at h
  by_cases h18 : p = 18
  · rw [if_pos h18] at h
    cases h
    exact ⟨18, by decide, h18, by decide, by decide⟩
  rw [if_neg h18] at h
  cases h
/-- one call, its numbers and its row -/
theorem call_inv {r t : List Int} {c : List (List Int)} (h : PyFlat.call PySi43.shape r = some (c, t)) : ∃ (n : Nat) (xs ys : List Int), n < 19 ∧ nN[n]? = some xs.length ∧
    ((wR n = true ∧ c = [(n : Int) :: xs, ys] ∧ r = (n : Int) :: xs ++ (ys.length : Int) :: ys ++ t) ∨ (wR n = false ∧ ys = [] ∧ c = [(n : Int) :: xs] ∧ r = (n : Int) :: xs ++ t)) := by
  cases r with
  | nil => cases h
  | cons p r =>
    simp only [PyFlat.call] at h
    cases hs : PySi43.shape p with
    | none => rw [hs] at h; cases h
    | some x =>
      rw [hs] at h
      obtain ⟨n, hn, rfl, h1, h2⟩ := shape_inv hs
      obtain ⟨k0, k1⟩ := x
      dsimp only at h h1 h2
      split at h
      · cases h
      · rename_i hlen
        have hl : (r.take k0).length = k0 := by rw [List.length_take]; omega
        cases hw : wR n with
        | false =>
          rw [hw] at h2
          simp only [Bool.false_eq_true, if_false] at h2
          subst h2
          simp only [PyFlat.rows] at h
          injection h with h
          injection h with e1 e2
          refine ⟨n, r.take k0, [], hn, by rw [hl]; exact h1, Or.inr ⟨hw, rfl, e1.symm, ?_⟩⟩
          rw [← e2, List.cons_append, List.take_append_drop]
        | true =>
          rw [hw] at h2
          simp only [if_true] at h2
          subst h2
          simp only [PyFlat.rows] at h
          cases hd : r.drop k0 with
          | nil => rw [hd] at h; simp [PyFlat.row] at h
          | cons m r' =>
            rw [hd] at h
            simp only [PyFlat.row] at h
            by_cases hm : 0 ≤ m ∧ m.toNat ≤ r'.length
            · rw [if_pos hm] at h
              dsimp only at h
              injection h with h
              injection h with e1 e2
              refine ⟨n, r.take k0, r'.take m.toNat, hn, by rw [hl]; exact h1, Or.inl ⟨hw, e1.symm, ?_⟩⟩
              have hyl : ((r'.take m.toNat).length : Int) = m := by
                rw [List.length_take, Nat.min_eq_left hm.2]
                omega
              rw [hyl, ← e2]
              have : r = r.take k0 ++ r.drop k0 := (List.take_append_drop _ _).symm
              conv => lhs; rw [this, hd]
              simp [List.take_append_drop]
            · rw [if_neg hm] at h
              cases h
/-- whole: the row without its length -/
theorem whole_inv {n : Nat} {xs ys : List Int} (hn : n < 19) (hl : nN[n]? = some xs.length) : (wR n = true → PySi43.whole [(n : Int) :: xs, ys] = [(n : Int) :: xs ++ ys]) ∧ (wR n = false → PySi43.whole [(n : Int) :: xs] = [(n : Int) :: xs]) := by
  match n, hn, hl with
  | 0, _, hl => match xs, hl with
    | [], _ => exact ⟨fun _ => rfl, fun h => (by cases h)⟩
  | 1, _, hl => match xs, hl with
    | [a], _ => exact ⟨fun h => (by cases h), fun _ => rfl⟩
  | 2, _, hl => match xs, hl with
    | [a, b, c], _ => exact ⟨fun _ => rfl, fun h => (by cases h)⟩
  | 3, _, hl => match xs, hl with
    | [a, b, c], _ => exact ⟨fun h => (by cases h), fun _ => rfl⟩
  | 4, _, hl => match xs, hl with
    | [a, b, c, d], _ => exact ⟨fun h => (by cases h), fun _ => rfl⟩
  | 5, _, hl => match xs, hl with
    | [a], _ => exact ⟨fun h => (by cases h), fun _ => rfl⟩
  | 6, _, hl => match xs, hl with
    | [], _ => exact ⟨fun h => (by cases h), fun _ => rfl⟩
  | 7, _, hl => match xs, hl with
    | [], _ => exact ⟨fun h => (by cases h), fun _ => rfl⟩
  | 8, _, hl => match xs, hl with
    | [], _ => exact ⟨fun h => (by cases h), fun _ => rfl⟩
  | 9, _, hl => match xs, hl with
    | [a], _ => exact ⟨fun h => (by cases h), fun _ => rfl⟩
  | 10, _, hl => match xs, hl with
    | [a], _ => exact ⟨fun h => (by cases h), fun _ => rfl⟩
  | 11, _, hl => match xs, hl with
    | [], _ => exact ⟨fun h => (by cases h), fun _ => rfl⟩
  | 12, _, hl => match xs, hl with
    | [], _ => exact ⟨fun _ => rfl, fun h => (by cases h)⟩
  | 13, _, hl => match xs, hl with
    | [a, b, c], _ => exact ⟨fun h => (by cases h), fun _ => rfl⟩
  | 14, _, hl => match xs, hl with
    | [], _ => exact ⟨fun _ => rfl, fun h => (by cases h)⟩
  | 15, _, hl => match xs, hl with
    | [], _ => exact ⟨fun h => (by cases h), fun _ => rfl⟩
  | 16, _, hl => match xs, hl with
    | [a, b], _ => exact ⟨fun h => (by cases h), fun _ => rfl⟩
  | 17, _, hl => match xs, hl with
    | [], _ => exact ⟨fun h => (by cases h), fun _ => rfl⟩
  | 18, _, hl => match xs, hl with
    | [], _ => exact ⟨fun h => (by cases h), fun _ => rfl⟩
theorem back_nat (l : List Nat) : (cst' l).map Int.toNat = l := by
  unfold cst'
  rw [List.map_map]
  conv => rhs; rw [← List.map_id l]
  apply List.map_congr_left
  intro x _
  simp
theorem if_some {α : Type} {c : Prop} [Decidable c] {x : α} (h : (if c then some x else none).isSome = true) : c := by
  by_cases q : c
  · exact q
  · rw [if_neg q] at h; cases h
/-- what is called -/
theorem callOf_inv {n : Nat} {ns row : List Nat} (hn : n < 19) (hl : nN[n]? = some ns.length) (hw : wR n = false → row = []) (h : (Si43Neutral.callOf (cst' (n :: ns ++ row))).isSome = true) :
    ∃ cf q, cL[n]? = some cf ∧ cf ns row = some q ∧ Si43Neutral.callOf (cst' (n :: ns ++ row)) = some q ∧ row.length ≤ 200 := by
  unfold Si43Neutral.callOf at h ⊢
  rw [back_nat] at h ⊢
  match n, hn, hl with
  | 0, _, hl => match ns, hl with
    | [], _ =>
      have this : row.length ≤ 120 := if_some h
      exact ⟨_, _, rfl, rfl, if_pos this, by omega⟩
  | 1, _, hl => match ns, hl with
    | [a], _ => have := hw rfl; subst this; exact ⟨_, _, rfl, rfl, rfl, by simp⟩
  | 2, _, hl => match ns, hl with
    | [a, b, c], _ =>
      have this : row.length ≤ 40 := if_some h
      exact ⟨_, _, rfl, rfl, if_pos this, by omega⟩
  | 3, _, hl => match ns, hl with
    | [a, b, c], _ => have := hw rfl; subst this; exact ⟨_, _, rfl, rfl, rfl, by simp⟩
  | 4, _, hl => match ns, hl with
    | [a, b, c, d], _ => have := hw rfl; subst this; exact ⟨_, _, rfl, rfl, rfl, by simp⟩
  | 5, _, hl => match ns, hl with
    | [a], _ => have := hw rfl; subst this; exact ⟨_, _, rfl, rfl, rfl, by simp⟩
  | 6, _, hl => match ns, hl with
    | [], _ => have := hw rfl; subst this; exact ⟨_, _, rfl, rfl, rfl, by simp⟩
  | 7, _, hl => match ns, hl with
    | [], _ => have := hw rfl; subst this; exact ⟨_, _, rfl, rfl, rfl, by simp⟩
  | 8, _, hl => match ns, hl with
    | [], _ => have := hw rfl; subst this; exact ⟨_, _, rfl, rfl, rfl, by simp⟩
  | 9, _, hl => match ns, hl with
    | [a], _ => have := hw rfl; subst this; exact ⟨_, _, rfl, rfl, rfl, by simp⟩
  | 10, _, hl => match ns, hl with
    | [a], _ => have := hw rfl; subst this; exact ⟨_, _, rfl, rfl, rfl, by simp⟩
  | 11, _, hl => match ns, hl with
    | [], _ => have := hw rfl; subst this; exact ⟨_, _, rfl, rfl, rfl, by simp⟩
  | 12, _, hl => match ns, hl with
    | [], _ =>
      have this : (row.length ≤ 40 ∧ Si43Neutral.unlikeAll row = true) := if_some h
      exact ⟨_, _, rfl, if_pos this.1, if_pos this, by omega⟩
  | 13, _, hl => match ns, hl with
    | [a, b, c], _ => have := hw rfl; subst this; exact ⟨_, _, rfl, rfl, rfl, by simp⟩
  | 14, _, hl => match ns, hl with
    | [], _ =>
      have this : row.length ≤ 140 := if_some h
      exact ⟨_, _, rfl, rfl, if_pos this, by omega⟩
  | 15, _, hl => match ns, hl with
    | [], _ => have := hw rfl; subst this; exact ⟨_, _, rfl, rfl, rfl, by simp⟩
  | 16, _, hl => match ns, hl with
    | [a, b], _ => have := hw rfl; subst this; exact ⟨_, _, rfl, rfl, rfl, by simp⟩
  | 17, _, hl => match ns, hl with
    | [], _ => have := hw rfl; subst this; exact ⟨_, _, rfl, rfl, rfl, by simp⟩
  | 18, _, hl => match ns, hl with
    | [], _ => have := hw rfl; subst this; exact ⟨_, _, rfl, rfl, rfl, by simp⟩
theorem nat_cast {l : List Int} (h : ∀ x ∈ l, 0 ≤ x) : ∃ ns : List Nat, l = cst' ns := by
  refine ⟨l.map Int.toNat, ?_⟩
  unfold cst'
  rw [List.map_map]
  conv => lhs; rw [← List.map_id l]
  apply List.map_congr_left
  intro x hx
  have := h x hx
  show x = ((x.toNat : Nat) : Int)
  omega
/-- one call as the program reads it -/
theorem one_call {r t : List Int} {c : List (List Int)} (h : PyFlat.call PySi43.shape r = some (c, t)) (ha : Si43Neutral.asked1 (PySi43.whole c) = true) : ∃ (n : Nat) (ns row : List Nat) (cf : List Nat → List Nat → Option Si43.Call) (q : Si43.Call), n < 19 ∧ nN[n]? = some ns.length ∧ row.length ≤ 200 ∧ cL[n]? = some cf ∧ cf ns row = some q ∧
    ((wR n = true ∧ r = cst' (n :: ns ++ row.length :: row) ++ t) ∨ (wR n = false ∧ row = [] ∧ r = cst' (n :: ns) ++ t)) ∧ ∀ s, Si43Neutral.step s (PySi43.whole c) = ((Si43.step s q).1, (Si43.step s q).2.v :: (Si43.step s q).2.l) := by
  obtain ⟨n, xs, ys, hn, hl, hor⟩ := call_inv h
  have hwh := whole_inv (ys := ys) hn hl
  have hw2 : PySi43.whole c = [(n : Int) :: xs ++ ys] := by
    rcases hor with ⟨w, rfl, _⟩ | ⟨w, rfl, rfl, _⟩
    · exact hwh.1 w
    · rw [hwh.2 w]
      simp
  rw [hw2] at ha ⊢
  unfold Si43Neutral.asked1 at ha
  simp only [List.headD_cons, Bool.and_eq_true] at ha
  obtain ⟨_, hnat, hcall⟩ := ha
  have hpos : ∀ x ∈ xs ++ ys, 0 ≤ x := fun x hx => by
    have := List.all_eq_true.mp hnat x (by rw [List.cons_append]; exact List.mem_cons_of_mem _ hx)
    unfold Si43Neutral.natural at this
    rw [Bool.and_eq_true, decide_eq_true_eq] at this
    exact this.1
  obtain ⟨ns, rfl⟩ := nat_cast (l := xs) fun x hx => hpos x (List.mem_append_left _ hx)
  obtain ⟨row, rfl⟩ := nat_cast (l := ys) fun x hx => hpos x (List.mem_append_right _ hx)
  have el : (cst' ns).length = ns.length := by simp [cst']
  have er : (cst' row).length = row.length := by simp [cst']
  have ec : (n : Int) :: cst' ns ++ cst' row = cst' (n :: ns ++ row) := by simp [cst']
  rw [el] at hl
  rw [ec] at hcall ⊢
  have hw0 : wR n = false → row = [] := fun w => by
    rcases hor with ⟨w', _⟩ | ⟨_, hy, _⟩
    · rw [w] at w'; cases w'
    · cases row with
      | nil => rfl
      | cons a b => simp [cst'] at hy
  obtain ⟨cf, q, h1, h2, h3, h4⟩ := callOf_inv hn hl hw0 hcall
  refine ⟨n, ns, row, cf, q, hn, hl, h4, h1, h2, ?_, fun s => ?_⟩
  · rcases hor with ⟨w, _, hr⟩ | ⟨w, hy, _, hr⟩
    · refine Or.inl ⟨w, ?_⟩
      rw [hr, er]
      simp [cst']
    · refine Or.inr ⟨w, hw0 w, ?_⟩
      rw [hr]
      simp [cst']
  · unfold Si43Neutral.step
    simp only [List.headD_cons]
    rw [h3]
end Pf

end
section
set_option Elab.async false
set_option linter.all false
set_option maxRecDepth 100000
set_option maxHeartbeats 4000000
/-! All calls answered. -/
namespace Pf
open PySem PySem.Spec PyProof.Rows L2 Evl
theorem calls_cons {f : Nat} {r : List Int} {c : List (List Int)} {cs : List (List (List Int))} (h : PyFlat.calls PySi43.shape f r = some (c :: cs)) : ∃ t f', PyFlat.call PySi43.shape r = some (c, t) ∧ PyFlat.calls PySi43.shape f' t = some cs := by
  cases r with
  | nil => cases f <;> simp [PyFlat.calls] at h
  | cons p r =>
    cases f with
    | zero => simp [PyFlat.calls] at h
    | succ f =>
      simp only [PyFlat.calls] at h
      cases hc : PyFlat.call PySi43.shape (p :: r) with
      | none => rw [hc] at h; cases h
      | some x =>
        obtain ⟨c', t⟩ := x
        rw [hc] at h
        dsimp only at h
        cases ht : PyFlat.calls PySi43.shape f t with
        | none => rw [ht] at h; cases h
        | some cs' =>
          rw [ht] at h
          cases h
          exact ⟨t, f, rfl, ht⟩
theorem calls_nil {f : Nat} {r : List Int} (h : PyFlat.calls PySi43.shape f r = some []) : r = [] := by
  cases r with
  | nil => rfl
  | cons p r =>
    cases f with
    | zero => simp [PyFlat.calls] at h
    | succ f =>
      simp only [PyFlat.calls] at h
      cases hc : PyFlat.call PySi43.shape (p :: r) with
      | none => rw [hc] at h; cases h
      | some x =>
        obtain ⟨c', t⟩ := x
        rw [hc] at h
        dsimp only at h
        cases ht : PyFlat.calls PySi43.shape f t with
        | none => rw [ht] at h; cases h
        | some cs' => rw [ht] at h; cases h
section
variable {K : PySem.W.Frag} {σ : L2.St} {H : Hp} {te ta tb : TE} {D : Ends} {tz : TS} {xs ys : List V} {v : V}
/-- xs.append(e), a long row -/
theorem q_appB {l : Addr} (hl : H l = some (.lst xs)) (ha : Ev ta σ H (.ref l)) (h : Ev te σ H v) (hz : xs.length ≤ 10000000) (k : ∀ H1, Ex H H1 → tz D σ (upd H1 l (.lst (xs ++ [v])))) :
    tSeq (tDrop (tBM K "list" rAppend ta (tCons te tNil))) tz D σ H := ha H (Ex.refl H) _ fun H1 e1 =>
  ⟨Or.inl ⟨rfl, xs, sq_of (e1 l _ hl)⟩, h H1 e1 _ fun H2 e2 => ⟨l, xs, v, rfl, rfl, (e1.trans e2) l _ hl, by rw [sizeLine_eq]; omega, k H2 (e1.trans e2)⟩⟩
theorem q_extVB {l p : Addr} (hl : H l = some (.lst xs)) (ha : Ev ta σ H (.ref l)) (h : Ev te σ H (.ref p)) (hp : H p = some (.lst ys)) (hz : xs.length + ys.length ≤ 10000001) (k : ∀ H1, Ex H H1 → tz D σ (upd H1 l (.lst (xs ++ ys)))) :
    tSeq (tDrop (tBM K "list" rExtend ta (tCons te tNil))) tz D σ H := ha H (Ex.refl H) _ fun H1 e1 =>
  ⟨Or.inl ⟨rfl, xs, sq_of (e1 l _ hl)⟩, h H1 e1 _ fun H2 e2 => ⟨l, p, xs, ys, rfl, rfl, e2 l _ (e1 l _ hl), e2 _ _ (e1 _ _ hp), by rw [sizeLine_eq]; omega, k H2 (e1.trans e2)⟩⟩
end
section
variable {P : Program} {w : World} {K : PySem.W.Frag} {mg : Str → Option Value} {base : Heap}
def iV (l : List Int) : List V := l.map V.int
def sp_answers (T : Tp K mg) : Sp := fun vs H Q _ => ∃ (a : Addr) (l : List Int), vs = [.ref a] ∧ SqL K H a (iV l) ∧ PySi43.answers_asked l = true ∧ ∀ H' p, Ex H H' → H' p = some (.lst (iV (PySi43.answers l))) → Q (.ref p) H'
theorem sq_at {σ : L2.St} {H : Hp} {ta tb : TE} {p : Addr} {l : List Int} {n : Nat} {v : Int} (ha : Ev ta σ H (.ref p)) (hb : Ev tb σ H (.int (n : Int))) (hp : SqL K H p (iV l)) (hv : l[n]? = some v) : Ev (tOp (rIxL K) ta tb) σ H (.int v) :=
  ev_at ha hb hp (by unfold iV; rw [List.getElem?_map, hv]; rfl)
theorem cut_iV (l : List Int) (i j : Nat) (h : i ≤ j) (hj : j ≤ l.length) : cutV (iV l) (some (i : Int)) (some (j : Int)) = iV ((l.drop i).take (j - i)) := by
  rw [cutV_mid _ _ _ h (by unfold iV; rw [List.length_map]; exact hj)]
  unfold iV
  rw [List.map_take, List.map_drop]
theorem iV_nl (l : List Nat) : iV (cst' l) = nl l := by
  unfold iV cst' nl
  rw [List.map_map]
  rfl
theorem drop_at {l : List Int} {a : Nat} {xs t : List Int} (h : l.drop a = xs ++ t) : l.drop (a + xs.length) = t ∧ (l.drop a).take xs.length = xs ∧ a + xs.length ≤ l.length ∨ xs = [] := by
  by_cases c : xs = []
  · exact Or.inr c
  · refine Or.inl ⟨by rw [← List.drop_drop, h, List.drop_left], by rw [h, List.take_left], ?_⟩
    have h1 := congrArg List.length h
    rw [List.length_drop, List.length_append] at h1
    have : 0 < xs.length := List.length_pos_iff.mpr c
    omega
theorem at_of {l : List Int} {a : Nat} {xs : List Int} (h : l.drop a = xs) (i : Nat) : l[a + i]? = xs[i]? := by
  rw [← h, List.getElem?_drop]
section
variable {T : Tp K mg} {H H2 : Hp} {h fd : Addr} {s : Si43.St} {X : HX} {xs : List V}
theorem HolderAt.addZ (a : HolderAt T H h s X) (hz : X.zs = []) (e : Ex H H2) (hn : H fd = none) (hl : H2 fd = some (.lst xs)) : HolderAt T H2 h s { X with zs := [fd] } := by
  have fdn : fd ∉ X.F h := fun z => by
    obtain ⟨o, ho⟩ := a.sm fd z
    rw [hn] at ho
    cases ho
  obtain ⟨fa, ta, wa, ma, ga, ca, sa, as, ats, gs, zs, P, own, G⟩ := X
  cases hz
  have eF : ∀ b, b ∉ HX.F ⟨fa, ta, wa, ma, ga, ca, sa, as, ats, gs, [], P, own, G⟩ h → b ≠ fd → b ∉ HX.F ⟨fa, ta, wa, ma, ga, ca, sa, as, ats, gs, [fd], P, own, G⟩ h := fun b h1 h2 => by
    unfold HX.F at h1 ⊢
    simp at h1 ⊢
    exact ⟨h1.1, h1.2.1, h1.2.2.1, h1.2.2.2, h2⟩
  have o : Ex (Off (HX.F ⟨fa, ta, wa, ma, ga, ca, sa, as, ats, gs, [], P, own, G⟩ h) H) (Off (HX.F ⟨fa, ta, wa, ma, ga, ca, sa, as, ats, gs, [fd], P, own, G⟩ h) H2) := fun b ob hb => by
    obtain ⟨c, hb⟩ := off_some hb
    rw [off_out (eF b c (fun z => by rw [z, hn] at hb; cases hb))]
    exact e _ _ hb
  refine ⟨?_, a.hol.ex e, o _ _ a.first, o _ _ a.text, a.words.mono fun _ _ k => k.ex o, e _ _ a.wts, a.mks.ex e o, o _ _ a.gon, a.gons.mono fun _ _ k => k.ex o, a.set.ex o, a.cost.ex o, a.eqG, a.byG, fun b hb => ?_⟩
  · have nd := a.nd
    unfold HX.F at nd fdn ⊢
    simp only [List.append_nil] at nd fdn
    have : h :: wa :: ma :: (as ++ [fd]) = (h :: wa :: ma :: as) ++ [fd] := rfl
    show (h :: wa :: ma :: (as ++ [fd])).Nodup
    rw [this, List.nodup_append]
    refine ⟨nd, by simp, fun x hx y hy => ?_⟩
    have : y = fd := by simpa using hy
    rw [this]
    exact fun z => fdn (z ▸ hx)
  · have : b = fd := by simpa using hb
    rw [this]
    exact ⟨xs, hl⟩
theorem HolderAt.updZ (a : HolderAt T H h s X) (hb : fd ∈ X.zs) : HolderAt T (upd H fd (.lst xs)) h s X := by
  obtain ⟨z1, z2, z3, z4, _⟩ := a.hZ
  have kk : Keep fd H (upd H fd (.lst xs)) := Keep.step Keep.refl (Ex.refl _)
  have eo : Off (X.F h) (upd H fd (.lst xs)) = Off (X.F h) H := off_upd (X.zF h hb)
  have o : Ex (Off (X.F h) H) (Off (X.F h) (upd H fd (.lst xs))) := by rw [eo]; exact Ex.refl _
  have ne : ∀ {b : Addr}, b ∉ X.zs → b ≠ fd := fun h z => h (z ▸ hb)
  refine ⟨a.nd, a.hol.keep kk (ne z1), o _ _ a.first, o _ _ a.text, a.words.mono fun _ _ k => k.ex o, kk _ _ a.wts (ne z2), a.mks.keep kk (ne z3) (fun z => z4 fd z hb) o, o _ _ a.gon, a.gons.mono fun _ _ k => k.ex o, a.set.ex o, a.cost.ex o, a.eqG, a.byG, fun b hbz => ?_⟩
  by_cases c : b = fd
  · exact ⟨xs, by rw [c, upd_same]⟩
  · obtain ⟨l, hl⟩ := a.zsm b hbz
    exact ⟨l, by rw [upd_ne c]; exact hl⟩
end
-- slots: calls 0, holder 1, found 2, at 3, number 4, behind 5, numbers 6, row 7, told 8
theorem ok_answers (T : Tp K mg) : FnOk P w K mg base CX0 9 T.answers.f T.answers.fd P_answers (sp_answers T) := by
  refine T.answers.F.ok sc_answers (fun vs H Q E h => ?_) (fun cdv A outer s H vs Q E hr h => ⟨_, (pss_cons (ps_set (i := 1) sc_answers.nd rfl (.inl rfl) (pe_make0 T.Holder.mkd (ok_Holder_init T) (hr.mono (by decide)) rfl T.Holder.g T.Holder.b .nil pass0))
    (pss_cons (ps_set (i := 2) sc_answers.nd rfl (.inl rfl) (pe_lst pa_nil))
    (pss_cons (ps_set (i := 3) sc_answers.nd rfl (.inl rfl) pe_int)
    (pss_cons (ps_while PassesOwn.never (pt_cmpR op_lt (pv 3) (pe_callB call_len_seq rfl T.nlen PySem.boot_len (pa_cons (pv 0) pa_nil)) (nomark _)) (pss_cons (ps_set (i := 4) sc_answers.nd rfl (.inl rfl) (pe_ix ix_list (pv 0) (pv 3) (fun _ _ => rfl)))
    (pss_cons (ps_set (i := 5) sc_answers.nd rfl (.inl rfl) (pe_op op_add (pe_op op_add (pv 3) pe_int) (pe_ix ix_tup (pe_glob (v := .ref T.aNUMBERS) rfl T.gNUMBERS rfl) (pv 4) (fun _ _ => rfl))))
    (pss_cons (ps_set (i := 6) sc_answers.nd rfl (.inl rfl) (pe_slice sl_list (pv 0) (po_some (pe_op op_add (pv 3) pe_int)) (po_some (pv 5))))
    (pss_cons (ps_set (i := 7) sc_answers.nd rfl (.inl rfl) (pe_lst pa_nil))
    (pss_cons (ps_if (pt_cmpR op_in_seq (pv 4) (pe_glob (v := .ref T.aWITH_ROW) rfl T.gWITH_ROW rfl) (by rfl)) (pss_cons (ps_set (i := 7) sc_answers.nd rfl (.inl rfl) (pe_slice sl_list (pv 0) (po_some (pe_op op_add (pv 5) pe_int)) (po_some (pe_op op_add (pe_op op_add (pv 5) pe_int) (pe_ix ix_list (pv 0) (pv 5) (fun _ _ => rfl))))))
    (pss_one (ps_set (i := 5) sc_answers.nd rfl (.inl rfl) (pe_op op_add (pe_op op_add (pv 5) pe_int) (pe_ix ix_list (pv 0) (pv 5) (fun _ _ => rfl)))))) pss_nil)
    (pss_cons (ps_set (i := 8) sc_answers.nd rfl (.inl rfl) (pe_call (ok_answer T) (hr.mono (by decide)) rfl T.answer.g T.answer.F.kp T.answer.b .nil pass0 (pa_cons (pv 1) (pa_cons (pv 4) (pa_cons (pv 6) (pa_cons (pv 7) pa_nil))))))
    (pss_cons (ps_expr (pe_bm PySem.F.plainAttrs_list PySem.F.slot_list_append PySem.F.type_list_append mt_append (pv 2) (pa_cons (pe_callB call_len_seq rfl T.nlen PySem.boot_len (pa_cons (pv 8) pa_nil)) pa_nil)))
    (pss_cons (ps_expr (pe_bm PySem.F.plainAttrs_list PySem.F.slot_list_extend PySem.F.type_list_extend mt_extend (pv 2) (pa_cons (pv 8) pa_nil)))
    (pss_one (ps_set (i := 3) sc_answers.nd rfl (.inl rfl) (pv 5))))))))))))
    (pss_one (ps_ret (pv 2))))))), ?_⟩)
  · obtain ⟨a, l, rfl, _⟩ := h
    rfl
  · obtain ⟨ca, l, rfl, hL, hask, k⟩ := h
    -- what is asked
    have hraw : ∃ raw, PyFlat.calls PySi43.shape l.length l = some raw ∧ (∀ c ∈ raw, Si43Neutral.asked1 (PySi43.whole c) = true) ∧ (PySi43.answers l).length ≤ 10000000 ∧ PySi43.answers l = PyFlat.told (PyFlat.played Si43Neutral.step Si43.init (raw.map PySi43.whole)) := by
      unfold PySi43.answers_asked at hask
      cases hc : PyFlat.calls PySi43.shape l.length l with
      | none => rw [hc] at hask; cases hask
      | some raw =>
        rw [hc] at hask
        simp only [Bool.and_eq_true] at hask
        obtain ⟨⟨_, h1⟩, h2⟩ := hask
        refine ⟨raw, rfl, fun c hcm => ?_, by unfold PyFlat.short at h2; exact of_decide_eq_true h2, ?_⟩
        · unfold Si43Neutral.asked at h1
          rw [Bool.and_eq_true] at h1
          exact List.all_eq_true.mp h1.1 _ (List.mem_map_of_mem hcm)
        · unfold PySi43.answers PySi43.calls
          rw [hc]
          rfl
    obtain ⟨raw, hcalls, hall, hlen, hans⟩ := hraw
    have mk : EvR (tMake T.Holder.C (sp_Holder_init T) [] E0 tNil) [some (.ref ca), none, none, none, none, none, none, none, none] H (fun p H2 => ∃ X, HolderAt T H2 p Si43.init X ∧ X.zs = [] ∧ X.P = [] ∧ X.own = 0 ∧ ∀ a ∈ X.F p, H a = none) := fun H1 e1 Q' q' => by
      intro px dx hpx hdx hne
      refine ⟨px, dx, rfl, upd_same, fun H3 X keep hA hZ hP ho hF => ⟨rfl, ?_⟩⟩
      refine q' px H3 hpx (Same.made hpx hdx keep) ⟨X, hA, hZ, hP, ho, fun a ha => ?_⟩
      rcases hF a ha with rfl | hn
      · exact ex_none e1 hpx
      · by_cases c : a = px
        · rw [c]; exact ex_none e1 hpx
        · rw [upd_ne c] at hn
          by_cases c2 : a = dx
          · rw [c2, upd_same] at hn; cases hn
          · rw [upd_ne c2] at hn
            exact ex_none e1 hn
    refine q_asgR mk fun hh H1 n1 e1 h1 => ?_
    obtain ⟨X0, hA0, hZ0, hP0, ho0, hF0⟩ := h1
    refine q_asgL (el_lst ea_nil (by decide)) fun fd H2 n2 e2 h2 => ?_
    refine q_asg ev_c fun H3 e3 => ?_
    have e03 := e1.trans (e2.trans e3)
    have fdH : H fd = none := ex_none e1 n2
    have fdN0 : fd ∉ X0.F hh := fun z => by
      obtain ⟨o, ho⟩ := hA0.sm fd z
      rw [n2] at ho
      cases ho
    -- the row of answers is not the holder's
    have hAZ := hA0.addZ hZ0 e2 n2 h2
    generalize hX1 : ({ X0 with zs := [fd] } : HX) = X1 at hAZ
    have hZ1 : X1.zs = [fd] := by rw [← hX1]
    have hP1 : X1.P = [] := by rw [← hX1]; exact hP0
    have ho1 : X1.own = 0 := by rw [← hX1]; exact ho0
    have hF1 : ∀ b ∈ X1.F hh, H b = none := fun b hb => by
      have hb' : b ∈ hh :: X0.wa :: X0.ma :: (X0.as ++ [fd]) := by rw [← hX1] at hb; exact hb
      have : b ∈ X0.F hh ∨ b = fd := by
        unfold HX.F
        rw [hZ0, List.append_nil]
        simp at hb' ⊢
        rcases hb' with h | h | h | h | h <;> simp [h]
      rcases this with h | h
      · exact hF0 b h
      · rw [h]; exact fdH
    have hS0 : Sok Si43.init X1.P X1.own := by rw [hP1, ho1]; exact sok_init
    refine q_while (fun m σ' H' => Ex H H' ∧ ∃ (a f : Nat) (cs : List (List (List Int))) (s : Si43.St) (X : HX) (fl : List Int) (u1 u2 u3 u4 u5 : Option V), m = l.length - a ∧ a ≤ l.length ∧ σ' = [some (.ref ca), some (.ref hh), some (.ref fd), some (.int (a : Int)), u1, u2, u3, u4, u5] ∧
      PyFlat.calls PySi43.shape f (l.drop a) = some cs ∧ (∀ c ∈ cs, Si43Neutral.asked1 (PySi43.whole c) = true) ∧ PySi43.answers l = fl ++ PyFlat.told (PyFlat.played Si43Neutral.step s (cs.map PySi43.whole)) ∧
      H' fd = some (.lst (iV fl)) ∧ X.zs = [fd] ∧ HolderAt T H' hh s X ∧ Sok s X.P X.own ∧ ∀ b ∈ X.F hh, H b = none) l.length ?h0 ?hs
    case h0 =>
      exact ⟨e03, 0, l.length, raw, Si43.init, X1, [], _, _, _, _, _, rfl, Nat.zero_le _, rfl, hcalls, hall, hans, e3 _ _ h2, hZ1, hAZ.ex e3, hS0, hF1⟩
    case hs =>
      rintro m σ' H' ⟨p1, a, f, cs, s, X, fl, u1, u2, u3, u4, u5, rfl, hal, rfl, hcs, hask1, hans1, hfd, hXZ, hA, hS, hF⟩
      have hL' := ex_l p1 hL
      have lenE : ∀ {H2 : Hp} {σ : L2.St} {te : TE}, Ex H H2 → Ev te σ H2 (.ref ca) → Ev (tCB (rLenS K) (tCons te tNil)) σ H2 (.int (l.length : Int)) := fun e h => ev_is (ev_len h (ex_l e hL)) (by unfold iV; rw [List.length_map])
      refine ⟨decide (a < l.length), et_lt (ev_var rfl) (lenE p1 (ev_var rfl)), fun hb H4 e4 => ?_, fun hb H4 e4 => ?_⟩
      · have hb := of_decide_eq_true hb
        cases cs with
        | nil =>
          have := congrArg List.length (calls_nil hcs)
          rw [List.length_drop] at this
          simp at this
          omega
        | cons c cs =>
        obtain ⟨t, f', hc1, hc2⟩ := calls_cons hcs
        obtain ⟨n, ns, row, cf, q, hn, hnl, hrow, hcf, hq, hor, hst⟩ := one_call hc1 (hask1 c (by simp))
        have hst := hst s
        have hans2 : PySi43.answers l = fl ++ (((((Si43.step s q).2.v :: (Si43.step s q).2.l).length : Nat) : Int) :: ((Si43.step s q).2.v :: (Si43.step s q).2.l)) ++ PyFlat.told (PyFlat.played Si43Neutral.step (Si43.step s q).1 (cs.map PySi43.whole)) := by
          rw [hans1, List.map_cons, PyFlat.played, hst]
          simp [PyFlat.told]
        have hlen2 : fl.length + 1 + ((Si43.step s q).2.v :: (Si43.step s q).2.l).length ≤ 10000000 := by
          have := congrArg List.length hans2
          rw [List.length_append, List.length_append, List.length_cons] at this
          omega
        -- the piece
        have hpc : ∃ xs : List Nat, l.drop a = cst' xs ++ t ∧ xs.length = (if wR n = true then 2 + ns.length + row.length else 1 + ns.length) ∧ xs = (if wR n = true then n :: ns ++ row.length :: row else n :: ns) := by
          rcases hor with ⟨w1, w2⟩ | ⟨w1, _, w2⟩
          · exact ⟨_, w2, by rw [w1]; simp; omega, by rw [w1]; rfl⟩
          · exact ⟨_, w2, by rw [w1]; simp; omega, by rw [w1]; rfl⟩
        obtain ⟨xs, hxd, hxl, hxe⟩ := hpc
        generalize ha2 : a + xs.length = a2
        have hcl : (cst' xs).length = xs.length := by simp [cst']
        have h2le : a2 ≤ l.length := by
          have h1 := congrArg List.length hxd
          rw [List.length_drop, List.length_append, hcl] at h1
          omega
        have hdt : l.drop a2 = t := by rw [← ha2, ← List.drop_drop, hxd, ← hcl, List.drop_left]
        have lat : ∀ (i v : Nat), xs[i]? = some v → l[a + i]? = some (v : Int) := fun i v hv => by
          rw [at_of hxd, List.getElem?_append_left (by rw [hcl]; exact (List.getElem?_eq_some_iff.mp hv).1)]
          unfold cst'
          rw [List.getElem?_map, hv]
          rfl
        have lcut : ∀ i d, i + d ≤ xs.length → (l.drop (a + i)).take d = cst' ((xs.drop i).take d) := fun i d h => by
          rw [← List.drop_drop, hxd, List.drop_append_of_le_length (by rw [hcl]; omega), List.take_append_of_le_length (by rw [List.length_drop, hcl]; omega)]
          unfold cst'
          rw [List.map_take, List.map_drop]
        have hpos : 1 ≤ xs.length := by rw [hxl]; split <;> omega
        have p14 := p1.trans e4
        have hA4 := hA.ex e4
        have N : ∀ (H7 : Hp) (na ra : Addr), Ex H' H7 → H' na = none → H' ra = none → H7 na = some (.lst (nl ns)) → H7 ra = some (.lst (nl row)) → ∀ D : Ends, (∀ H2 X' u1 u2 u3 u4 u5, Ex H H2 → H2 fd = some (.lst (iV (fl ++ (((((Si43.step s q).2.v :: (Si43.step s q).2.l).length : Nat) : Int) :: ((Si43.step s q).2.v :: (Si43.step s q).2.l))))) → X'.zs = [fd] → HolderAt T H2 hh (Si43.step s q).1 X' → Sok (Si43.step s q).1 X'.P X'.own → (∀ b ∈ X'.F hh, H b = none) → D.nx [some (.ref ca), some (.ref hh), some (.ref fd), some (.int (a2 : Int)), u1, u2, u3, u4, u5] H2) →
            tSeq (tAsg (tCall (sp_answer T) [] E0 (tCons (tVar 1) (tCons (tVar 4) (tCons (tVar 6) (tCons (tVar 7) tNil))))) (gName 8)) (tSeq (tDrop (tBM K "list" rAppend (tVar 2) (tCons (tCB (rLenS K) (tCons (tVar 8) tNil)) tNil))) (tSeq (tDrop (tBM K "list" rExtend (tVar 2) (tCons (tVar 8) tNil))) (tAsg (tVar 5) (gName 3)))) D
              [some (.ref ca), some (.ref hh), some (.ref fd), some (.int (a : Int)), some (.int (n : Int)), some (.int (a2 : Int)), some (.ref na), some (.ref ra), u5] H7 := by
          intro H7 na ra e7 hnn hrn hna hra D hD
          have hA7 := hA.ex e7
          refine q_asgCall (ea_cons (ev_var rfl) (ea_cons (ev_var rfl) (ea_cons (ev_var rfl) (ea_cons (ev_var rfl) ea_nil)))) fun H8 e8 => ?_
          have e78 := e7.trans e8
          refine ⟨hh, n, na, ra, ns, row, s, X, cf, q, rfl, hA.ex e78, hS, hA.offN hnn (e8 _ _ hna), hA.offN hrn (e8 _ _ hra), hrow, hcf, hq, fun H9 pv X' o9 hF9 hZ9 zk9 hA9 hS9 hpz9 hp9 => ?_⟩
          have fdz : fd ∈ X.zs := by rw [hXZ]; simp
          have fd8 : H8 fd = some (.lst (iV fl)) := e78 _ _ hfd
          have fd9 : H9 fd = some (.lst (iV fl)) := zk9 fd fdz _ fd8
          rw [hXZ] at hZ9
          have fdz' : fd ∈ X'.zs := by rw [hZ9]; simp
          have eH9 : Ex H H9 := fun b ob hb => by
            have c : b ∉ X.F hh := fun z => by rw [hF b z] at hb; cases hb
            exact (off_some (o9 b ob (by rw [off_out c]; exact (p1.trans e78) _ _ hb))).2
          have hFn : ∀ b ∈ X'.F hh, H b = none := fun b hb => by
            rcases hF9 b hb with z | z
            · exact hF b z
            · exact ex_none (p1.trans e78) z
          have flen : (iV fl).length = fl.length := by unfold iV; rw [List.length_map]
          refine q_appB fd9 (ev_var rfl) (ev_is (ev_len (ev_var rfl) (sq_of hp9)) (by rw [List.length_map])) (by rw [flen]; omega) fun HA eA => ?_
          have hAA := (hA9.ex eA).updZ (xs := iV fl ++ [.int ((((Si43.step s q).2.v :: (Si43.step s q).2.l).length : Nat) : Int)]) fdz'
          have eHA : Ex H (upd HA fd (.lst (iV fl ++ [.int ((((Si43.step s q).2.v :: (Si43.step s q).2.l).length : Nat) : Int)]))) := Ex.mut (eH9.trans eA) fdH
          have pvne : pv ≠ fd := fun z => hpz9 (z ▸ fdz)
          have pvA : (upd HA fd (.lst (iV fl ++ [.int ((((Si43.step s q).2.v :: (Si43.step s q).2.l).length : Nat) : Int)]))) pv = some (.lst (((Si43.step s q).2.v :: (Si43.step s q).2.l).map V.int)) := by
            rw [upd_ne pvne]
            exact eA _ _ hp9
          refine q_extVB upd_same (ev_var rfl) (ev_var rfl) pvA (by rw [List.length_append, flen, List.length_map]; simp only [List.length_cons, List.length_nil] at hlen2 ⊢; omega) fun HB eB => ?_
          refine s_asg (ev_var rfl) fun HC eC => ?_
          refine hD HC X' _ _ _ _ _ ((Ex.mut (eHA.trans eB) fdH).trans eC) ?_ hZ9 (((hAA.ex eB).updZ fdz').ex eC) hS9 hFn
          rw [eC _ _ upd_same]
          unfold iV
          simp
        refine ⟨fun σ2 H2 => ∃ (X' : HX) (u1 u2 u3 u4 u5 : Option V), σ2 = [some (.ref ca), some (.ref hh), some (.ref fd), some (.int (a2 : Int)), u1, u2, u3, u4, u5] ∧ Ex H H2 ∧ H2 fd = some (.lst (iV (fl ++ (((((Si43.step s q).2.v :: (Si43.step s q).2.l).length : Nat) : Int) :: ((Si43.step s q).2.v :: (Si43.step s q).2.l))))) ∧ X'.zs = [fd] ∧ HolderAt T H2 hh (Si43.step s q).1 X' ∧ Sok (Si43.step s q).1 X'.P X'.own ∧ (∀ b ∈ X'.F hh, H b = none), ?_, ?_⟩
        · rintro σ2 H2 ⟨X', v1, v2, v3, v4, v5, rfl, q1, q2, q3, q4, q5, q6⟩
          exact ⟨_, by omega, q1, a2, f', cs, _, X', _, v1, v2, v3, v4, v5, rfl, h2le, rfl, by rw [hdt]; exact hc2, fun c' hc' => hask1 c' (List.mem_cons_of_mem _ hc'), hans2, q2, q3, q4, q5, q6⟩
        · have nAt : ∀ {H2 : Hp} {σ : L2.St} {te : TE}, Ev te σ H2 (.int (n : Int)) → Ev (tOp (rIxT K) (tC (.ref T.aNUMBERS)) te) σ H2 (.int (ns.length : Int)) := fun {H2 σ te} h => ev_op ev_c h (rv_ixT (T.hNUMBERS H2) (at_nat (xs := nl nN) (nl_at hnl)))
          have x0 : xs[0]? = some n := by rw [hxe]; split <;> rfl
          have xns : (xs.drop 1).take ns.length = ns := by
            rw [hxe]
            split
            · show ((ns ++ row.length :: row)).take ns.length = ns
              rw [List.take_left]
            · show ns.take ns.length = ns
              rw [List.take_length]
          have h1len : 1 + ns.length ≤ xs.length := by rw [hxl]; split <;> omega
          refine q_asg (sq_at (n := a) (ev_var rfl) (ev_var rfl) (ex_l p14 hL) (by have := lat 0 n x0; rw [Nat.add_zero] at this; exact this)) fun H5 e5 => ?_
          have p15 := p14.trans e5
          refine q_asg (v := .int ((a + 1 + ns.length : Nat) : Int)) (ev_add (ev_plus1 (ev_var rfl)) (nAt (ev_var rfl))) fun H6 e6 => ?_
          have p16 := p15.trans e6
          refine q_asgL (el_sl (ev_var rfl) (eo_some (ev_plus1 (ev_var rfl))) (eo_some (ev_var rfl)) (ex_l p16 hL)) fun na H7 n7 e7 h7 => ?_
          rw [cut_iV l (a + 1) (a + 1 + ns.length) (by omega) (by omega), show a + 1 + ns.length - (a + 1) = ns.length by omega, lcut 1 ns.length h1len, xns, iV_nl] at h7
          have e47 := (e4.trans e5).trans (e6.trans e7)
          have p17 := p16.trans e7
          have nn : H' na = none := ex_none ((e4.trans e5).trans e6) n7
          refine q_asgL (el_lst ea_nil (by decide)) fun ra0 H8 n8 e8 h8 => ?_
          have p18 := p17.trans e8
          have e48 := e47.trans e8
          have inW : ∀ {H2 : Hp} {σ : L2.St} {te : TE}, Ev te σ H2 (.int (n : Int)) → EvT (tTest (tOp (rIn K false) te (tC (.ref T.aWITH_ROW)))) σ H2 (wR n) := fun {H2 σ te} h => et_is' (et_test (ev_op h ev_c (rv_isT (T.hWITH_ROW H2) rfl (by decide)))) (by
            have := in_nums n [0, 2, 12, 14]
            exact this)
          cases hw : wR n with
          | true =>
            rw [hw] at hxl hxe
            simp only [if_true] at hxl hxe
            have xr : xs[1 + ns.length]? = some row.length := by
              rw [hxe, Nat.add_comm]
              show (ns ++ row.length :: row)[ns.length]? = _
              rw [List.getElem?_append_right (Nat.le_refl _), Nat.sub_self]
              rfl
            have xrow : (xs.drop (1 + ns.length + 1)).take row.length = row := by
              rw [hxe, show 1 + ns.length + 1 = (ns.length + 1) + 1 by omega]
              show ((ns ++ row.length :: row).drop (ns.length + 1)).take row.length = row
              rw [← List.drop_drop, List.drop_left]
              show row.take row.length = row
              rw [List.take_length]
            have lr : l[a + 1 + ns.length]? = some (row.length : Int) := by
              have := lat _ _ xr
              rw [← Nat.add_assoc] at this
              exact this
            refine q_when (b := true) (et_is' (inW (ev_var rfl)) hw) (fun _ H9 e9 => ?_) (fun c => by cases c)
            have p19 := p18.trans e9
            have atB : ∀ {H2 : Hp} {σ : L2.St}, Ex H H2 → Ev (tVar 0) σ H2 (.ref ca) → Ev (tVar 5) σ H2 (.int ((a + 1 + ns.length : Nat) : Int)) → Ev (tOp (rIxL K) (tVar 0) (tVar 5)) σ H2 (.int (row.length : Int)) := fun e h1 h2 => sq_at h1 h2 (ex_l e hL) lr
            refine q_asgL (el_sl (ev_var rfl) (eo_some (ev_plus1 (ev_var rfl))) (eo_some (ev_add (ev_plus1 (ev_var rfl)) (atB p19 (ev_var rfl) (ev_var rfl)))) (ex_l p19 hL)) fun ra HA nA eA hA' => ?_
            rw [cut_iV l (a + 1 + ns.length + 1) (a + 1 + ns.length + 1 + row.length) (by omega) (by omega), show a + 1 + ns.length + 1 + row.length - (a + 1 + ns.length + 1) = row.length by omega, show a + 1 + ns.length + 1 = a + (1 + ns.length + 1) by omega, lcut (1 + ns.length + 1) row.length (by omega), xrow, iV_nl] at hA'
            have p1A := p19.trans eA
            have e4A := (e48.trans e9).trans eA
            refine s_asg (v := .int (a2 : Int)) (ev_is (ev_add (ev_plus1 (ev_var rfl)) (atB p1A (ev_var rfl) (ev_var rfl))) (by
              congr 1
              have : a + 1 + ns.length + 1 + row.length = a2 := by omega
              rw [this])) fun HB eB => ?_
            exact N HB na ra (e4A.trans eB) nn (ex_none (e48.trans e9) nA) (((e8.trans e9).trans (eA.trans eB)) _ _ h7) (eB _ _ hA') _ fun H2 X' v1 v2 v3 v4 v5 q1 q2 q3 q4 q5 q6 => ⟨X', v1, v2, v3, v4, v5, rfl, q1, q2, q3, q4, q5, q6⟩
          | false =>
            rw [hw] at hxl hxe
            simp only [Bool.false_eq_true, if_false] at hxl hxe
            have hr0 : row = [] := by
              rcases hor with ⟨w1, _⟩ | ⟨_, h, _⟩
              · rw [hw] at w1; cases w1
              · exact h
            refine q_when (b := false) (et_is' (inW (ev_var rfl)) hw) (fun c => by cases c) (fun _ H9 e9 => ?_)
            have ea2 : a + 1 + ns.length = a2 := by omega
            rw [ea2]
            exact N H9 na ra0 (e48.trans e9) nn (ex_none e47 n8) ((e8.trans e9) _ _ h7) (by rw [hr0]; exact e9 _ _ h8) _ fun H2 X' v1 v2 v3 v4 v5 q1 q2 q3 q4 q5 q6 => ⟨X', v1, v2, v3, v4, v5, rfl, q1, q2, q3, q4, q5, q6⟩
      · have hb := of_decide_eq_false hb
        have hd : l.drop a = [] := List.drop_eq_nil_of_le (by omega)
        rw [hd] at hcs
        have hcs0 : cs = [] := by
          cases f <;> (simp [PyFlat.calls] at hcs; exact hcs)
        subst hcs0
        have hfl : PySi43.answers l = fl := by
          rw [hans1]
          simp [PyFlat.told, PyFlat.played]
        refine s_ret (ev_var rfl) fun H5 e5 => k H5 fd (p1.trans (e4.trans e5)) ?_
        rw [hfl]
        exact (e4.trans e5) _ _ hfd
end
end Pf

end
section
set_option Elab.async false
set_option linter.all false
set_option maxRecDepth 100000
set_option maxHeartbeats 8000000
/-! What is laid of the program, as the head finds it. Printed by gen/all.py. -/
namespace Pf
open PySem PySem.Spec PyProof.Rows L2 Evl
def spAns (K : PySem.W.Frag) : Sp := fun vs H Q _ => ∃ (a : Addr) (l : List Int), vs = [.ref a] ∧ SqL K H a (iV l) ∧ PySi43.answers_asked l = true ∧ ∀ H' p, Ex H H' → H' p = some (.lst (iV (PySi43.answers l))) → Q (.ref p) H'
theorem find_veinit {K : PySem.W.Frag} : PySem.W.findCls K (.type "ValueError") (.type "type") "__init__" = some (.val (.builtin "ValueError.__init__")) := by kernel_rfl
/-- an error of the class is what «except» of it names -/
theorem exm_own {K : PySem.W.Frag} {C : Addr} (h1 : PySem.W.subIn K (.ref C) (.type "BaseException") = some true) (h2 : PySem.W.isClsIn K C = true) (h3 : PySem.W.typeIn K (.ref C) = some (.type "type")) (h4 : PySem.W.subIn K (.ref C) (.ref C) = some true) : PySem.W.exmOne K (.ref C) (.ref C) = some true := by
  have x2 : (PySem.W.clsIn K C).isSome = true := h2
  show (if (PySem.W.subIn K (.ref C) (.type "BaseException") == some true) = true then (if ((PySem.W.clsIn K C).isSome && PySem.W.typeIn K (.ref C) == some (.type "type")) = true then PySem.W.subIn K (.ref C) (.ref C) else none) else none) = some true
  rw [h1, h3, h4, x2]
  rfl
theorem all_mk {P : Program} {w : World} {K : PySem.W.Frag} {h : Heap} {mg : Str → Option Value} {fa : Addr} (X : K.In h) (G : h.Ns mainGlobals mg) (hfa : mg "answers" = some (.ref fa))
    {CWord : Addr}
    {f0 : Addr} {od0 an0 : Option Addr} {sl0 : Array (Option Value)} {oc0 kV0 dc0 pm0 cd0 ct0 : Value}
    {CMark : Addr}
    {f1 : Addr} {od1 an1 : Option Addr} {sl1 : Array (Option Value)} {oc1 kV1 dc1 pm1 cd1 ct1 : Value}
    {CChoice : Addr}
    {f2 : Addr} {od2 an2 : Option Addr} {sl2 : Array (Option Value)} {oc2 kV2 dc2 pm2 cd2 ct2 : Value}
    {CCarried : Addr}
    {f3 : Addr} {od3 an3 : Option Addr} {sl3 : Array (Option Value)} {oc3 kV3 dc3 pm3 cd3 ct3 : Value}
    {CCosts : Addr}
    {f4 : Addr} {od4 an4 : Option Addr} {sl4 : Array (Option Value)} {oc4 kV4 dc4 pm4 cd4 ct4 : Value}
    {CPlace : Addr}
    {f5 : Addr} {od5 an5 : Option Addr} {sl5 : Array (Option Value)} {oc5 kV5 dc5 pm5 cd5 ct5 : Value}
    {CSlots : Addr}
    {f6 : Addr} {od6 an6 : Option Addr} {sl6 : Array (Option Value)} {oc6 kV6 dc6 pm6 cd6 ct6 : Value}
    {CHolder : Addr}
    {f7 : Addr} {od7 an7 : Option Addr} {sl7 : Array (Option Value)} {oc7 kV7 dc7 pm7 cd7 ct7 : Value}
    {CR N0 : Addr} {nm0 q0 : Str} {bs0 sub0 : List Value} {sn0 : List Str} {ab0 : Bool} {col0 : Option Bool} {dd0 : Option Addr} {m0 m1 m2 m3 m5 : Option Value}
    {f8 : Addr} {od8 an8 : Option Addr} {sl8 : Array (Option Value)} {oc8 kV8 dc8 pm8 cd8 ct8 : Value}
    {f9 : Addr} {od9 an9 : Option Addr} {sl9 : Array (Option Value)} {oc9 kV9 dc9 pm9 cd9 ct9 : Value}
    {f10 : Addr} {od10 an10 : Option Addr} {sl10 : Array (Option Value)} {oc10 kV10 dc10 pm10 cd10 ct10 : Value}
    {f11 : Addr} {od11 an11 : Option Addr} {sl11 : Array (Option Value)} {oc11 kV11 dc11 pm11 cd11 ct11 : Value}
    {f12 : Addr} {od12 an12 : Option Addr} {sl12 : Array (Option Value)} {oc12 kV12 dc12 pm12 cd12 ct12 : Value}
    {f13 : Addr} {od13 an13 : Option Addr} {sl13 : Array (Option Value)} {oc13 kV13 dc13 pm13 cd13 ct13 : Value}
    {f14 : Addr} {od14 an14 : Option Addr} {sl14 : Array (Option Value)} {oc14 kV14 dc14 pm14 cd14 ct14 : Value}
    {f15 : Addr} {od15 an15 : Option Addr} {sl15 : Array (Option Value)} {oc15 kV15 dc15 pm15 cd15 ct15 : Value}
    {f16 : Addr} {od16 an16 : Option Addr} {sl16 : Array (Option Value)} {oc16 kV16 dc16 pm16 cd16 ct16 : Value}
    {f17 : Addr} {od17 an17 : Option Addr} {sl17 : Array (Option Value)} {oc17 kV17 dc17 pm17 cd17 ct17 : Value}
    {f18 : Addr} {od18 an18 : Option Addr} {sl18 : Array (Option Value)} {oc18 kV18 dc18 pm18 cd18 ct18 : Value}
    {f19 : Addr} {od19 an19 : Option Addr} {sl19 : Array (Option Value)} {oc19 kV19 dc19 pm19 cd19 ct19 : Value}
    {f20 : Addr} {od20 an20 : Option Addr} {sl20 : Array (Option Value)} {oc20 kV20 dc20 pm20 cd20 ct20 : Value}
    {f21 : Addr} {od21 an21 : Option Addr} {sl21 : Array (Option Value)} {oc21 kV21 dc21 pm21 cd21 ct21 : Value}
    {f22 : Addr} {od22 an22 : Option Addr} {sl22 : Array (Option Value)} {oc22 kV22 dc22 pm22 cd22 ct22 : Value}
    {f23 : Addr} {od23 an23 : Option Addr} {sl23 : Array (Option Value)} {oc23 kV23 dc23 pm23 cd23 ct23 : Value}
    {f24 : Addr} {od24 an24 : Option Addr} {sl24 : Array (Option Value)} {oc24 kV24 dc24 pm24 cd24 ct24 : Value}
    {f25 : Addr} {od25 an25 : Option Addr} {sl25 : Array (Option Value)} {oc25 kV25 dc25 pm25 cd25 ct25 : Value}
    {f26 : Addr} {od26 an26 : Option Addr} {sl26 : Array (Option Value)} {oc26 kV26 dc26 pm26 cd26 ct26 : Value}
    {f27 : Addr} {od27 an27 : Option Addr} {sl27 : Array (Option Value)} {oc27 kV27 dc27 pm27 cd27 ct27 : Value}
    {f28 : Addr} {od28 an28 : Option Addr} {sl28 : Array (Option Value)} {oc28 kV28 dc28 pm28 cd28 ct28 : Value}
    {f29 : Addr} {od29 an29 : Option Addr} {sl29 : Array (Option Value)} {oc29 kV29 dc29 pm29 cd29 ct29 : Value}
    {f30 : Addr} {od30 an30 : Option Addr} {sl30 : Array (Option Value)} {oc30 kV30 dc30 pm30 cd30 ct30 : Value}
    {f31 : Addr} {od31 an31 : Option Addr} {sl31 : Array (Option Value)} {oc31 kV31 dc31 pm31 cd31 ct31 : Value}
    {f32 : Addr} {od32 an32 : Option Addr} {sl32 : Array (Option Value)} {oc32 kV32 dc32 pm32 cd32 ct32 : Value}
    {f33 : Addr} {od33 an33 : Option Addr} {sl33 : Array (Option Value)} {oc33 kV33 dc33 pm33 cd33 ct33 : Value}
    {f34 : Addr} {od34 an34 : Option Addr} {sl34 : Array (Option Value)} {oc34 kV34 dc34 pm34 cd34 ct34 : Value}
    {f35 : Addr} {od35 an35 : Option Addr} {sl35 : Array (Option Value)} {oc35 kV35 dc35 pm35 cd35 ct35 : Value}
    {f36 : Addr} {od36 an36 : Option Addr} {sl36 : Array (Option Value)} {oc36 kV36 dc36 pm36 cd36 ct36 : Value}
    {f37 : Addr} {od37 an37 : Option Addr} {sl37 : Array (Option Value)} {oc37 kV37 dc37 pm37 cd37 ct37 : Value}
    {f38 : Addr} {od38 an38 : Option Addr} {sl38 : Array (Option Value)} {oc38 kV38 dc38 pm38 cd38 ct38 : Value}
    {f39 : Addr} {od39 an39 : Option Addr} {sl39 : Array (Option Value)} {oc39 kV39 dc39 pm39 cd39 ct39 : Value}
    {f40 : Addr} {od40 an40 : Option Addr} {sl40 : Array (Option Value)} {oc40 kV40 dc40 pm40 cd40 ct40 : Value}
    {f41 : Addr} {od41 an41 : Option Addr} {sl41 : Array (Option Value)} {oc41 kV41 dc41 pm41 cd41 ct41 : Value}
    {f42 : Addr} {od42 an42 : Option Addr} {sl42 : Array (Option Value)} {oc42 kV42 dc42 pm42 cd42 ct42 : Value}
    {f43 : Addr} {od43 an43 : Option Addr} {sl43 : Array (Option Value)} {oc43 kV43 dc43 pm43 cd43 ct43 : Value}
    {f44 : Addr} {od44 an44 : Option Addr} {sl44 : Array (Option Value)} {oc44 kV44 dc44 pm44 cd44 ct44 : Value}
    {f45 : Addr} {od45 an45 : Option Addr} {sl45 : Array (Option Value)} {oc45 kV45 dc45 pm45 cd45 ct45 : Value}
    {f46 : Addr} {od46 an46 : Option Addr} {sl46 : Array (Option Value)} {oc46 kV46 dc46 pm46 cd46 ct46 : Value}
    {f47 : Addr} {od47 an47 : Option Addr} {sl47 : Array (Option Value)} {oc47 kV47 dc47 pm47 cd47 ct47 : Value}
    {f48 : Addr} {od48 an48 : Option Addr} {sl48 : Array (Option Value)} {oc48 kV48 dc48 pm48 cd48 ct48 : Value}
    {f49 : Addr} {od49 an49 : Option Addr} {sl49 : Array (Option Value)} {oc49 kV49 dc49 pm49 cd49 ct49 : Value}
    {f50 : Addr} {od50 an50 : Option Addr} {sl50 : Array (Option Value)} {oc50 kV50 dc50 pm50 cd50 ct50 : Value}
    {f51 : Addr} {od51 an51 : Option Addr} {sl51 : Array (Option Value)} {oc51 kV51 dc51 pm51 cd51 ct51 : Value}
    {f52 : Addr} {od52 an52 : Option Addr} {sl52 : Array (Option Value)} {oc52 kV52 dc52 pm52 cd52 ct52 : Value}
    {f53 : Addr} {od53 an53 : Option Addr} {sl53 : Array (Option Value)} {oc53 kV53 dc53 pm53 cd53 ct53 : Value}
    {f54 : Addr} {od54 an54 : Option Addr} {sl54 : Array (Option Value)} {oc54 kV54 dc54 pm54 cd54 ct54 : Value}
    {f55 : Addr} {od55 an55 : Option Addr} {sl55 : Array (Option Value)} {oc55 kV55 dc55 pm55 cd55 ct55 : Value}
    {f56 : Addr} {od56 an56 : Option Addr} {sl56 : Array (Option Value)} {oc56 kV56 dc56 pm56 cd56 ct56 : Value}
    {f57 : Addr} {od57 an57 : Option Addr} {sl57 : Array (Option Value)} {oc57 kV57 dc57 pm57 cd57 ct57 : Value}
    {tCHANGE : Tok}
    {tKEEP : Tok}
    {tMOVE : Tok}
    {tOPEN : Tok}
    {tDONE : Tok}
    {tLOST : Tok}
    {tWITHDRAWN : Tok}
    {tMOST_WORD : Tok}
    {tMOST_TEXT : Tok}
    {tMOST_SETTING : Tok}
    {tMOST_PUT : Tok}
    {tMOST_READERS : Tok}
    {tMOST_WEIGHT : Tok}
    {tMOST_OPEN : Tok}
    {tMOST_MARKS : Tok}
    {tMOST_COST : Tok}
    {DWITH_ROW : Addr} {odWITH_ROW : Option Addr} {slWITH_ROW : Array (Option Value)} {vsWITH_ROW : Array Value} {nWITH_ROW : Nat}
    {DNUMBERS : Addr} {odNUMBERS : Option Addr} {slNUMBERS : Array (Option Value)} {vsNUMBERS : Array Value} {nNUMBERS : Nat}
    {DDEEDS : Addr} {odDEEDS : Option Addr} {slDEEDS : Array (Option Value)} {vsDEEDS : Array Value} {nDEEDS : Nat}
    (aWord : PySem.W.nsIn K mainGlobals "Word" = some (some (.ref CWord)))
    (iWord : PySem.W.findIn K (.ref CWord) "__init__" = some (some (.ref f0)))
    (l0 : K.lookup f0 = some ⟨oc0, od0, .func (PySem.W.fnOf "__init__" "Word.__init__" (defArgs s_Word_init) (defBody s_Word_init) (defScope s_Word_init) .none kV0 dc0 pm0 an0 cd0 ct0), sl0⟩)
    (c0 : PySem.W.codeIn K cd0 "Word.__init__" = true)
    (k0 : PySem.W.keepIn K (.ref f0) = true)
    (jWord : PySem.W.isFn K (.ref f0) = true)
    (pgWord : PySem.W.plainGet K CWord Str.empty = true)
    (hdWord : PySem.W.hasDictIn K CWord = true)
    (poWord : PySem.W.plainOver K CWord = true)
    (saWord : PySem.W.findIn K (.ref CWord) "__setattr__" = some (some (.builtin "object.__setattr__")))
    (mkWord : PySem.W.makesIn K CWord = true)
    (kcWord : PySem.W.keepIn K (.ref CWord) = true)
    (nWord_value : PySem.W.findIn K (.ref CWord) "value" = some none)
    (nWord_own : PySem.W.findIn K (.ref CWord) "own" = some none)
    (nWord_first : PySem.W.findIn K (.ref CWord) "first" = some none)
    (nWord_mark : PySem.W.findIn K (.ref CWord) "mark" = some none)
    (aMark : PySem.W.nsIn K mainGlobals "Mark" = some (some (.ref CMark)))
    (iMark : PySem.W.findIn K (.ref CMark) "__init__" = some (some (.ref f1)))
    (l1 : K.lookup f1 = some ⟨oc1, od1, .func (PySem.W.fnOf "__init__" "Mark.__init__" (defArgs s_Mark_init) (defBody s_Mark_init) (defScope s_Mark_init) .none kV1 dc1 pm1 an1 cd1 ct1), sl1⟩)
    (c1 : PySem.W.codeIn K cd1 "Mark.__init__" = true)
    (k1 : PySem.W.keepIn K (.ref f1) = true)
    (jMark : PySem.W.isFn K (.ref f1) = true)
    (pgMark : PySem.W.plainGet K CMark Str.empty = true)
    (hdMark : PySem.W.hasDictIn K CMark = true)
    (poMark : PySem.W.plainOver K CMark = true)
    (saMark : PySem.W.findIn K (.ref CMark) "__setattr__" = some (some (.builtin "object.__setattr__")))
    (mkMark : PySem.W.makesIn K CMark = true)
    (kcMark : PySem.W.keepIn K (.ref CMark) = true)
    (nMark_kind : PySem.W.findIn K (.ref CMark) "kind" = some none)
    (nMark_reader : PySem.W.findIn K (.ref CMark) "reader" = some none)
    (nMark_i : PySem.W.findIn K (.ref CMark) "i" = some none)
    (nMark_j : PySem.W.findIn K (.ref CMark) "j" = some none)
    (nMark_k : PySem.W.findIn K (.ref CMark) "k" = some none)
    (nMark_words : PySem.W.findIn K (.ref CMark) "words" = some none)
    (nMark_state : PySem.W.findIn K (.ref CMark) "state" = some none)
    (nMark_proof : PySem.W.findIn K (.ref CMark) "proof" = some none)
    (aChoice : PySem.W.nsIn K mainGlobals "Choice" = some (some (.ref CChoice)))
    (iChoice : PySem.W.findIn K (.ref CChoice) "__init__" = some (some (.ref f2)))
    (l2 : K.lookup f2 = some ⟨oc2, od2, .func (PySem.W.fnOf "__init__" "Choice.__init__" (defArgs s_Choice_init) (defBody s_Choice_init) (defScope s_Choice_init) .none kV2 dc2 pm2 an2 cd2 ct2), sl2⟩)
    (c2 : PySem.W.codeIn K cd2 "Choice.__init__" = true)
    (k2 : PySem.W.keepIn K (.ref f2) = true)
    (jChoice : PySem.W.isFn K (.ref f2) = true)
    (pgChoice : PySem.W.plainGet K CChoice Str.empty = true)
    (hdChoice : PySem.W.hasDictIn K CChoice = true)
    (poChoice : PySem.W.plainOver K CChoice = true)
    (saChoice : PySem.W.findIn K (.ref CChoice) "__setattr__" = some (some (.builtin "object.__setattr__")))
    (mkChoice : PySem.W.makesIn K CChoice = true)
    (kcChoice : PySem.W.keepIn K (.ref CChoice) = true)
    (nChoice_numbers : PySem.W.findIn K (.ref CChoice) "numbers" = some none)
    (nChoice_weight : PySem.W.findIn K (.ref CChoice) "weight" = some none)
    (aCarried : PySem.W.nsIn K mainGlobals "Carried" = some (some (.ref CCarried)))
    (iCarried : PySem.W.findIn K (.ref CCarried) "__init__" = some (some (.ref f3)))
    (l3 : K.lookup f3 = some ⟨oc3, od3, .func (PySem.W.fnOf "__init__" "Carried.__init__" (defArgs s_Carried_init) (defBody s_Carried_init) (defScope s_Carried_init) .none kV3 dc3 pm3 an3 cd3 ct3), sl3⟩)
    (c3 : PySem.W.codeIn K cd3 "Carried.__init__" = true)
    (k3 : PySem.W.keepIn K (.ref f3) = true)
    (jCarried : PySem.W.isFn K (.ref f3) = true)
    (pgCarried : PySem.W.plainGet K CCarried Str.empty = true)
    (hdCarried : PySem.W.hasDictIn K CCarried = true)
    (poCarried : PySem.W.plainOver K CCarried = true)
    (saCarried : PySem.W.findIn K (.ref CCarried) "__setattr__" = some (some (.builtin "object.__setattr__")))
    (mkCarried : PySem.W.makesIn K CCarried = true)
    (kcCarried : PySem.W.keepIn K (.ref CCarried) = true)
    (nCarried_words : PySem.W.findIn K (.ref CCarried) "words" = some none)
    (nCarried_gaps : PySem.W.findIn K (.ref CCarried) "gaps" = some none)
    (nCarried_taken : PySem.W.findIn K (.ref CCarried) "taken" = some none)
    (aCosts : PySem.W.nsIn K mainGlobals "Costs" = some (some (.ref CCosts)))
    (iCosts : PySem.W.findIn K (.ref CCosts) "__init__" = some (some (.ref f4)))
    (l4 : K.lookup f4 = some ⟨oc4, od4, .func (PySem.W.fnOf "__init__" "Costs.__init__" (defArgs s_Costs_init) (defBody s_Costs_init) (defScope s_Costs_init) .none kV4 dc4 pm4 an4 cd4 ct4), sl4⟩)
    (c4 : PySem.W.codeIn K cd4 "Costs.__init__" = true)
    (k4 : PySem.W.keepIn K (.ref f4) = true)
    (jCosts : PySem.W.isFn K (.ref f4) = true)
    (pgCosts : PySem.W.plainGet K CCosts Str.empty = true)
    (hdCosts : PySem.W.hasDictIn K CCosts = true)
    (poCosts : PySem.W.plainOver K CCosts = true)
    (saCosts : PySem.W.findIn K (.ref CCosts) "__setattr__" = some (some (.builtin "object.__setattr__")))
    (mkCosts : PySem.W.makesIn K CCosts = true)
    (kcCosts : PySem.W.keepIn K (.ref CCosts) = true)
    (nCosts_other : PySem.W.findIn K (.ref CCosts) "other" = some none)
    (nCosts_out : PySem.W.findIn K (.ref CCosts) "out" = some none)
    (nCosts_into : PySem.W.findIn K (.ref CCosts) "into" = some none)
    (aPlace : PySem.W.nsIn K mainGlobals "Place" = some (some (.ref CPlace)))
    (iPlace : PySem.W.findIn K (.ref CPlace) "__init__" = some (some (.ref f5)))
    (l5 : K.lookup f5 = some ⟨oc5, od5, .func (PySem.W.fnOf "__init__" "Place.__init__" (defArgs s_Place_init) (defBody s_Place_init) (defScope s_Place_init) .none kV5 dc5 pm5 an5 cd5 ct5), sl5⟩)
    (c5 : PySem.W.codeIn K cd5 "Place.__init__" = true)
    (k5 : PySem.W.keepIn K (.ref f5) = true)
    (jPlace : PySem.W.isFn K (.ref f5) = true)
    (pgPlace : PySem.W.plainGet K CPlace Str.empty = true)
    (hdPlace : PySem.W.hasDictIn K CPlace = true)
    (poPlace : PySem.W.plainOver K CPlace = true)
    (saPlace : PySem.W.findIn K (.ref CPlace) "__setattr__" = some (some (.builtin "object.__setattr__")))
    (mkPlace : PySem.W.makesIn K CPlace = true)
    (kcPlace : PySem.W.keepIn K (.ref CPlace) = true)
    (nPlace_begin : PySem.W.findIn K (.ref CPlace) "begin" = some none)
    (nPlace_end : PySem.W.findIn K (.ref CPlace) "end" = some none)
    (nPlace_first : PySem.W.findIn K (.ref CPlace) "first" = some none)
    (nPlace_last : PySem.W.findIn K (.ref CPlace) "last" = some none)
    (aSlots : PySem.W.nsIn K mainGlobals "Slots" = some (some (.ref CSlots)))
    (iSlots : PySem.W.findIn K (.ref CSlots) "__init__" = some (some (.ref f6)))
    (l6 : K.lookup f6 = some ⟨oc6, od6, .func (PySem.W.fnOf "__init__" "Slots.__init__" (defArgs s_Slots_init) (defBody s_Slots_init) (defScope s_Slots_init) .none kV6 dc6 pm6 an6 cd6 ct6), sl6⟩)
    (c6 : PySem.W.codeIn K cd6 "Slots.__init__" = true)
    (k6 : PySem.W.keepIn K (.ref f6) = true)
    (jSlots : PySem.W.isFn K (.ref f6) = true)
    (pgSlots : PySem.W.plainGet K CSlots Str.empty = true)
    (hdSlots : PySem.W.hasDictIn K CSlots = true)
    (poSlots : PySem.W.plainOver K CSlots = true)
    (saSlots : PySem.W.findIn K (.ref CSlots) "__setattr__" = some (some (.builtin "object.__setattr__")))
    (mkSlots : PySem.W.makesIn K CSlots = true)
    (kcSlots : PySem.W.keepIn K (.ref CSlots) = true)
    (nSlots_counts : PySem.W.findIn K (.ref CSlots) "counts" = some none)
    (nSlots_varied : PySem.W.findIn K (.ref CSlots) "varied" = some none)
    (aHolder : PySem.W.nsIn K mainGlobals "Holder" = some (some (.ref CHolder)))
    (iHolder : PySem.W.findIn K (.ref CHolder) "__init__" = some (some (.ref f7)))
    (l7 : K.lookup f7 = some ⟨oc7, od7, .func (PySem.W.fnOf "__init__" "Holder.__init__" (defArgs s_Holder_init) (defBody s_Holder_init) (defScope s_Holder_init) .none kV7 dc7 pm7 an7 cd7 ct7), sl7⟩)
    (c7 : PySem.W.codeIn K cd7 "Holder.__init__" = true)
    (k7 : PySem.W.keepIn K (.ref f7) = true)
    (jHolder : PySem.W.isFn K (.ref f7) = true)
    (pgHolder : PySem.W.plainGet K CHolder Str.empty = true)
    (hdHolder : PySem.W.hasDictIn K CHolder = true)
    (poHolder : PySem.W.plainOver K CHolder = true)
    (saHolder : PySem.W.findIn K (.ref CHolder) "__setattr__" = some (some (.builtin "object.__setattr__")))
    (mkHolder : PySem.W.makesIn K CHolder = true)
    (kcHolder : PySem.W.keepIn K (.ref CHolder) = true)
    (nHolder_first : PySem.W.findIn K (.ref CHolder) "first" = some none)
    (nHolder_text : PySem.W.findIn K (.ref CHolder) "text" = some none)
    (nHolder_proof : PySem.W.findIn K (.ref CHolder) "proof" = some none)
    (nHolder_weights : PySem.W.findIn K (.ref CHolder) "weights" = some none)
    (nHolder_marks : PySem.W.findIn K (.ref CHolder) "marks" = some none)
    (nHolder_taken : PySem.W.findIn K (.ref CHolder) "taken" = some none)
    (nHolder_setting : PySem.W.findIn K (.ref CHolder) "setting" = some none)
    (nHolder_costs : PySem.W.findIn K (.ref CHolder) "costs" = some none)
    (nHolder_own : PySem.W.findIn K (.ref CHolder) "own" = some none)
    (aR : PySem.W.nsIn K mainGlobals "Refused" = some (some (.ref CR)))
    (xR : K.lookup CR = some (excClassObj nm0 q0 CR N0 bs0 [.type "ValueError", .type "Exception", .type "BaseException", .type "object"] true sn0 sub0 ab0 col0 dd0 m0 m1 m2 m3 m5 "ValueError.__new__"))
    (saR : PySem.W.findIn K (.ref CR) "__setattr__" = some (some (.builtin "object.__setattr__")))
    (gaR : PySem.W.findIn K (.ref CR) "__getattribute__" = some (some (.builtin "BaseException.__getattribute__")))
    (ggR : PySem.W.findIn K (.ref CR) "__getattr__" = some none)
    (nbR : PySem.W.findIn K (.ref CR) "number" = some none)
    (iR : PySem.W.findIn K (.ref CR) "__init__" = some (some (.ref f8)))
    (l8 : K.lookup f8 = some ⟨oc8, od8, .func (PySem.W.fnOf "__init__" "Refused.__init__" (defArgs s_Refused_init) (defBody s_Refused_init) (defScope s_Refused_init) .none kV8 dc8 pm8 an8 cd8 ct8), sl8⟩)
    (c8 : PySem.W.codeIn K cd8 "Refused.__init__" = true)
    (k8 : PySem.W.keepIn K (.ref f8) = true)
    (tR : PySem.W.typeIn K (.ref f8) = some (.type "function"))
    (kR : PySem.W.keepIn K (.ref CR) = true)
    (eR : PySem.W.subIn K (.ref CR) (.type "BaseException") = some true)
    (tyR : PySem.W.typeIn K (.ref CR) = some (.type "type"))
    (hR : PySem.W.hasDictIn K CR = true)
    (icR : PySem.W.isClsIn K CR = true)
    (sR : PySem.W.subIn K (.ref CR) (.ref CR) = some true)
    (a9 : PySem.W.nsIn K mainGlobals "are_same" = some (some (.ref f9)))
    (l9 : K.lookup f9 = some ⟨oc9, od9, .func (PySem.W.fnOf "are_same" "are_same" (defArgs s_are_same) (defBody s_are_same) (defScope s_are_same) .none kV9 dc9 pm9 an9 cd9 ct9), sl9⟩)
    (c9 : PySem.W.codeIn K cd9 "are_same" = true)
    (k9 : PySem.W.keepIn K (.ref f9) = true)
    (a10 : PySem.W.nsIn K mainGlobals "breaks_into" = some (some (.ref f10)))
    (l10 : K.lookup f10 = some ⟨oc10, od10, .func (PySem.W.fnOf "breaks_into" "breaks_into" (defArgs s_breaks_into) (defBody s_breaks_into) (defScope s_breaks_into) .none kV10 dc10 pm10 an10 cd10 ct10), sl10⟩)
    (c10 : PySem.W.codeIn K cd10 "breaks_into" = true)
    (k10 : PySem.W.keepIn K (.ref f10) = true)
    (a11 : PySem.W.nsIn K mainGlobals "gainsay" = some (some (.ref f11)))
    (l11 : K.lookup f11 = some ⟨oc11, od11, .func (PySem.W.fnOf "gainsay" "gainsay" (defArgs s_gainsay) (defBody s_gainsay) (defScope s_gainsay) .none kV11 dc11 pm11 an11 cd11 ct11), sl11⟩)
    (c11 : PySem.W.codeIn K cd11 "gainsay" = true)
    (k11 : PySem.W.keepIn K (.ref f11) = true)
    (a12 : PySem.W.nsIn K mainGlobals "open_marks" = some (some (.ref f12)))
    (l12 : K.lookup f12 = some ⟨oc12, od12, .func (PySem.W.fnOf "open_marks" "open_marks" (defArgs s_open_marks) (defBody s_open_marks) (defScope s_open_marks) .none kV12 dc12 pm12 an12 cd12 ct12), sl12⟩)
    (c12 : PySem.W.codeIn K cd12 "open_marks" = true)
    (k12 : PySem.W.keepIn K (.ref f12) = true)
    (a13 : PySem.W.nsIn K mainGlobals "clashing" = some (some (.ref f13)))
    (l13 : K.lookup f13 = some ⟨oc13, od13, .func (PySem.W.fnOf "clashing" "clashing" (defArgs s_clashing) (defBody s_clashing) (defScope s_clashing) .none kV13 dc13 pm13 an13 cd13 ct13), sl13⟩)
    (c13 : PySem.W.codeIn K cd13 "clashing" = true)
    (k13 : PySem.W.keepIn K (.ref f13) = true)
    (a14 : PySem.W.nsIn K mainGlobals "longer" = some (some (.ref f14)))
    (l14 : K.lookup f14 = some ⟨oc14, od14, .func (PySem.W.fnOf "longer" "longer" (defArgs s_longer) (defBody s_longer) (defScope s_longer) .none kV14 dc14 pm14 an14 cd14 ct14), sl14⟩)
    (c14 : PySem.W.codeIn K cd14 "longer" = true)
    (k14 : PySem.W.keepIn K (.ref f14) = true)
    (a15 : PySem.W.nsIn K mainGlobals "heaviest" = some (some (.ref f15)))
    (l15 : K.lookup f15 = some ⟨oc15, od15, .func (PySem.W.fnOf "heaviest" "heaviest" (defArgs s_heaviest) (defBody s_heaviest) (defScope s_heaviest) .none kV15 dc15 pm15 an15 cd15 ct15), sl15⟩)
    (c15 : PySem.W.codeIn K cd15 "heaviest" = true)
    (k15 : PySem.W.keepIn K (.ref f15) = true)
    (a16 : PySem.W.nsIn K mainGlobals "once" = some (some (.ref f16)))
    (l16 : K.lookup f16 = some ⟨oc16, od16, .func (PySem.W.fnOf "once" "once" (defArgs s_once) (defBody s_once) (defScope s_once) .none kV16 dc16 pm16 an16 cd16 ct16), sl16⟩)
    (c16 : PySem.W.codeIn K cd16 "once" = true)
    (k16 : PySem.W.keepIn K (.ref f16) = true)
    (a17 : PySem.W.nsIn K mainGlobals "takers" = some (some (.ref f17)))
    (l17 : K.lookup f17 = some ⟨oc17, od17, .func (PySem.W.fnOf "takers" "takers" (defArgs s_takers) (defBody s_takers) (defScope s_takers) .none kV17 dc17 pm17 an17 cd17 ct17), sl17⟩)
    (c17 : PySem.W.codeIn K cd17 "takers" = true)
    (k17 : PySem.W.keepIn K (.ref f17) = true)
    (a18 : PySem.W.nsIn K mainGlobals "put_at" = some (some (.ref f18)))
    (l18 : K.lookup f18 = some ⟨oc18, od18, .func (PySem.W.fnOf "put_at" "put_at" (defArgs s_put_at) (defBody s_put_at) (defScope s_put_at) .none kV18 dc18 pm18 an18 cd18 ct18), sl18⟩)
    (c18 : PySem.W.codeIn K cd18 "put_at" = true)
    (k18 : PySem.W.keepIn K (.ref f18) = true)
    (a19 : PySem.W.nsIn K mainGlobals "carried" = some (some (.ref f19)))
    (l19 : K.lookup f19 = some ⟨oc19, od19, .func (PySem.W.fnOf "carried" "carried" (defArgs s_carried) (defBody s_carried) (defScope s_carried) .none kV19 dc19 pm19 an19 cd19 ct19), sl19⟩)
    (c19 : PySem.W.codeIn K cd19 "carried" = true)
    (k19 : PySem.W.keepIn K (.ref f19) = true)
    (a20 : PySem.W.nsIn K mainGlobals "place_of" = some (some (.ref f20)))
    (l20 : K.lookup f20 = some ⟨oc20, od20, .func (PySem.W.fnOf "place_of" "place_of" (defArgs s_place_of) (defBody s_place_of) (defScope s_place_of) .none kV20 dc20 pm20 an20 cd20 ct20), sl20⟩)
    (c20 : PySem.W.codeIn K cd20 "place_of" = true)
    (k20 : PySem.W.keepIn K (.ref f20) = true)
    (a21 : PySem.W.nsIn K mainGlobals "where_now" = some (some (.ref f21)))
    (l21 : K.lookup f21 = some ⟨oc21, od21, .func (PySem.W.fnOf "where_now" "where_now" (defArgs s_where_now) (defBody s_where_now) (defScope s_where_now) .none kV21 dc21 pm21 an21 cd21 ct21), sl21⟩)
    (c21 : PySem.W.codeIn K cd21 "where_now" = true)
    (k21 : PySem.W.keepIn K (.ref f21) = true)
    (a22 : PySem.W.nsIn K mainGlobals "ask_anew" = some (some (.ref f22)))
    (l22 : K.lookup f22 = some ⟨oc22, od22, .func (PySem.W.fnOf "ask_anew" "ask_anew" (defArgs s_ask_anew) (defBody s_ask_anew) (defScope s_ask_anew) .none kV22 dc22 pm22 an22 cd22 ct22), sl22⟩)
    (c22 : PySem.W.codeIn K cd22 "ask_anew" = true)
    (k22 : PySem.W.keepIn K (.ref f22) = true)
    (a23 : PySem.W.nsIn K mainGlobals "settle_marks" = some (some (.ref f23)))
    (l23 : K.lookup f23 = some ⟨oc23, od23, .func (PySem.W.fnOf "settle_marks" "settle_marks" (defArgs s_settle_marks) (defBody s_settle_marks) (defScope s_settle_marks) .none kV23 dc23 pm23 an23 cd23 ct23), sl23⟩)
    (c23 : PySem.W.codeIn K cd23 "settle_marks" = true)
    (k23 : PySem.W.keepIn K (.ref f23) = true)
    (a24 : PySem.W.nsIn K mainGlobals "pair_cost" = some (some (.ref f24)))
    (l24 : K.lookup f24 = some ⟨oc24, od24, .func (PySem.W.fnOf "pair_cost" "pair_cost" (defArgs s_pair_cost) (defBody s_pair_cost) (defScope s_pair_cost) .none kV24 dc24 pm24 an24 cd24 ct24), sl24⟩)
    (c24 : PySem.W.codeIn K cd24 "pair_cost" = true)
    (k24 : PySem.W.keepIn K (.ref f24) = true)
    (a25 : PySem.W.nsIn K mainGlobals "cheapest" = some (some (.ref f25)))
    (l25 : K.lookup f25 = some ⟨oc25, od25, .func (PySem.W.fnOf "cheapest" "cheapest" (defArgs s_cheapest) (defBody s_cheapest) (defScope s_cheapest) .none kV25 dc25 pm25 an25 cd25 ct25), sl25⟩)
    (c25 : PySem.W.codeIn K cd25 "cheapest" = true)
    (k25 : PySem.W.keepIn K (.ref f25) = true)
    (a26 : PySem.W.nsIn K mainGlobals "steps_of" = some (some (.ref f26)))
    (l26 : K.lookup f26 = some ⟨oc26, od26, .func (PySem.W.fnOf "steps_of" "steps_of" (defArgs s_steps_of) (defBody s_steps_of) (defScope s_steps_of) .none kV26 dc26 pm26 an26 cd26 ct26), sl26⟩)
    (c26 : PySem.W.codeIn K cd26 "steps_of" = true)
    (k26 : PySem.W.keepIn K (.ref f26) = true)
    (a27 : PySem.W.nsIn K mainGlobals "is_like" = some (some (.ref f27)))
    (l27 : K.lookup f27 = some ⟨oc27, od27, .func (PySem.W.fnOf "is_like" "is_like" (defArgs s_is_like) (defBody s_is_like) (defScope s_is_like) .none kV27 dc27 pm27 an27 cd27 ct27), sl27⟩)
    (c27 : PySem.W.codeIn K cd27 "is_like" = true)
    (k27 : PySem.W.keepIn K (.ref f27) = true)
    (a28 : PySem.W.nsIn K mainGlobals "slots_of" = some (some (.ref f28)))
    (l28 : K.lookup f28 = some ⟨oc28, od28, .func (PySem.W.fnOf "slots_of" "slots_of" (defArgs s_slots_of) (defBody s_slots_of) (defScope s_slots_of) .none kV28 dc28 pm28 an28 cd28 ct28), sl28⟩)
    (c28 : PySem.W.codeIn K cd28 "slots_of" = true)
    (k28 : PySem.W.keepIn K (.ref f28) = true)
    (a29 : PySem.W.nsIn K mainGlobals "places_of" = some (some (.ref f29)))
    (l29 : K.lookup f29 = some ⟨oc29, od29, .func (PySem.W.fnOf "places_of" "places_of" (defArgs s_places_of) (defBody s_places_of) (defScope s_places_of) .none kV29 dc29 pm29 an29 cd29 ct29), sl29⟩)
    (c29 : PySem.W.codeIn K cd29 "places_of" = true)
    (k29 : PySem.W.keepIn K (.ref f29) = true)
    (a30 : PySem.W.nsIn K mainGlobals "way_cost" = some (some (.ref f30)))
    (l30 : K.lookup f30 = some ⟨oc30, od30, .func (PySem.W.fnOf "way_cost" "way_cost" (defArgs s_way_cost) (defBody s_way_cost) (defScope s_way_cost) .none kV30 dc30 pm30 an30 cd30 ct30), sl30⟩)
    (c30 : PySem.W.codeIn K cd30 "way_cost" = true)
    (k30 : PySem.W.keepIn K (.ref f30) = true)
    (a31 : PySem.W.nsIn K mainGlobals "ask" = some (some (.ref f31)))
    (l31 : K.lookup f31 = some ⟨oc31, od31, .func (PySem.W.fnOf "ask" "ask" (defArgs s_ask) (defBody s_ask) (defScope s_ask) .none kV31 dc31 pm31 an31 cd31 ct31), sl31⟩)
    (c31 : PySem.W.codeIn K cd31 "ask" = true)
    (k31 : PySem.W.keepIn K (.ref f31) = true)
    (a32 : PySem.W.nsIn K mainGlobals "are_words" = some (some (.ref f32)))
    (l32 : K.lookup f32 = some ⟨oc32, od32, .func (PySem.W.fnOf "are_words" "are_words" (defArgs s_are_words) (defBody s_are_words) (defScope s_are_words) .none kV32 dc32 pm32 an32 cd32 ct32), sl32⟩)
    (c32 : PySem.W.codeIn K cd32 "are_words" = true)
    (k32 : PySem.W.keepIn K (.ref f32) = true)
    (a33 : PySem.W.nsIn K mainGlobals "told" = some (some (.ref f33)))
    (l33 : K.lookup f33 = some ⟨oc33, od33, .func (PySem.W.fnOf "told" "told" (defArgs s_told) (defBody s_told) (defScope s_told) .none kV33 dc33 pm33 an33 cd33 ct33), sl33⟩)
    (c33 : PySem.W.codeIn K cd33 "told" = true)
    (k33 : PySem.W.keepIn K (.ref f33) = true)
    (a34 : PySem.W.nsIn K mainGlobals "begins" = some (some (.ref f34)))
    (l34 : K.lookup f34 = some ⟨oc34, od34, .func (PySem.W.fnOf "begins" "begins" (defArgs s_begins) (defBody s_begins) (defScope s_begins) .none kV34 dc34 pm34 an34 cd34 ct34), sl34⟩)
    (c34 : PySem.W.codeIn K cd34 "begins" = true)
    (k34 : PySem.W.keepIn K (.ref f34) = true)
    (a35 : PySem.W.nsIn K mainGlobals "reader" = some (some (.ref f35)))
    (l35 : K.lookup f35 = some ⟨oc35, od35, .func (PySem.W.fnOf "reader" "reader" (defArgs s_reader) (defBody s_reader) (defScope s_reader) .none kV35 dc35 pm35 an35 cd35 ct35), sl35⟩)
    (c35 : PySem.W.codeIn K cd35 "reader" = true)
    (k35 : PySem.W.keepIn K (.ref f35) = true)
    (a36 : PySem.W.nsIn K mainGlobals "put_mark" = some (some (.ref f36)))
    (l36 : K.lookup f36 = some ⟨oc36, od36, .func (PySem.W.fnOf "put_mark" "put_mark" (defArgs s_put_mark) (defBody s_put_mark) (defScope s_put_mark) .none kV36 dc36 pm36 an36 cd36 ct36), sl36⟩)
    (c36 : PySem.W.codeIn K cd36 "put_mark" = true)
    (k36 : PySem.W.keepIn K (.ref f36) = true)
    (a37 : PySem.W.nsIn K mainGlobals "change" = some (some (.ref f37)))
    (l37 : K.lookup f37 = some ⟨oc37, od37, .func (PySem.W.fnOf "change" "change" (defArgs s_change) (defBody s_change) (defScope s_change) .none kV37 dc37 pm37 an37 cd37 ct37), sl37⟩)
    (c37 : PySem.W.codeIn K cd37 "change" = true)
    (k37 : PySem.W.keepIn K (.ref f37) = true)
    (a38 : PySem.W.nsIn K mainGlobals "keep" = some (some (.ref f38)))
    (l38 : K.lookup f38 = some ⟨oc38, od38, .func (PySem.W.fnOf "keep" "keep" (defArgs s_keep) (defBody s_keep) (defScope s_keep) .none kV38 dc38 pm38 an38 cd38 ct38), sl38⟩)
    (c38 : PySem.W.codeIn K cd38 "keep" = true)
    (k38 : PySem.W.keepIn K (.ref f38) = true)
    (a39 : PySem.W.nsIn K mainGlobals "move" = some (some (.ref f39)))
    (l39 : K.lookup f39 = some ⟨oc39, od39, .func (PySem.W.fnOf "move" "move" (defArgs s_move) (defBody s_move) (defScope s_move) .none kV39 dc39 pm39 an39 cd39 ct39), sl39⟩)
    (c39 : PySem.W.codeIn K cd39 "move" = true)
    (k39 : PySem.W.keepIn K (.ref f39) = true)
    (a40 : PySem.W.nsIn K mainGlobals "withdraw" = some (some (.ref f40)))
    (l40 : K.lookup f40 = some ⟨oc40, od40, .func (PySem.W.fnOf "withdraw" "withdraw" (defArgs s_withdraw) (defBody s_withdraw) (defScope s_withdraw) .none kV40 dc40 pm40 an40 cd40 ct40), sl40⟩)
    (c40 : PySem.W.codeIn K cd40 "withdraw" = true)
    (k40 : PySem.W.keepIn K (.ref f40) = true)
    (a41 : PySem.W.nsIn K mainGlobals "clashes" = some (some (.ref f41)))
    (l41 : K.lookup f41 = some ⟨oc41, od41, .func (PySem.W.fnOf "clashes" "clashes" (defArgs s_clashes) (defBody s_clashes) (defScope s_clashes) .none kV41 dc41 pm41 an41 cd41 ct41), sl41⟩)
    (c41 : PySem.W.codeIn K cd41 "clashes" = true)
    (k41 : PySem.W.keepIn K (.ref f41) = true)
    (a42 : PySem.W.nsIn K mainGlobals "carry" = some (some (.ref f42)))
    (l42 : K.lookup f42 = some ⟨oc42, od42, .func (PySem.W.fnOf "carry" "carry" (defArgs s_carry) (defBody s_carry) (defScope s_carry) .none kV42 dc42 pm42 an42 cd42 ct42), sl42⟩)
    (c42 : PySem.W.codeIn K cd42 "carry" = true)
    (k42 : PySem.W.keepIn K (.ref f42) = true)
    (a43 : PySem.W.nsIn K mainGlobals "shown" = some (some (.ref f43)))
    (l43 : K.lookup f43 = some ⟨oc43, od43, .func (PySem.W.fnOf "shown" "shown" (defArgs s_shown) (defBody s_shown) (defScope s_shown) .none kV43 dc43 pm43 an43 cd43 ct43), sl43⟩)
    (c43 : PySem.W.codeIn K cd43 "shown" = true)
    (k43 : PySem.W.keepIn K (.ref f43) = true)
    (a44 : PySem.W.nsIn K mainGlobals "who" = some (some (.ref f44)))
    (l44 : K.lookup f44 = some ⟨oc44, od44, .func (PySem.W.fnOf "who" "who" (defArgs s_who) (defBody s_who) (defScope s_who) .none kV44 dc44 pm44 an44 cd44 ct44), sl44⟩)
    (c44 : PySem.W.codeIn K cd44 "who" = true)
    (k44 : PySem.W.keepIn K (.ref f44) = true)
    (a45 : PySem.W.nsIn K mainGlobals "mark_told" = some (some (.ref f45)))
    (l45 : K.lookup f45 = some ⟨oc45, od45, .func (PySem.W.fnOf "mark_told" "mark_told" (defArgs s_mark_told) (defBody s_mark_told) (defScope s_mark_told) .none kV45 dc45 pm45 an45 cd45 ct45), sl45⟩)
    (c45 : PySem.W.codeIn K cd45 "mark_told" = true)
    (k45 : PySem.W.keepIn K (.ref f45) = true)
    (a46 : PySem.W.nsIn K mainGlobals "gone" = some (some (.ref f46)))
    (l46 : K.lookup f46 = some ⟨oc46, od46, .func (PySem.W.fnOf "gone" "gone" (defArgs s_gone) (defBody s_gone) (defScope s_gone) .none kV46 dc46 pm46 an46 cd46 ct46), sl46⟩)
    (c46 : PySem.W.codeIn K cd46 "gone" = true)
    (k46 : PySem.W.keepIn K (.ref f46) = true)
    (a47 : PySem.W.nsIn K mainGlobals "test" = some (some (.ref f47)))
    (l47 : K.lookup f47 = some ⟨oc47, od47, .func (PySem.W.fnOf "test" "test" (defArgs s_test) (defBody s_test) (defScope s_test) .none kV47 dc47 pm47 an47 cd47 ct47), sl47⟩)
    (c47 : PySem.W.codeIn K cd47 "test" = true)
    (k47 : PySem.W.keepIn K (.ref f47) = true)
    (a48 : PySem.W.nsIn K mainGlobals "set_costs" = some (some (.ref f48)))
    (l48 : K.lookup f48 = some ⟨oc48, od48, .func (PySem.W.fnOf "set_costs" "set_costs" (defArgs s_set_costs) (defBody s_set_costs) (defScope s_set_costs) .none kV48 dc48 pm48 an48 cd48 ct48), sl48⟩)
    (c48 : PySem.W.codeIn K cd48 "set_costs" = true)
    (k48 : PySem.W.keepIn K (.ref f48) = true)
    (a49 : PySem.W.nsIn K mainGlobals "fault_places" = some (some (.ref f49)))
    (l49 : K.lookup f49 = some ⟨oc49, od49, .func (PySem.W.fnOf "fault_places" "fault_places" (defArgs s_fault_places) (defBody s_fault_places) (defScope s_fault_places) .none kV49 dc49 pm49 an49 cd49 ct49), sl49⟩)
    (c49 : PySem.W.codeIn K cd49 "fault_places" = true)
    (k49 : PySem.W.keepIn K (.ref f49) = true)
    (a50 : PySem.W.nsIn K mainGlobals "set_setting" = some (some (.ref f50)))
    (l50 : K.lookup f50 = some ⟨oc50, od50, .func (PySem.W.fnOf "set_setting" "set_setting" (defArgs s_set_setting) (defBody s_set_setting) (defScope s_set_setting) .none kV50 dc50 pm50 an50 cd50 ct50), sl50⟩)
    (c50 : PySem.W.codeIn K cd50 "set_setting" = true)
    (k50 : PySem.W.keepIn K (.ref f50) = true)
    (a51 : PySem.W.nsIn K mainGlobals "faults" = some (some (.ref f51)))
    (l51 : K.lookup f51 = some ⟨oc51, od51, .func (PySem.W.fnOf "faults" "faults" (defArgs s_faults) (defBody s_faults) (defScope s_faults) .none kV51 dc51 pm51 an51 cd51 ct51), sl51⟩)
    (c51 : PySem.W.codeIn K cd51 "faults" = true)
    (k51 : PySem.W.keepIn K (.ref f51) = true)
    (a52 : PySem.W.nsIn K mainGlobals "adopt" = some (some (.ref f52)))
    (l52 : K.lookup f52 = some ⟨oc52, od52, .func (PySem.W.fnOf "adopt" "adopt" (defArgs s_adopt) (defBody s_adopt) (defScope s_adopt) .none kV52 dc52 pm52 an52 cd52 ct52), sl52⟩)
    (c52 : PySem.W.codeIn K cd52 "adopt" = true)
    (k52 : PySem.W.keepIn K (.ref f52) = true)
    (a53 : PySem.W.nsIn K mainGlobals "clean" = some (some (.ref f53)))
    (l53 : K.lookup f53 = some ⟨oc53, od53, .func (PySem.W.fnOf "clean" "clean" (defArgs s_clean) (defBody s_clean) (defScope s_clean) .none kV53 dc53 pm53 an53 cd53 ct53), sl53⟩)
    (c53 : PySem.W.codeIn K cd53 "clean" = true)
    (k53 : PySem.W.keepIn K (.ref f53) = true)
    (a54 : PySem.W.nsIn K mainGlobals "explained_place" = some (some (.ref f54)))
    (l54 : K.lookup f54 = some ⟨oc54, od54, .func (PySem.W.fnOf "explained_place" "explained_place" (defArgs s_explained_place) (defBody s_explained_place) (defScope s_explained_place) .none kV54 dc54 pm54 an54 cd54 ct54), sl54⟩)
    (c54 : PySem.W.codeIn K cd54 "explained_place" = true)
    (k54 : PySem.W.keepIn K (.ref f54) = true)
    (a55 : PySem.W.nsIn K mainGlobals "explained" = some (some (.ref f55)))
    (l55 : K.lookup f55 = some ⟨oc55, od55, .func (PySem.W.fnOf "explained" "explained" (defArgs s_explained) (defBody s_explained) (defScope s_explained) .none kV55 dc55 pm55 an55 cd55 ct55), sl55⟩)
    (c55 : PySem.W.codeIn K cd55 "explained" = true)
    (k55 : PySem.W.keepIn K (.ref f55) = true)
    (a56 : PySem.W.nsIn K mainGlobals "answer" = some (some (.ref f56)))
    (l56 : K.lookup f56 = some ⟨oc56, od56, .func (PySem.W.fnOf "answer" "answer" (defArgs s_answer) (defBody s_answer) (defScope s_answer) .none kV56 dc56 pm56 an56 cd56 ct56), sl56⟩)
    (c56 : PySem.W.codeIn K cd56 "answer" = true)
    (k56 : PySem.W.keepIn K (.ref f56) = true)
    (a57 : PySem.W.nsIn K mainGlobals "answers" = some (some (.ref f57)))
    (l57 : K.lookup f57 = some ⟨oc57, od57, .func (PySem.W.fnOf "answers" "answers" (defArgs s_answers) (defBody s_answers) (defScope s_answers) .none kV57 dc57 pm57 an57 cd57 ct57), sl57⟩)
    (c57 : PySem.W.codeIn K cd57 "answers" = true)
    (k57 : PySem.W.keepIn K (.ref f57) = true)
    (gCHANGE : PySem.W.nsIn K mainGlobals "CHANGE" = some (some (.int 0 tCHANGE)))
    (gKEEP : PySem.W.nsIn K mainGlobals "KEEP" = some (some (.int 1 tKEEP)))
    (gMOVE : PySem.W.nsIn K mainGlobals "MOVE" = some (some (.int 2 tMOVE)))
    (gOPEN : PySem.W.nsIn K mainGlobals "OPEN" = some (some (.int 0 tOPEN)))
    (gDONE : PySem.W.nsIn K mainGlobals "DONE" = some (some (.int 1 tDONE)))
    (gLOST : PySem.W.nsIn K mainGlobals "LOST" = some (some (.int 2 tLOST)))
    (gWITHDRAWN : PySem.W.nsIn K mainGlobals "WITHDRAWN" = some (some (.int 3 tWITHDRAWN)))
    (gMOST_WORD : PySem.W.nsIn K mainGlobals "MOST_WORD" = some (some (.int 99999 tMOST_WORD)))
    (gMOST_TEXT : PySem.W.nsIn K mainGlobals "MOST_TEXT" = some (some (.int 100 tMOST_TEXT)))
    (gMOST_SETTING : PySem.W.nsIn K mainGlobals "MOST_SETTING" = some (some (.int 120 tMOST_SETTING)))
    (gMOST_PUT : PySem.W.nsIn K mainGlobals "MOST_PUT" = some (some (.int 20 tMOST_PUT)))
    (gMOST_READERS : PySem.W.nsIn K mainGlobals "MOST_READERS" = some (some (.int 8 tMOST_READERS)))
    (gMOST_WEIGHT : PySem.W.nsIn K mainGlobals "MOST_WEIGHT" = some (some (.int 1000 tMOST_WEIGHT)))
    (gMOST_OPEN : PySem.W.nsIn K mainGlobals "MOST_OPEN" = some (some (.int 10 tMOST_OPEN)))
    (gMOST_MARKS : PySem.W.nsIn K mainGlobals "MOST_MARKS" = some (some (.int 60 tMOST_MARKS)))
    (gMOST_COST : PySem.W.nsIn K mainGlobals "MOST_COST" = some (some (.int 100 tMOST_COST)))
    (nValueError : PySem.W.nsIn K mainGlobals "ValueError" = some none)
    (nenumerate : PySem.W.nsIn K mainGlobals "enumerate" = some none)
    (nint : PySem.W.nsIn K mainGlobals "int" = some none)
    (nlen : PySem.W.nsIn K mainGlobals "len" = some none)
    (nlist : PySem.W.nsIn K mainGlobals "list" = some none)
    (nmax : PySem.W.nsIn K mainGlobals "max" = some none)
    (nmin : PySem.W.nsIn K mainGlobals "min" = some none)
    (nrange : PySem.W.nsIn K mainGlobals "range" = some none)
    (nreversed : PySem.W.nsIn K mainGlobals "reversed" = some none)
    (nset : PySem.W.nsIn K mainGlobals "set" = some none)
    (nsorted : PySem.W.nsIn K mainGlobals "sorted" = some none)
    (gWITH_ROW : PySem.W.nsIn K mainGlobals "WITH_ROW" = some (some (.ref DWITH_ROW)))
    (lWITH_ROW : K.lookup DWITH_ROW = some ⟨.type "tuple", odWITH_ROW, .seq vsWITH_ROW nWITH_ROW, slWITH_ROW⟩)
    (zWITH_ROW : vsWITH_ROW.size ≤ 1000)
    (vWITH_ROW : Vals ([0, 2, 12, 14].map V.int) vsWITH_ROW.toList)
    (gNUMBERS : PySem.W.nsIn K mainGlobals "NUMBERS" = some (some (.ref DNUMBERS)))
    (lNUMBERS : K.lookup DNUMBERS = some ⟨.type "tuple", odNUMBERS, .seq vsNUMBERS nNUMBERS, slNUMBERS⟩)
    (zNUMBERS : vsNUMBERS.size ≤ 1000)
    (vNUMBERS : Vals ([0, 1, 3, 3, 4, 1, 0, 0, 0, 1, 1, 0, 0, 3, 0, 0, 2, 0, 0].map V.int) vsNUMBERS.toList)
    (gDEEDS : PySem.W.nsIn K mainGlobals "DEEDS" = some (some (.ref DDEEDS)))
    (lDEEDS : K.lookup DDEEDS = some ⟨.type "tuple", odDEEDS, .seq vsDEEDS nDEEDS, slDEEDS⟩)
    (zDEEDS : vsDEEDS.size ≤ 1000)
    (vDEEDS : Vals [.ref f34, .ref f35, .ref f37, .ref f38, .ref f39, .ref f40, .ref f41, .ref f42, .ref f43, .ref f44, .ref f45, .ref f46, .ref f47, .ref f48, .ref f50, .ref f51, .ref f52, .ref f53, .ref f55] vsDEEDS.toList) :
    ∃ fd : FuncData, (∀ (s : Shared) (us : List Value), us.length = (["calls"] : List Str).length → BindsTo s fd ⟨us, []⟩ ((["calls"] : List Str).zip us)) ∧ ∀ base : Heap, K.In base → base.Ns mainGlobals mg → FnOk P w K mg base CX0 9 fa fd ["calls"] (spAns K) := by
  have e := hfa.symm.trans (PySem.W.mg_of X G a57)
  cases e
  have F0 := fun_mk (st := s_Word_init) l0 c0 k0
  have b0 := F0.binds (ps := P_Word_init) fun _ _ _ _ _ _ us hl => match us, hl with | [_, _, _, _, _], _ => rfl
  have noWord : ∀ f ∈ (["value", "own", "first", "mark"] : List Str), NoAttr K CWord f := fun f hf => by
    simp only [List.mem_cons, List.not_mem_nil, or_false] at hf
    rcases hf with rfl | rfl | rfl | rfl
    · exact nWord_value
    · exact nWord_own
    · exact nWord_first
    · exact nWord_mark
  have F1 := fun_mk (st := s_Mark_init) l1 c1 k1
  have b1 := F1.binds (ps := P_Mark_init) fun _ _ _ _ _ _ us hl => match us, hl with | [_, _, _, _, _], _ => rfl
  have noMark : ∀ f ∈ (["kind", "reader", "i", "j", "k", "words", "state", "proof"] : List Str), NoAttr K CMark f := fun f hf => by
    simp only [List.mem_cons, List.not_mem_nil, or_false] at hf
    rcases hf with rfl | rfl | rfl | rfl | rfl | rfl | rfl | rfl
    · exact nMark_kind
    · exact nMark_reader
    · exact nMark_i
    · exact nMark_j
    · exact nMark_k
    · exact nMark_words
    · exact nMark_state
    · exact nMark_proof
  have F2 := fun_mk (st := s_Choice_init) l2 c2 k2
  have b2 := F2.binds (ps := P_Choice_init) fun _ _ _ _ _ _ us hl => match us, hl with | [_, _, _], _ => rfl
  have noChoice : ∀ f ∈ (["numbers", "weight"] : List Str), NoAttr K CChoice f := fun f hf => by
    simp only [List.mem_cons, List.not_mem_nil, or_false] at hf
    rcases hf with rfl | rfl
    · exact nChoice_numbers
    · exact nChoice_weight
  have F3 := fun_mk (st := s_Carried_init) l3 c3 k3
  have b3 := F3.binds (ps := P_Carried_init) fun _ _ _ _ _ _ us hl => match us, hl with | [_], _ => rfl
  have noCarried : ∀ f ∈ (["words", "gaps", "taken"] : List Str), NoAttr K CCarried f := fun f hf => by
    simp only [List.mem_cons, List.not_mem_nil, or_false] at hf
    rcases hf with rfl | rfl | rfl
    · exact nCarried_words
    · exact nCarried_gaps
    · exact nCarried_taken
  have F4 := fun_mk (st := s_Costs_init) l4 c4 k4
  have b4 := F4.binds (ps := P_Costs_init) fun _ _ _ _ _ _ us hl => match us, hl with | [_, _, _, _], _ => rfl
  have noCosts : ∀ f ∈ (["other", "out", "into"] : List Str), NoAttr K CCosts f := fun f hf => by
    simp only [List.mem_cons, List.not_mem_nil, or_false] at hf
    rcases hf with rfl | rfl | rfl
    · exact nCosts_other
    · exact nCosts_out
    · exact nCosts_into
  have F5 := fun_mk (st := s_Place_init) l5 c5 k5
  have b5 := F5.binds (ps := P_Place_init) fun _ _ _ _ _ _ us hl => match us, hl with | [_, _, _, _, _], _ => rfl
  have noPlace : ∀ f ∈ (["begin", "end", "first", "last"] : List Str), NoAttr K CPlace f := fun f hf => by
    simp only [List.mem_cons, List.not_mem_nil, or_false] at hf
    rcases hf with rfl | rfl | rfl | rfl
    · exact nPlace_begin
    · exact nPlace_end
    · exact nPlace_first
    · exact nPlace_last
  have F6 := fun_mk (st := s_Slots_init) l6 c6 k6
  have b6 := F6.binds (ps := P_Slots_init) fun _ _ _ _ _ _ us hl => match us, hl with | [_, _], _ => rfl
  have noSlots : ∀ f ∈ (["counts", "varied"] : List Str), NoAttr K CSlots f := fun f hf => by
    simp only [List.mem_cons, List.not_mem_nil, or_false] at hf
    rcases hf with rfl | rfl
    · exact nSlots_counts
    · exact nSlots_varied
  have F7 := fun_mk (st := s_Holder_init) l7 c7 k7
  have b7 := F7.binds (ps := P_Holder_init) fun _ _ _ _ _ _ us hl => match us, hl with | [_], _ => rfl
  have noHolder : ∀ f ∈ (["first", "text", "proof", "weights", "marks", "taken", "setting", "costs", "own"] : List Str), NoAttr K CHolder f := fun f hf => by
    simp only [List.mem_cons, List.not_mem_nil, or_false] at hf
    rcases hf with rfl | rfl | rfl | rfl | rfl | rfl | rfl | rfl | rfl
    · exact nHolder_first
    · exact nHolder_text
    · exact nHolder_proof
    · exact nHolder_weights
    · exact nHolder_marks
    · exact nHolder_taken
    · exact nHolder_setting
    · exact nHolder_costs
    · exact nHolder_own
  have F8 := fun_mk (st := s_Refused_init) l8 c8 k8
  have b8 := F8.binds (ps := P_Refused_init) fun _ _ _ _ _ _ us hl => match us, hl with | [_, _, _], _ => rfl
  have F9 := fun_mk (st := s_are_same) l9 c9 k9
  have b9 := F9.binds (ps := P_are_same) fun _ _ _ _ _ _ us hl => match us, hl with | [_, _], _ => rfl
  have F10 := fun_mk (st := s_breaks_into) l10 c10 k10
  have b10 := F10.binds (ps := P_breaks_into) fun _ _ _ _ _ _ us hl => match us, hl with | [_, _, _], _ => rfl
  have F11 := fun_mk (st := s_gainsay) l11 c11 k11
  have b11 := F11.binds (ps := P_gainsay) fun _ _ _ _ _ _ us hl => match us, hl with | [_, _], _ => rfl
  have F12 := fun_mk (st := s_open_marks) l12 c12 k12
  have b12 := F12.binds (ps := P_open_marks) fun _ _ _ _ _ _ us hl => match us, hl with | [_], _ => rfl
  have F13 := fun_mk (st := s_clashing) l13 c13 k13
  have b13 := F13.binds (ps := P_clashing) fun _ _ _ _ _ _ us hl => match us, hl with | [_], _ => rfl
  have F14 := fun_mk (st := s_longer) l14 c14 k14
  have b14 := F14.binds (ps := P_longer) fun _ _ _ _ _ _ us hl => match us, hl with | [_, _, _, _], _ => rfl
  have F15 := fun_mk (st := s_heaviest) l15 c15 k15
  have b15 := F15.binds (ps := P_heaviest) fun _ _ _ _ _ _ us hl => match us, hl with | [_, _], _ => rfl
  have F16 := fun_mk (st := s_once) l16 c16 k16
  have b16 := F16.binds (ps := P_once) fun _ _ _ _ _ _ us hl => match us, hl with | [_, _], _ => rfl
  have F17 := fun_mk (st := s_takers) l17 c17 k17
  have b17 := F17.binds (ps := P_takers) fun _ _ _ _ _ _ us hl => match us, hl with | [_, _], _ => rfl
  have F18 := fun_mk (st := s_put_at) l18 c18 k18
  have b18 := F18.binds (ps := P_put_at) fun _ _ _ _ _ _ us hl => match us, hl with | [_, _, _, _, _], _ => rfl
  have F19 := fun_mk (st := s_carried) l19 c19 k19
  have b19 := F19.binds (ps := P_carried) fun _ _ _ _ _ _ us hl => match us, hl with | [_, _, _, _], _ => rfl
  have F20 := fun_mk (st := s_place_of) l20 c20 k20
  have b20 := F20.binds (ps := P_place_of) fun _ _ _ _ _ _ us hl => match us, hl with | [_, _], _ => rfl
  have F21 := fun_mk (st := s_where_now) l21 c21 k21
  have b21 := F21.binds (ps := P_where_now) fun _ _ _ _ _ _ us hl => match us, hl with | [_, _, _, _], _ => rfl
  have F22 := fun_mk (st := s_ask_anew) l22 c22 k22
  have b22 := F22.binds (ps := P_ask_anew) fun _ _ _ _ _ _ us hl => match us, hl with | [_, _, _, _], _ => rfl
  have F23 := fun_mk (st := s_settle_marks) l23 c23 k23
  have b23 := F23.binds (ps := P_settle_marks) fun _ _ _ _ _ _ us hl => match us, hl with | [_, _, _, _, _], _ => rfl
  have F24 := fun_mk (st := s_pair_cost) l24 c24 k24
  have b24 := F24.binds (ps := P_pair_cost) fun _ _ _ _ _ _ us hl => match us, hl with | [_, _, _], _ => rfl
  have F25 := fun_mk (st := s_cheapest) l25 c25 k25
  have b25 := F25.binds (ps := P_cheapest) fun _ _ _ _ _ _ us hl => match us, hl with | [_, _, _], _ => rfl
  have F26 := fun_mk (st := s_steps_of) l26 c26 k26
  have b26 := F26.binds (ps := P_steps_of) fun _ _ _ _ _ _ us hl => match us, hl with | [_, _, _], _ => rfl
  have F27 := fun_mk (st := s_is_like) l27 c27 k27
  have b27 := F27.binds (ps := P_is_like) fun _ _ _ _ _ _ us hl => match us, hl with | [_, _, _, _, _], _ => rfl
  have F28 := fun_mk (st := s_slots_of) l28 c28 k28
  have b28 := F28.binds (ps := P_slots_of) fun _ _ _ _ _ _ us hl => match us, hl with | [_, _, _], _ => rfl
  have F29 := fun_mk (st := s_places_of) l29 c29 k29
  have b29 := F29.binds (ps := P_places_of) fun _ _ _ _ _ _ us hl => match us, hl with | [_, _, _], _ => rfl
  have F30 := fun_mk (st := s_way_cost) l30 c30 k30
  have b30 := F30.binds (ps := P_way_cost) fun _ _ _ _ _ _ us hl => match us, hl with | [_, _, _], _ => rfl
  have F31 := fun_mk (st := s_ask) l31 c31 k31
  have b31 := F31.binds (ps := P_ask) fun _ _ _ _ _ _ us hl => match us, hl with | [_, _], _ => rfl
  have F32 := fun_mk (st := s_are_words) l32 c32 k32
  have b32 := F32.binds (ps := P_are_words) fun _ _ _ _ _ _ us hl => match us, hl with | [_], _ => rfl
  have F33 := fun_mk (st := s_told) l33 c33 k33
  have b33 := F33.binds (ps := P_told) fun _ _ _ _ _ _ us hl => match us, hl with | [_], _ => rfl
  have F34 := fun_mk (st := s_begins) l34 c34 k34
  have b34 := F34.binds (ps := P_begins) fun _ _ _ _ _ _ us hl => match us, hl with | [_, _, _], _ => rfl
  have F35 := fun_mk (st := s_reader) l35 c35 k35
  have b35 := F35.binds (ps := P_reader) fun _ _ _ _ _ _ us hl => match us, hl with | [_, _, _], _ => rfl
  have F36 := fun_mk (st := s_put_mark) l36 c36 k36
  have b36 := F36.binds (ps := P_put_mark) fun _ _ _ _ _ _ us hl => match us, hl with | [_, _], _ => rfl
  have F37 := fun_mk (st := s_change) l37 c37 k37
  have b37 := F37.binds (ps := P_change) fun _ _ _ _ _ _ us hl => match us, hl with | [_, _, _], _ => rfl
  have F38 := fun_mk (st := s_keep) l38 c38 k38
  have b38 := F38.binds (ps := P_keep) fun _ _ _ _ _ _ us hl => match us, hl with | [_, _, _], _ => rfl
  have F39 := fun_mk (st := s_move) l39 c39 k39
  have b39 := F39.binds (ps := P_move) fun _ _ _ _ _ _ us hl => match us, hl with | [_, _, _], _ => rfl
  have F40 := fun_mk (st := s_withdraw) l40 c40 k40
  have b40 := F40.binds (ps := P_withdraw) fun _ _ _ _ _ _ us hl => match us, hl with | [_, _, _], _ => rfl
  have F41 := fun_mk (st := s_clashes) l41 c41 k41
  have b41 := F41.binds (ps := P_clashes) fun _ _ _ _ _ _ us hl => match us, hl with | [_, _, _], _ => rfl
  have F42 := fun_mk (st := s_carry) l42 c42 k42
  have b42 := F42.binds (ps := P_carry) fun _ _ _ _ _ _ us hl => match us, hl with | [_, _, _], _ => rfl
  have F43 := fun_mk (st := s_shown) l43 c43 k43
  have b43 := F43.binds (ps := P_shown) fun _ _ _ _ _ _ us hl => match us, hl with | [_, _, _], _ => rfl
  have F44 := fun_mk (st := s_who) l44 c44 k44
  have b44 := F44.binds (ps := P_who) fun _ _ _ _ _ _ us hl => match us, hl with | [_, _, _], _ => rfl
  have F45 := fun_mk (st := s_mark_told) l45 c45 k45
  have b45 := F45.binds (ps := P_mark_told) fun _ _ _ _ _ _ us hl => match us, hl with | [_, _, _], _ => rfl
  have F46 := fun_mk (st := s_gone) l46 c46 k46
  have b46 := F46.binds (ps := P_gone) fun _ _ _ _ _ _ us hl => match us, hl with | [_, _, _], _ => rfl
  have F47 := fun_mk (st := s_test) l47 c47 k47
  have b47 := F47.binds (ps := P_test) fun _ _ _ _ _ _ us hl => match us, hl with | [_, _, _], _ => rfl
  have F48 := fun_mk (st := s_set_costs) l48 c48 k48
  have b48 := F48.binds (ps := P_set_costs) fun _ _ _ _ _ _ us hl => match us, hl with | [_, _, _], _ => rfl
  have F49 := fun_mk (st := s_fault_places) l49 c49 k49
  have b49 := F49.binds (ps := P_fault_places) fun _ _ _ _ _ _ us hl => match us, hl with | [_], _ => rfl
  have F50 := fun_mk (st := s_set_setting) l50 c50 k50
  have b50 := F50.binds (ps := P_set_setting) fun _ _ _ _ _ _ us hl => match us, hl with | [_, _, _], _ => rfl
  have F51 := fun_mk (st := s_faults) l51 c51 k51
  have b51 := F51.binds (ps := P_faults) fun _ _ _ _ _ _ us hl => match us, hl with | [_, _, _], _ => rfl
  have F52 := fun_mk (st := s_adopt) l52 c52 k52
  have b52 := F52.binds (ps := P_adopt) fun _ _ _ _ _ _ us hl => match us, hl with | [_, _, _], _ => rfl
  have F53 := fun_mk (st := s_clean) l53 c53 k53
  have b53 := F53.binds (ps := P_clean) fun _ _ _ _ _ _ us hl => match us, hl with | [_, _, _], _ => rfl
  have F54 := fun_mk (st := s_explained_place) l54 c54 k54
  have b54 := F54.binds (ps := P_explained_place) fun _ _ _ _ _ _ us hl => match us, hl with | [_, _], _ => rfl
  have F55 := fun_mk (st := s_explained) l55 c55 k55
  have b55 := F55.binds (ps := P_explained) fun _ _ _ _ _ _ us hl => match us, hl with | [_, _, _], _ => rfl
  have F56 := fun_mk (st := s_answer) l56 c56 k56
  have b56 := F56.binds (ps := P_answer) fun _ _ _ _ _ _ us hl => match us, hl with | [_, _, _, _], _ => rfl
  have F57 := fun_mk (st := s_answers) l57 c57 k57
  have b57 := F57.binds (ps := P_answers) fun _ _ _ _ _ _ us hl => match us, hl with | [_], _ => rfl
  let T : Tp K mg := {
    Word := ⟨CWord, PySem.W.mg_of X G aWord, ⟨pgWord, hdWord, poWord, saWord⟩, noWord, f0, _, F0, b0, ⟨mkWord, iWord, jWord, kcWord⟩⟩,
    Mark := ⟨CMark, PySem.W.mg_of X G aMark, ⟨pgMark, hdMark, poMark, saMark⟩, noMark, f1, _, F1, b1, ⟨mkMark, iMark, jMark, kcMark⟩⟩,
    Choice := ⟨CChoice, PySem.W.mg_of X G aChoice, ⟨pgChoice, hdChoice, poChoice, saChoice⟩, noChoice, f2, _, F2, b2, ⟨mkChoice, iChoice, jChoice, kcChoice⟩⟩,
    Carried := ⟨CCarried, PySem.W.mg_of X G aCarried, ⟨pgCarried, hdCarried, poCarried, saCarried⟩, noCarried, f3, _, F3, b3, ⟨mkCarried, iCarried, jCarried, kcCarried⟩⟩,
    Costs := ⟨CCosts, PySem.W.mg_of X G aCosts, ⟨pgCosts, hdCosts, poCosts, saCosts⟩, noCosts, f4, _, F4, b4, ⟨mkCosts, iCosts, jCosts, kcCosts⟩⟩,
    Place := ⟨CPlace, PySem.W.mg_of X G aPlace, ⟨pgPlace, hdPlace, poPlace, saPlace⟩, noPlace, f5, _, F5, b5, ⟨mkPlace, iPlace, jPlace, kcPlace⟩⟩,
    Slots := ⟨CSlots, PySem.W.mg_of X G aSlots, ⟨pgSlots, hdSlots, poSlots, saSlots⟩, noSlots, f6, _, F6, b6, ⟨mkSlots, iSlots, jSlots, kcSlots⟩⟩,
    Holder := ⟨CHolder, PySem.W.mg_of X G aHolder, ⟨pgHolder, hdHolder, poHolder, saHolder⟩, noHolder, f7, _, F7, b7, ⟨mkHolder, iHolder, jHolder, kcHolder⟩⟩,
    Refused := ⟨CR, PySem.W.mg_of X G aR, ⟨⟨nm0, q0, N0, bs0, _, sn0, sub0, ab0, col0, dd0, m0, m1, m2, m3, m5, xR, by decide +kernel⟩, saR, eR, tyR, kR⟩, ⟨gaR, ggR, eR, hR⟩, nbR, f8, _, F8, b8, iR, tR, exm_own eR icR tyR sR⟩,
    are_same := ⟨f9, _, F9, PySem.W.mg_of X G a9, b9⟩,
    breaks_into := ⟨f10, _, F10, PySem.W.mg_of X G a10, b10⟩,
    gainsay := ⟨f11, _, F11, PySem.W.mg_of X G a11, b11⟩,
    open_marks := ⟨f12, _, F12, PySem.W.mg_of X G a12, b12⟩,
    clashing := ⟨f13, _, F13, PySem.W.mg_of X G a13, b13⟩,
    longer := ⟨f14, _, F14, PySem.W.mg_of X G a14, b14⟩,
    heaviest := ⟨f15, _, F15, PySem.W.mg_of X G a15, b15⟩,
    once := ⟨f16, _, F16, PySem.W.mg_of X G a16, b16⟩,
    takers := ⟨f17, _, F17, PySem.W.mg_of X G a17, b17⟩,
    put_at := ⟨f18, _, F18, PySem.W.mg_of X G a18, b18⟩,
    carried := ⟨f19, _, F19, PySem.W.mg_of X G a19, b19⟩,
    place_of := ⟨f20, _, F20, PySem.W.mg_of X G a20, b20⟩,
    where_now := ⟨f21, _, F21, PySem.W.mg_of X G a21, b21⟩,
    ask_anew := ⟨f22, _, F22, PySem.W.mg_of X G a22, b22⟩,
    settle_marks := ⟨f23, _, F23, PySem.W.mg_of X G a23, b23⟩,
    pair_cost := ⟨f24, _, F24, PySem.W.mg_of X G a24, b24⟩,
    cheapest := ⟨f25, _, F25, PySem.W.mg_of X G a25, b25⟩,
    steps_of := ⟨f26, _, F26, PySem.W.mg_of X G a26, b26⟩,
    is_like := ⟨f27, _, F27, PySem.W.mg_of X G a27, b27⟩,
    slots_of := ⟨f28, _, F28, PySem.W.mg_of X G a28, b28⟩,
    places_of := ⟨f29, _, F29, PySem.W.mg_of X G a29, b29⟩,
    way_cost := ⟨f30, _, F30, PySem.W.mg_of X G a30, b30⟩,
    ask := ⟨f31, _, F31, PySem.W.mg_of X G a31, b31⟩,
    are_words := ⟨f32, _, F32, PySem.W.mg_of X G a32, b32⟩,
    told := ⟨f33, _, F33, PySem.W.mg_of X G a33, b33⟩,
    begins := ⟨f34, _, F34, PySem.W.mg_of X G a34, b34⟩,
    reader := ⟨f35, _, F35, PySem.W.mg_of X G a35, b35⟩,
    put_mark := ⟨f36, _, F36, PySem.W.mg_of X G a36, b36⟩,
    change := ⟨f37, _, F37, PySem.W.mg_of X G a37, b37⟩,
    keep := ⟨f38, _, F38, PySem.W.mg_of X G a38, b38⟩,
    move := ⟨f39, _, F39, PySem.W.mg_of X G a39, b39⟩,
    withdraw := ⟨f40, _, F40, PySem.W.mg_of X G a40, b40⟩,
    clashes := ⟨f41, _, F41, PySem.W.mg_of X G a41, b41⟩,
    carry := ⟨f42, _, F42, PySem.W.mg_of X G a42, b42⟩,
    shown := ⟨f43, _, F43, PySem.W.mg_of X G a43, b43⟩,
    who := ⟨f44, _, F44, PySem.W.mg_of X G a44, b44⟩,
    mark_told := ⟨f45, _, F45, PySem.W.mg_of X G a45, b45⟩,
    gone := ⟨f46, _, F46, PySem.W.mg_of X G a46, b46⟩,
    test := ⟨f47, _, F47, PySem.W.mg_of X G a47, b47⟩,
    set_costs := ⟨f48, _, F48, PySem.W.mg_of X G a48, b48⟩,
    fault_places := ⟨f49, _, F49, PySem.W.mg_of X G a49, b49⟩,
    set_setting := ⟨f50, _, F50, PySem.W.mg_of X G a50, b50⟩,
    faults := ⟨f51, _, F51, PySem.W.mg_of X G a51, b51⟩,
    adopt := ⟨f52, _, F52, PySem.W.mg_of X G a52, b52⟩,
    clean := ⟨f53, _, F53, PySem.W.mg_of X G a53, b53⟩,
    explained_place := ⟨f54, _, F54, PySem.W.mg_of X G a54, b54⟩,
    explained := ⟨f55, _, F55, PySem.W.mg_of X G a55, b55⟩,
    answer := ⟨f56, _, F56, PySem.W.mg_of X G a56, b56⟩,
    answers := ⟨fa, _, F57, PySem.W.mg_of X G a57, b57⟩,
    tCHANGE := tCHANGE, kCHANGE := PySem.W.mg_of X G gCHANGE,
    tKEEP := tKEEP, kKEEP := PySem.W.mg_of X G gKEEP,
    tMOVE := tMOVE, kMOVE := PySem.W.mg_of X G gMOVE,
    tOPEN := tOPEN, kOPEN := PySem.W.mg_of X G gOPEN,
    tDONE := tDONE, kDONE := PySem.W.mg_of X G gDONE,
    tLOST := tLOST, kLOST := PySem.W.mg_of X G gLOST,
    tWITHDRAWN := tWITHDRAWN, kWITHDRAWN := PySem.W.mg_of X G gWITHDRAWN,
    tMOST_WORD := tMOST_WORD, kMOST_WORD := PySem.W.mg_of X G gMOST_WORD,
    tMOST_TEXT := tMOST_TEXT, kMOST_TEXT := PySem.W.mg_of X G gMOST_TEXT,
    tMOST_SETTING := tMOST_SETTING, kMOST_SETTING := PySem.W.mg_of X G gMOST_SETTING,
    tMOST_PUT := tMOST_PUT, kMOST_PUT := PySem.W.mg_of X G gMOST_PUT,
    tMOST_READERS := tMOST_READERS, kMOST_READERS := PySem.W.mg_of X G gMOST_READERS,
    tMOST_WEIGHT := tMOST_WEIGHT, kMOST_WEIGHT := PySem.W.mg_of X G gMOST_WEIGHT,
    tMOST_OPEN := tMOST_OPEN, kMOST_OPEN := PySem.W.mg_of X G gMOST_OPEN,
    tMOST_MARKS := tMOST_MARKS, kMOST_MARKS := PySem.W.mg_of X G gMOST_MARKS,
    tMOST_COST := tMOST_COST, kMOST_COST := PySem.W.mg_of X G gMOST_COST,
    nValueError := PySem.W.mg_none_of X G nValueError,
    nenumerate := PySem.W.mg_none_of X G nenumerate,
    nint := PySem.W.mg_none_of X G nint,
    nlen := PySem.W.mg_none_of X G nlen,
    nlist := PySem.W.mg_none_of X G nlist,
    nmax := PySem.W.mg_none_of X G nmax,
    nmin := PySem.W.mg_none_of X G nmin,
    nrange := PySem.W.mg_none_of X G nrange,
    nreversed := PySem.W.mg_none_of X G nreversed,
    nset := PySem.W.mg_none_of X G nset,
    nsorted := PySem.W.mg_none_of X G nsorted,
    vV := find_veinit,
    aWITH_ROW := DWITH_ROW, gWITH_ROW := PySem.W.mg_of X G gWITH_ROW, hWITH_ROW := fun _ => Or.inr ⟨_, _, _, lWITH_ROW, rfl, rfl, Nat.le_trans zWITH_ROW (by decide), vWITH_ROW⟩,
    aNUMBERS := DNUMBERS, gNUMBERS := PySem.W.mg_of X G gNUMBERS, hNUMBERS := fun _ => Or.inr ⟨_, _, _, lNUMBERS, rfl, rfl, Nat.le_trans zNUMBERS (by decide), vNUMBERS⟩,
    aDEEDS := DDEEDS, gDEEDS := PySem.W.mg_of X G gDEEDS, hDEEDS := fun _ => Or.inr ⟨_, _, _, lDEEDS, rfl, rfl, Nat.le_trans zDEEDS (by decide), vDEEDS⟩ }
  exact ⟨_, fun s us hu => match us, hu with | [_], _ => .of_eq rfl, fun base _ _ => ok_answers T⟩
end Pf

end
section
set_option Elab.async false
set_option maxRecDepth 100000
open PySem PySem.W PyProof.Rows
set_option maxHeartbeats 0 in
theorem PySem.Challenge.cw_proofrounds_s01_answers_holds : PySem.Challenge.rw_proofrounds_s01_answers.Holds := by
  w_on; k_headS; (case hw => exact ⟨[.list [.int 8]], by decide +kernel, by decide +kernel⟩)
  k_fillS
  refine L2.walk_specK (r := PySem.Challenge.rw_proofrounds_s01_answers) (k := 9) (CX := L2.CX0) (ps := ["calls"]) (sp := Pf.spAns) (by decide +kernel) rfl rfl ⟨rfl, by decide, by decide⟩ (fun w h Y => PySem.W.kIn_of Y) ?F ?S (fun _ _ _ _ z => z)
  case F =>
    intro w mg fa h Y KX G hmg
    refine' Pf.all_mk KX G hmg ?aWord ?iWord ?l0 ?c0 ?k0 ?jWord ?pgWord ?hdWord ?poWord ?saWord ?mkWord ?kcWord ?nWord_value ?nWord_own ?nWord_first ?nWord_mark ?aMark ?iMark ?l1 ?c1 ?k1 ?jMark ?pgMark ?hdMark ?poMark ?saMark ?mkMark ?kcMark ?nMark_kind ?nMark_reader ?nMark_i ?nMark_j ?nMark_k ?nMark_words ?nMark_state ?nMark_proof ?aChoice ?iChoice ?l2 ?c2 ?k2 ?jChoice ?pgChoice ?hdChoice ?poChoice ?saChoice ?mkChoice ?kcChoice ?nChoice_numbers ?nChoice_weight ?aCarried ?iCarried ?l3 ?c3 ?k3 ?jCarried ?pgCarried ?hdCarried ?poCarried ?saCarried ?mkCarried ?kcCarried ?nCarried_words ?nCarried_gaps ?nCarried_taken ?aCosts ?iCosts ?l4 ?c4 ?k4 ?jCosts ?pgCosts ?hdCosts ?poCosts ?saCosts ?mkCosts ?kcCosts ?nCosts_other ?nCosts_out ?nCosts_into ?aPlace ?iPlace ?l5 ?c5 ?k5 ?jPlace ?pgPlace ?hdPlace ?poPlace ?saPlace ?mkPlace ?kcPlace ?nPlace_begin ?nPlace_end ?nPlace_first ?nPlace_last ?aSlots ?iSlots ?l6 ?c6 ?k6 ?jSlots ?pgSlots ?hdSlots ?poSlots ?saSlots ?mkSlots ?kcSlots ?nSlots_counts ?nSlots_varied ?aHolder ?iHolder ?l7 ?c7 ?k7 ?jHolder ?pgHolder ?hdHolder ?poHolder ?saHolder ?mkHolder ?kcHolder ?nHolder_first ?nHolder_text ?nHolder_proof ?nHolder_weights ?nHolder_marks ?nHolder_taken ?nHolder_setting ?nHolder_costs ?nHolder_own ?aR ?xR ?saR ?gaR ?ggR ?nbR ?iR ?l8 ?c8 ?k8 ?tR ?kR ?eR ?tyR ?hR ?icR ?sR ?a9 ?l9 ?c9 ?k9 ?a10 ?l10 ?c10 ?k10 ?a11 ?l11 ?c11 ?k11 ?a12 ?l12 ?c12 ?k12 ?a13 ?l13 ?c13 ?k13 ?a14 ?l14 ?c14 ?k14 ?a15 ?l15 ?c15 ?k15 ?a16 ?l16 ?c16 ?k16 ?a17 ?l17 ?c17 ?k17 ?a18 ?l18 ?c18 ?k18 ?a19 ?l19 ?c19 ?k19 ?a20 ?l20 ?c20 ?k20 ?a21 ?l21 ?c21 ?k21 ?a22 ?l22 ?c22 ?k22 ?a23 ?l23 ?c23 ?k23 ?a24 ?l24 ?c24 ?k24 ?a25 ?l25 ?c25 ?k25 ?a26 ?l26 ?c26 ?k26 ?a27 ?l27 ?c27 ?k27 ?a28 ?l28 ?c28 ?k28 ?a29 ?l29 ?c29 ?k29 ?a30 ?l30 ?c30 ?k30 ?a31 ?l31 ?c31 ?k31 ?a32 ?l32 ?c32 ?k32 ?a33 ?l33 ?c33 ?k33 ?a34 ?l34 ?c34 ?k34 ?a35 ?l35 ?c35 ?k35 ?a36 ?l36 ?c36 ?k36 ?a37 ?l37 ?c37 ?k37 ?a38 ?l38 ?c38 ?k38 ?a39 ?l39 ?c39 ?k39 ?a40 ?l40 ?c40 ?k40 ?a41 ?l41 ?c41 ?k41 ?a42 ?l42 ?c42 ?k42 ?a43 ?l43 ?c43 ?k43 ?a44 ?l44 ?c44 ?k44 ?a45 ?l45 ?c45 ?k45 ?a46 ?l46 ?c46 ?k46 ?a47 ?l47 ?c47 ?k47 ?a48 ?l48 ?c48 ?k48 ?a49 ?l49 ?c49 ?k49 ?a50 ?l50 ?c50 ?k50 ?a51 ?l51 ?c51 ?k51 ?a52 ?l52 ?c52 ?k52 ?a53 ?l53 ?c53 ?k53 ?a54 ?l54 ?c54 ?k54 ?a55 ?l55 ?c55 ?k55 ?a56 ?l56 ?c56 ?k56 ?a57 ?l57 ?c57 ?k57 ?gCHANGE ?gKEEP ?gMOVE ?gOPEN ?gDONE ?gLOST ?gWITHDRAWN ?gMOST_WORD ?gMOST_TEXT ?gMOST_SETTING ?gMOST_PUT ?gMOST_READERS ?gMOST_WEIGHT ?gMOST_OPEN ?gMOST_MARKS ?gMOST_COST ?nValueError ?nenumerate ?nint ?nlen ?nlist ?nmax ?nmin ?nrange ?nreversed ?nset ?nsorted ?gWITH_ROW ?lWITH_ROW ?zWITH_ROW ?vWITH_ROW ?gNUMBERS ?lNUMBERS ?zNUMBERS ?vNUMBERS ?gDEEDS ?lDEEDS ?zDEEDS ?vDEEDS
    (case aWord => as_aux_lemma => k_is)
    (case iWord => as_aux_lemma => k_is)
    (case l0 => as_aux_lemma => k_is)
    (case c0 => as_aux_lemma => k_is)
    (case k0 => as_aux_lemma => k_is)
    (case jWord => as_aux_lemma => k_is)
    (case pgWord => as_aux_lemma => k_is)
    (case hdWord => as_aux_lemma => k_is)
    (case poWord => as_aux_lemma => k_is)
    (case saWord => as_aux_lemma => k_is)
    (case mkWord => as_aux_lemma => k_is)
    (case kcWord => as_aux_lemma => k_is)
    (case nWord_value => as_aux_lemma => k_is)
    (case nWord_own => as_aux_lemma => k_is)
    (case nWord_first => as_aux_lemma => k_is)
    (case nWord_mark => as_aux_lemma => k_is)
    (case aMark => as_aux_lemma => k_is)
    (case iMark => as_aux_lemma => k_is)
    (case l1 => as_aux_lemma => k_is)
    (case c1 => as_aux_lemma => k_is)
    (case k1 => as_aux_lemma => k_is)
    (case jMark => as_aux_lemma => k_is)
    (case pgMark => as_aux_lemma => k_is)
    (case hdMark => as_aux_lemma => k_is)
    (case poMark => as_aux_lemma => k_is)
    (case saMark => as_aux_lemma => k_is)
    (case mkMark => as_aux_lemma => k_is)
    (case kcMark => as_aux_lemma => k_is)
    (case nMark_kind => as_aux_lemma => k_is)
    (case nMark_reader => as_aux_lemma => k_is)
    (case nMark_i => as_aux_lemma => k_is)
    (case nMark_j => as_aux_lemma => k_is)
    (case nMark_k => as_aux_lemma => k_is)
    (case nMark_words => as_aux_lemma => k_is)
    (case nMark_state => as_aux_lemma => k_is)
    (case nMark_proof => as_aux_lemma => k_is)
    (case aChoice => as_aux_lemma => k_is)
    (case iChoice => as_aux_lemma => k_is)
    (case l2 => as_aux_lemma => k_is)
    (case c2 => as_aux_lemma => k_is)
    (case k2 => as_aux_lemma => k_is)
    (case jChoice => as_aux_lemma => k_is)
    (case pgChoice => as_aux_lemma => k_is)
    (case hdChoice => as_aux_lemma => k_is)
    (case poChoice => as_aux_lemma => k_is)
    (case saChoice => as_aux_lemma => k_is)
    (case mkChoice => as_aux_lemma => k_is)
    (case kcChoice => as_aux_lemma => k_is)
    (case nChoice_numbers => as_aux_lemma => k_is)
    (case nChoice_weight => as_aux_lemma => k_is)
    (case aCarried => as_aux_lemma => k_is)
    (case iCarried => as_aux_lemma => k_is)
    (case l3 => as_aux_lemma => k_is)
    (case c3 => as_aux_lemma => k_is)
    (case k3 => as_aux_lemma => k_is)
    (case jCarried => as_aux_lemma => k_is)
    (case pgCarried => as_aux_lemma => k_is)
    (case hdCarried => as_aux_lemma => k_is)
    (case poCarried => as_aux_lemma => k_is)
    (case saCarried => as_aux_lemma => k_is)
    (case mkCarried => as_aux_lemma => k_is)
    (case kcCarried => as_aux_lemma => k_is)
    (case nCarried_words => as_aux_lemma => k_is)
    (case nCarried_gaps => as_aux_lemma => k_is)
    (case nCarried_taken => as_aux_lemma => k_is)
    (case aCosts => as_aux_lemma => k_is)
    (case iCosts => as_aux_lemma => k_is)
    (case l4 => as_aux_lemma => k_is)
    (case c4 => as_aux_lemma => k_is)
    (case k4 => as_aux_lemma => k_is)
    (case jCosts => as_aux_lemma => k_is)
    (case pgCosts => as_aux_lemma => k_is)
    (case hdCosts => as_aux_lemma => k_is)
    (case poCosts => as_aux_lemma => k_is)
    (case saCosts => as_aux_lemma => k_is)
    (case mkCosts => as_aux_lemma => k_is)
    (case kcCosts => as_aux_lemma => k_is)
    (case nCosts_other => as_aux_lemma => k_is)
    (case nCosts_out => as_aux_lemma => k_is)
    (case nCosts_into => as_aux_lemma => k_is)
    (case aPlace => as_aux_lemma => k_is)
    (case iPlace => as_aux_lemma => k_is)
    (case l5 => as_aux_lemma => k_is)
    (case c5 => as_aux_lemma => k_is)
    (case k5 => as_aux_lemma => k_is)
    (case jPlace => as_aux_lemma => k_is)
    (case pgPlace => as_aux_lemma => k_is)
    (case hdPlace => as_aux_lemma => k_is)
    (case poPlace => as_aux_lemma => k_is)
    (case saPlace => as_aux_lemma => k_is)
    (case mkPlace => as_aux_lemma => k_is)
    (case kcPlace => as_aux_lemma => k_is)
    (case nPlace_begin => as_aux_lemma => k_is)
    (case nPlace_end => as_aux_lemma => k_is)
    (case nPlace_first => as_aux_lemma => k_is)
    (case nPlace_last => as_aux_lemma => k_is)
    (case aSlots => as_aux_lemma => k_is)
    (case iSlots => as_aux_lemma => k_is)
    (case l6 => as_aux_lemma => k_is)
    (case c6 => as_aux_lemma => k_is)
    (case k6 => as_aux_lemma => k_is)
    (case jSlots => as_aux_lemma => k_is)
    (case pgSlots => as_aux_lemma => k_is)
    (case hdSlots => as_aux_lemma => k_is)
    (case poSlots => as_aux_lemma => k_is)
    (case saSlots => as_aux_lemma => k_is)
    (case mkSlots => as_aux_lemma => k_is)
    (case kcSlots => as_aux_lemma => k_is)
    (case nSlots_counts => as_aux_lemma => k_is)
    (case nSlots_varied => as_aux_lemma => k_is)
    (case aHolder => as_aux_lemma => k_is)
    (case iHolder => as_aux_lemma => k_is)
    (case l7 => as_aux_lemma => k_is)
    (case c7 => as_aux_lemma => k_is)
    (case k7 => as_aux_lemma => k_is)
    (case jHolder => as_aux_lemma => k_is)
    (case pgHolder => as_aux_lemma => k_is)
    (case hdHolder => as_aux_lemma => k_is)
    (case poHolder => as_aux_lemma => k_is)
    (case saHolder => as_aux_lemma => k_is)
    (case mkHolder => as_aux_lemma => k_is)
    (case kcHolder => as_aux_lemma => k_is)
    (case nHolder_first => as_aux_lemma => k_is)
    (case nHolder_text => as_aux_lemma => k_is)
    (case nHolder_proof => as_aux_lemma => k_is)
    (case nHolder_weights => as_aux_lemma => k_is)
    (case nHolder_marks => as_aux_lemma => k_is)
    (case nHolder_taken => as_aux_lemma => k_is)
    (case nHolder_setting => as_aux_lemma => k_is)
    (case nHolder_costs => as_aux_lemma => k_is)
    (case nHolder_own => as_aux_lemma => k_is)
    (case aR => as_aux_lemma => k_is)
    (case xR => as_aux_lemma => k_is)
    (case saR => as_aux_lemma => k_is)
    (case gaR => as_aux_lemma => k_is)
    (case ggR => as_aux_lemma => k_is)
    (case nbR => as_aux_lemma => k_is)
    (case iR => as_aux_lemma => k_is)
    (case l8 => as_aux_lemma => k_is)
    (case c8 => as_aux_lemma => k_is)
    (case k8 => as_aux_lemma => k_is)
    (case tR => as_aux_lemma => k_is)
    (case kR => as_aux_lemma => k_is)
    (case eR => as_aux_lemma => k_is)
    (case tyR => as_aux_lemma => k_is)
    (case hR => as_aux_lemma => k_is)
    (case icR => as_aux_lemma => k_is)
    (case sR => first | rfl | k_is)
    (case a9 => as_aux_lemma => k_is)
    (case l9 => as_aux_lemma => k_is)
    (case c9 => as_aux_lemma => k_is)
    (case k9 => as_aux_lemma => k_is)
    (case a10 => as_aux_lemma => k_is)
    (case l10 => as_aux_lemma => k_is)
    (case c10 => as_aux_lemma => k_is)
    (case k10 => as_aux_lemma => k_is)
    (case a11 => as_aux_lemma => k_is)
    (case l11 => as_aux_lemma => k_is)
    (case c11 => as_aux_lemma => k_is)
    (case k11 => as_aux_lemma => k_is)
    (case a12 => as_aux_lemma => k_is)
    (case l12 => as_aux_lemma => k_is)
    (case c12 => as_aux_lemma => k_is)
    (case k12 => as_aux_lemma => k_is)
    (case a13 => as_aux_lemma => k_is)
    (case l13 => as_aux_lemma => k_is)
    (case c13 => as_aux_lemma => k_is)
    (case k13 => as_aux_lemma => k_is)
    (case a14 => as_aux_lemma => k_is)
    (case l14 => as_aux_lemma => k_is)
    (case c14 => as_aux_lemma => k_is)
    (case k14 => as_aux_lemma => k_is)
    (case a15 => as_aux_lemma => k_is)
    (case l15 => as_aux_lemma => k_is)
    (case c15 => as_aux_lemma => k_is)
    (case k15 => as_aux_lemma => k_is)
    (case a16 => as_aux_lemma => k_is)
    (case l16 => as_aux_lemma => k_is)
    (case c16 => as_aux_lemma => k_is)
    (case k16 => as_aux_lemma => k_is)
    (case a17 => as_aux_lemma => k_is)
    (case l17 => as_aux_lemma => k_is)
    (case c17 => as_aux_lemma => k_is)
    (case k17 => as_aux_lemma => k_is)
    (case a18 => as_aux_lemma => k_is)
    (case l18 => as_aux_lemma => k_is)
    (case c18 => as_aux_lemma => k_is)
    (case k18 => as_aux_lemma => k_is)
    (case a19 => as_aux_lemma => k_is)
    (case l19 => as_aux_lemma => k_is)
    (case c19 => as_aux_lemma => k_is)
    (case k19 => as_aux_lemma => k_is)
    (case a20 => as_aux_lemma => k_is)
    (case l20 => as_aux_lemma => k_is)
    (case c20 => as_aux_lemma => k_is)
    (case k20 => as_aux_lemma => k_is)
    (case a21 => as_aux_lemma => k_is)
    (case l21 => as_aux_lemma => k_is)
    (case c21 => as_aux_lemma => k_is)
    (case k21 => as_aux_lemma => k_is)
    (case a22 => as_aux_lemma => k_is)
    (case l22 => as_aux_lemma => k_is)
    (case c22 => as_aux_lemma => k_is)
    (case k22 => as_aux_lemma => k_is)
    (case a23 => as_aux_lemma => k_is)
    (case l23 => as_aux_lemma => k_is)
    (case c23 => as_aux_lemma => k_is)
    (case k23 => as_aux_lemma => k_is)
    (case a24 => as_aux_lemma => k_is)
    (case l24 => as_aux_lemma => k_is)
    (case c24 => as_aux_lemma => k_is)
    (case k24 => as_aux_lemma => k_is)
    (case a25 => as_aux_lemma => k_is)
    (case l25 => as_aux_lemma => k_is)
    (case c25 => as_aux_lemma => k_is)
    (case k25 => as_aux_lemma => k_is)
    (case a26 => as_aux_lemma => k_is)
    (case l26 => as_aux_lemma => k_is)
    (case c26 => as_aux_lemma => k_is)
    (case k26 => as_aux_lemma => k_is)
    (case a27 => as_aux_lemma => k_is)
    (case l27 => as_aux_lemma => k_is)
    (case c27 => as_aux_lemma => k_is)
    (case k27 => as_aux_lemma => k_is)
    (case a28 => as_aux_lemma => k_is)
    (case l28 => as_aux_lemma => k_is)
    (case c28 => as_aux_lemma => k_is)
    (case k28 => as_aux_lemma => k_is)
    (case a29 => as_aux_lemma => k_is)
    (case l29 => as_aux_lemma => k_is)
    (case c29 => as_aux_lemma => k_is)
    (case k29 => as_aux_lemma => k_is)
    (case a30 => as_aux_lemma => k_is)
    (case l30 => as_aux_lemma => k_is)
    (case c30 => as_aux_lemma => k_is)
    (case k30 => as_aux_lemma => k_is)
    (case a31 => as_aux_lemma => k_is)
    (case l31 => as_aux_lemma => k_is)
    (case c31 => as_aux_lemma => k_is)
    (case k31 => as_aux_lemma => k_is)
    (case a32 => as_aux_lemma => k_is)
    (case l32 => as_aux_lemma => k_is)
    (case c32 => as_aux_lemma => k_is)
    (case k32 => as_aux_lemma => k_is)
    (case a33 => as_aux_lemma => k_is)
    (case l33 => as_aux_lemma => k_is)
    (case c33 => as_aux_lemma => k_is)
    (case k33 => as_aux_lemma => k_is)
    (case a34 => as_aux_lemma => k_is)
    (case l34 => as_aux_lemma => k_is)
    (case c34 => as_aux_lemma => k_is)
    (case k34 => as_aux_lemma => k_is)
    (case a35 => as_aux_lemma => k_is)
    (case l35 => as_aux_lemma => k_is)
    (case c35 => as_aux_lemma => k_is)
    (case k35 => as_aux_lemma => k_is)
    (case a36 => as_aux_lemma => k_is)
    (case l36 => as_aux_lemma => k_is)
    (case c36 => as_aux_lemma => k_is)
    (case k36 => as_aux_lemma => k_is)
    (case a37 => as_aux_lemma => k_is)
    (case l37 => as_aux_lemma => k_is)
    (case c37 => as_aux_lemma => k_is)
    (case k37 => as_aux_lemma => k_is)
    (case a38 => as_aux_lemma => k_is)
    (case l38 => as_aux_lemma => k_is)
    (case c38 => as_aux_lemma => k_is)
    (case k38 => as_aux_lemma => k_is)
    (case a39 => as_aux_lemma => k_is)
    (case l39 => as_aux_lemma => k_is)
    (case c39 => as_aux_lemma => k_is)
    (case k39 => as_aux_lemma => k_is)
    (case a40 => as_aux_lemma => k_is)
    (case l40 => as_aux_lemma => k_is)
    (case c40 => as_aux_lemma => k_is)
    (case k40 => as_aux_lemma => k_is)
    (case a41 => as_aux_lemma => k_is)
    (case l41 => as_aux_lemma => k_is)
    (case c41 => as_aux_lemma => k_is)
    (case k41 => as_aux_lemma => k_is)
    (case a42 => as_aux_lemma => k_is)
    (case l42 => as_aux_lemma => k_is)
    (case c42 => as_aux_lemma => k_is)
    (case k42 => as_aux_lemma => k_is)
    (case a43 => as_aux_lemma => k_is)
    (case l43 => as_aux_lemma => k_is)
    (case c43 => as_aux_lemma => k_is)
    (case k43 => as_aux_lemma => k_is)
    (case a44 => as_aux_lemma => k_is)
    (case l44 => as_aux_lemma => k_is)
    (case c44 => as_aux_lemma => k_is)
    (case k44 => as_aux_lemma => k_is)
    (case a45 => as_aux_lemma => k_is)
    (case l45 => as_aux_lemma => k_is)
    (case c45 => as_aux_lemma => k_is)
    (case k45 => as_aux_lemma => k_is)
    (case a46 => as_aux_lemma => k_is)
    (case l46 => as_aux_lemma => k_is)
    (case c46 => as_aux_lemma => k_is)
    (case k46 => as_aux_lemma => k_is)
    (case a47 => as_aux_lemma => k_is)
    (case l47 => as_aux_lemma => k_is)
    (case c47 => as_aux_lemma => k_is)
    (case k47 => as_aux_lemma => k_is)
    (case a48 => as_aux_lemma => k_is)
    (case l48 => as_aux_lemma => k_is)
    (case c48 => as_aux_lemma => k_is)
    (case k48 => as_aux_lemma => k_is)
    (case a49 => as_aux_lemma => k_is)
    (case l49 => as_aux_lemma => k_is)
    (case c49 => as_aux_lemma => k_is)
    (case k49 => as_aux_lemma => k_is)
    (case a50 => as_aux_lemma => k_is)
    (case l50 => as_aux_lemma => k_is)
    (case c50 => as_aux_lemma => k_is)
    (case k50 => as_aux_lemma => k_is)
    (case a51 => as_aux_lemma => k_is)
    (case l51 => as_aux_lemma => k_is)
    (case c51 => as_aux_lemma => k_is)
    (case k51 => as_aux_lemma => k_is)
    (case a52 => as_aux_lemma => k_is)
    (case l52 => as_aux_lemma => k_is)
    (case c52 => as_aux_lemma => k_is)
    (case k52 => as_aux_lemma => k_is)
    (case a53 => as_aux_lemma => k_is)
    (case l53 => as_aux_lemma => k_is)
    (case c53 => as_aux_lemma => k_is)
    (case k53 => as_aux_lemma => k_is)
    (case a54 => as_aux_lemma => k_is)
    (case l54 => as_aux_lemma => k_is)
    (case c54 => as_aux_lemma => k_is)
    (case k54 => as_aux_lemma => k_is)
    (case a55 => as_aux_lemma => k_is)
    (case l55 => as_aux_lemma => k_is)
    (case c55 => as_aux_lemma => k_is)
    (case k55 => as_aux_lemma => k_is)
    (case a56 => as_aux_lemma => k_is)
    (case l56 => as_aux_lemma => k_is)
    (case c56 => as_aux_lemma => k_is)
    (case k56 => as_aux_lemma => k_is)
    (case a57 => as_aux_lemma => k_is)
    (case l57 => as_aux_lemma => k_is)
    (case c57 => as_aux_lemma => k_is)
    (case k57 => as_aux_lemma => k_is)
    (case gCHANGE => as_aux_lemma => k_is)
    (case gKEEP => as_aux_lemma => k_is)
    (case gMOVE => as_aux_lemma => k_is)
    (case gOPEN => as_aux_lemma => k_is)
    (case gDONE => as_aux_lemma => k_is)
    (case gLOST => as_aux_lemma => k_is)
    (case gWITHDRAWN => as_aux_lemma => k_is)
    (case gMOST_WORD => as_aux_lemma => k_is)
    (case gMOST_TEXT => as_aux_lemma => k_is)
    (case gMOST_SETTING => as_aux_lemma => k_is)
    (case gMOST_PUT => as_aux_lemma => k_is)
    (case gMOST_READERS => as_aux_lemma => k_is)
    (case gMOST_WEIGHT => as_aux_lemma => k_is)
    (case gMOST_OPEN => as_aux_lemma => k_is)
    (case gMOST_MARKS => as_aux_lemma => k_is)
    (case gMOST_COST => as_aux_lemma => k_is)
    (case nValueError => as_aux_lemma => k_is)
    (case nenumerate => as_aux_lemma => k_is)
    (case nint => as_aux_lemma => k_is)
    (case nlen => as_aux_lemma => k_is)
    (case nlist => as_aux_lemma => k_is)
    (case nmax => as_aux_lemma => k_is)
    (case nmin => as_aux_lemma => k_is)
    (case nrange => as_aux_lemma => k_is)
    (case nreversed => as_aux_lemma => k_is)
    (case nset => as_aux_lemma => k_is)
    (case nsorted => as_aux_lemma => k_is)
    (case gWITH_ROW => as_aux_lemma => k_is)
    (case lWITH_ROW => as_aux_lemma => k_is)
    (case zWITH_ROW => show _ ≤ _; decide)
    (case vWITH_ROW => repeat (first | exact .nil | refine .cons ⟨_, rfl⟩ ?_ | refine .cons rfl ?_))
    (case gNUMBERS => as_aux_lemma => k_is)
    (case lNUMBERS => as_aux_lemma => k_is)
    (case zNUMBERS => show _ ≤ _; decide)
    (case vNUMBERS => repeat (first | exact .nil | refine .cons ⟨_, rfl⟩ ?_ | refine .cons rfl ?_))
    (case gDEEDS => as_aux_lemma => k_is)
    (case lDEEDS => as_aux_lemma => k_is)
    (case zDEEDS => show _ ≤ _; decide)
    (case vDEEDS => repeat (first | exact .nil | refine .cons ⟨_, rfl⟩ ?_ | refine .cons rfl ?_))
  case S =>
    intro K H xs a hO hwi hask hx
    cases hx with
    | cons h1 h2 =>
      cases h2
      cases h1 with
      | lst hs ha =>
        have e := L2.ints_dw a.1 _ ha
        subst e
        exact ⟨_, a.1, rfl, hs, hask, fun H' p _ hp => .lst (L2.SqL.of hp) (L2.dw_ints _)⟩

end
